/- A part of the proof. -/
import Derived.Test.YtkanpclgnhdbiaaGreatDoorTicketApartCard0
import Derived.Test.YtkanpclgnhdbiaaGreatDoorProg
import Derived.KernelRfl
set_option linter.all false
set_option maxRecDepth 4000
set_option maxHeartbeats 4000000
open Array renaming all_eq_true_iff_forall_mem->UQ,ext'->VJ,getD_eq_getD_getElem?->SH,getElem?_append_left->Yk,getElem?_eq_getElem->SJ,getElem?_eq_none->YH,getElem?_eq_some_iff->SS,getElem?_modify->Wn,getElem?_setIfInBounds_ne->SX,getElem?_setIfInBounds_self_of_lt->Tb,getElem_mem->X8,mem_iff_getElem?->YN,mem_of_getElem?->Xa,range->WO,replicate->TS,toList_map->VQ
open BitVec renaming ofInt->Ul,toNat_or->ZA
open Bool renaming and_eq_true->Te,eq_iff_iff->U9,false_and->Vt,false_eq_true->TV,false_or->ZH,not_eq_true'->TZ,not_true->aq_,or_eq_true->Xn,true_and->UP
open Classical renaming byContradiction->Tv
open ForInStep renaming yield->Y7
open Go renaming Addr->Vf,BinOp->Wd,Call->Xy,CallKind->Xm,Code->Uc,Deferred->U8,Event->Uu,Field->Y5,Frame->Ug,FrameMode->Vk,Func->YL,FuncId->TY,Goroutine->SG,IntKind->T8,Item->W1,Loop->avU,LoopState->af',MapEntry->Wp,Oper->Tx,Operand->Tl,Program->SI,ResultVar->UU,TypeInfo->Wo,Value->SP,World->Tq
open Go.Act renaming put->Yf
open Go.BinOp renaming eql->XS,neq->Wz
open Go.Call renaming operands->VU
open Go.CallKind renaming deferred->YU,early->Vg,normal->Zg
open Go.Deferred renaming ofValue->Ve
open Go.Frame renaming catches->Z7,round->Xh
open Go.FrameMode renaming returning->YA
open Go.GStep renaming after->T_
open Go.Instr renaming beginRound->XR,checkKey->Vo,endLoop->ZZ,endRound->Xd,enterLoop->W6,findAsking->XQ,findKey->VT,getLoop->WN,sameBits->WF,takeDeferred->Ze
open Go.IntKind renaming bits->av4,i64->SD,signed->av3,u16->S7,u32->apT,u64->TD,wrap->Xk
open Go.LoopState renaming busy->avT
open Go.Next renaming value->Xc
open Go.Op renaming equal->Xx,equalIn->VF,operands->Tw
open Go.Operand renaming tmp->av1
open Go.Proofs.Tryz renaming f77->XX,f97->avY,prog->SA
open Go.Region renaming binds->Yz,linearise->Zl,schedule->VR,wanted->Tj
open Go.Region.linearise renaming go->UM
open Go.Result.ok renaming inj->avs
open Go.Sem renaming runT->VN,runT_eq->TE
open Go.Value renaming agg->TA,bool->Xj,cells->ae',chan->X2,int->SF,map->ZD,nilFunc->Y3,slice->TN
open Go.stepG renaming exec->Uj
open Int renaming toNat_natCast->VK
open List renaming all_cons->Z3,all_eq_true->Tu,any_cons->Y2,any_eq_true->UO,append_assoc->SC,append_nil->SN,cons_append->Vs,contains_eq_mem->Ut,countP_le_length->Zb,drop_drop->ar_,drop_eq_getElem_cons->T4,drop_eq_nil_of_le->T7,drop_zero->XJ,ext_getElem?->Yw,filter_congr->U3,filter_cons_of_neg->W4,filter_cons_of_pos->W3,foldl_cons->UV,foldl_nil->aa_,forIn_cons->W9,getD_eq_getElem?_getD->SE,getElem?_append_left->S0,getElem?_append_right->S_,getElem?_cons_succ->UR,getElem?_eq_getElem->SY,getElem?_eq_none->Ux,getElem?_eq_some_iff->SL,getElem?_map->Tp,getElem?_set_ne->Ud,getElem?_set_self->Xg,getElem?_take->Ui,getLastD_cons->ZC,length_append->SQ,length_drop->Ur,length_map->Ta,length_set->TK,length_singleton->TH,length_take->TC,mapM_cons->Uf,mapM_nil->UH,mapM_toArray->Yc,map_congr_left->VH,map_cons->U0,map_drop->an_,map_map->WS,map_nil->ZU,map_take->Wa,mem_append->SV,mem_append_left->Ti,mem_append_right->S5,mem_cons->SK,mem_cons_of_mem->Td,mem_cons_self->TF,mem_eraseDups->Zj,mem_filter->Uz,mem_filterMap->V_,mem_flatMap->S4,mem_map->Tf,mem_of_getElem?->S6,mem_range->TG,mem_range'->Yb,mem_toArray->TQ,nil_append->UN,nodup_cons->VX,nodup_nil->WR,not_mem_nil->SZ,range->SR,range'->Ub,range'_append_1->Zi,range'_succ->VW,range_eq_range'->Vx,replicate->TO,replicate_succ->Wy,reverse_nil->X_,set_append_left->U1,set_append_right->Ue,set_eq_take_append_cons_drop->XY,singleton_append->Y',take_append_drop->Vu,take_of_length_le->SW,take_succ_cons->VZ,take_zero->Zh
open Nat renaming add_mul->Vr,add_zero->UJ,le_refl->SO,le_trans->TL,lt_of_le_of_lt->Zs,lt_of_lt_of_le->Tg,lt_trans->Wr,lt_trichotomy->XO,min_eq_left->WB,mod_lt->avW,mul_le_mul_right->TM,mul_one->Y9,or_lt_two_pow->WQ,pow_le_pow_right->UT,pow_lt_pow_right->Xi,reduceAdd->SU,sub_self->Vp,sub_zero->Z',testBit_or->XM,testBit_two_pow->Wc,zero_add->Wv,zero_le->X9
open Option renaming bind_eq_some_iff->Th,getD_some->S8,map_eq_some_iff->Ts,map_some->UW,some->SM
open Option.some renaming injEq->Tm
open Std.Legacy.Range renaming forIn_eq_forIn_range'->WA,size->XB
namespace Go.Gg
open Go.Conc
structure JG (k:AV->Prop):Type where
 n:Nat
structure JF (X:Bool->Prop)(Z:Prop):Type where
 n:Nat
def QG (a:AV)(X:Bool->Prop)(Z:Prop)(_t:JF X Z):Prop:=(∃b,a=.val (.bool b)/\X b)\/(a=.val undef/\Z)
theorem aqY(b:Bool)(X:Bool->Prop)(Z:Prop)(t:JF X Z):QG (.val (.bool b)) X Z t=X b:=by
 unfold QG;refine propext ⟨λh=> ?_,λh=> .inl ⟨b,rfl,h⟩⟩;rcases h with⟨b',e,h⟩|⟨e,_⟩
 ·cases e;exact h
 ·cases e
theorem aqZ(X:Bool->Prop)(Z:Prop)(t:JF X Z):QG (.val undef) X Z t=Z:=by
 unfold QG;refine propext ⟨λh=> ?_,λh=> .inr ⟨rfl,h⟩⟩;rcases h with⟨b',e,_⟩|⟨_,h⟩
 ·cases e
 ·exact h
def P7 (lv:Bool)(P:SI)(f:AV)(H:List aa)(aG:List AV)(k:AV->Prop)(_t:JG k):Prop:=∃av,je lv P f H aG (λb H'=>b=av/\H'=H) (λ_ _=>False)/\k av
def afe (lv:Bool)(P:SI)(f:AV)(name:String)(H:List aa)(aG:List AV)(k:AV->Prop)(_t:JG k):Prop:=∃av,FT lv P f name H aG (λb H'=>b=av/\H'=H) (λ_ _=>False)/\k av
theorem gB{lv:Bool}{P:SI}{f:AV}{H:List aa}{aG:List AV}{k:AV->Prop}{t:JG k}(av:AV)(h:je lv P f H aG (λb H'=>b=av/\H'=H) (λ_ _=>False))(hk:k av):P7 lv P f H aG k t:=⟨av,h,hk⟩
section
variable (lv:Bool)(P:SI)
def AQ (s:AS)(o:Tx)(k:AV->Prop):Prop:=match o.op with
 |.call c=>match c.callee with
  |.value x=>ao (s.ev x) λf=>ao (fq s c.args.toList) λaG=>P7 lv P f s.H aG k ⟨0⟩
  |.invoke x name=>ao (s.ev x) λf=>ao (fq s c.args.toList) λaG=>afe lv P f name s.H aG k ⟨0⟩
  |.builtin .append=>match c.args.toList,c.argTypes.toList with
   |[x,y],[t,t']=>ao (jy P t t') λ(_,sz,_)=>ao (s.ev x) λa=>ao (s.ev y) λb=>a.wx λn l e=>e=.exact/\ao (s.src sz b) λ(m,l')=>l.length=n* sz/\l'.length=m* sz/\n+m<=2^30/\k (.sl (n+m) (l++l') .shut)
   |_,_=>False
  |_=>lK P s o k
 |_=>lK P s o k
def nk (all:Array Tx):List Tx->AS->(AS->Prop)->Prop
 |[],s,K=>K s
 |o::rest,s,K=>match o.guard with
  |none=>AQ lv P s o λav=>nk all rest (s.put o.dst av) K
  |some (j,cp)=>ao ((all[j]?).bind (·.dst)) λd=>ao (look s.T d) λa=>QG a (λb=>ry b cp (AQ lv P ⟨(d,.val (.bool cp))::s.T,s.H⟩ o λav=>nk all rest ((⟨(d,.val (.bool cp))::s.T,s.H⟩:AS).put o.dst av) K) (nk all rest ((⟨(d,.val (.bool !cp))::s.T,s.H⟩:AS).put o.dst (.val undef)) K) ⟨0⟩) (nk all rest (s.put o.dst (.val undef)) K) ⟨0⟩
end
section
variable {lv:Bool}{P:SI}{r:Option Nat}{o:Tx}{s:AS}
theorem adj{a:Act}{E:Env}{V:View}{av:AV}{N:Act->View->Prop}{Q:Ex->Act->View->Prop}(h1:∀E' V' v,E.Le E'->V'.role=V.role->V'.deaf=V.deaf->Conc E' V' s.H->ap E' av v->N (a.put o.dst v) V'):
  (∀nx V',Nx lv P (gU E V (λb H'=>b=av/\H'=s.H) (λ_ _=>False)) nx V'->mP lv P r o a N Q nx V')/\(∀v V',gU E V (λb H'=>b=av/\H'=s.H) (λ_ _=>False) (.panic [{v,recovered:=false}]) V'->Q (.panic [{v,recovered:=false}]) a V'):=by
 have hv:∀v V',gU E V (λb H'=>b=av/\H'=s.H) (λ_ _=>False) (.ret v) V'->N (a.put o.dst v) V':=λv V' ⟨b,E',H',hle,cq,fg,bx,bu,e1,e2⟩=>by
  subst e1 e2;exact h1 E' V' v hle cq fg bu bx
 have hp:∀ch V',gU E V (λb H'=>b=av/\H'=s.H) (λ_ _=>False) (.panic ch) V'->Q (.panic ch) a V':=λch V' ⟨pv,v,E',H',ff,hle,cq,fg,bx,bu,hk⟩=>hk.elim;refine⟨λnx V' hn=> ?_,λv V' h=>hp _ _ h⟩;cases nx with
 |value v=>exact hv _ _ hn
 |skip=>exact hv _ _ hn
 |enter f args=>
  refine Body.mono (R':=fun
   |.ret v,V'=>N (a.put o.dst v) V'
   |.panic ch,V'=>Q (.panic ch) a V') hn λot aU h=> ?_
  cases ot with
  |ret v=>exact hv _ _ h
  |panic ch=>exact hp _ _ h
 |round l f tmps aG b=>
  refine nq.mono (R':=fun
   |.ret v,V'=>N (a.put o.dst v) V'
   |.panic ch,V'=>Q (.panic ch) a V') hn λot aU h=> ?_
  cases ot with
  |ret v=>exact hv _ _ h
  |panic ch=>exact hp _ _ h
 |_=>exact hn.elim
theorem aqr{c:Xy}{x y:Tl}{t t' elem:TypeId}{sz n m:Nat}{z:SP}{l l':List AV}{av:AV}(ho:o.op=.call c)(a_:c.callee=.builtin .append)(cN:c.args=#[x,y]) (dU:c.argTypes=#[t,t']) (ht:jy P t t'=some (elem,sz,z))
  (hx:s.ev x=some (.sl n l .exact)) (hy:s.ev y=some av) (hs:s.src sz av=some (m,l')) (hl:l.length=n* sz) (eO:l'.length=m* sz) (hb:n+m<=2^30):dD lv P r o s (.sl (n+m) (l++l') .shut):=by
 intro E V a N Q hc aE bC hN;refine⟨bC,?_⟩;have dA:=ap.ev aE hx;have iV:=ap.ev aE hy;generalize ky:a.eval x=vx at dA;generalize sj:a.eval y=vy at iV;unfold execOp;rw[ho];dsimp only;unfold resolve;rw[a_];dsimp only;refine aA (au ?_);unfold invoke builtin;dsimp only;refine aA ?_;have nT:c.args.map a.eval=#[vx,vy]:=by rw[cN];simp[ky,sj]
 rw[nT,dU];obtain⟨base,cap,rfl⟩:∃base cap,vx=.slice base n cap:=by
  cases dA with
  |sl b o cap f dR he q1 q2=>exact⟨_,_,rfl⟩
  |nil he=>exact⟨_,_,rfl⟩
 have gX:cap=n:=by
  cases dA with
  |sl b o cap f dR he q1 q2=>exact he
  |nil he=>rfl
 subst gX;have ue:(l++l').length=(cap+m)* sz:=by rw[SQ,hl,eO,Vr]
 by_cases hm:m=0
 ·subst hm;have tS:l'=[]:=by simpa using eO
  subst tS;refine IX hc ht iV hs eO (SO _) ?_;refine au (hN E V _ (Env.Le.refl E) rfl rfl hc ?_);rw[UJ,SN];exact eQ _ _ _ _ _ dA
 ·refine IW hc ht dA iV hs hl eO hb (by omega) λrr cs cap' hf bx hle aY=> ?_;obtain⟨bu,r6⟩:=hc.aex (el:=elem) hf aY hle;have vB:(cap+m)* sz<=cs.size:=by rw[aY];exact TM _ hle
  refine aS.ghost (yx (f:=(0,0)) (cs:=cs) (el:=elem) (p:=(·<(cap+m)* sz)) (by simp[View.upd]) (λo _=>hf.2 o)) ?_;have qK:=Fw (n:=s.H.length) (m:=s.H.length) (SO _) (by simp[Env.tok,hc.n]) r6 hc.n;refine au (hN _ _ _ qK rfl rfl (bu.trim hc.aq) (Kr (I:=(V.laid rr cs elem (·<(cap+m)* sz)).ah) (e:=.shut) (sz:=sz) (cs:=cs) rfl (bx.mono qK) ue vB (λo h=>H8 (by simpa using h)) hle trivial))
theorem AQ.sound{k:AV->Prop}(h:AQ lv P s o k):∃av,dD lv P r o s av/\k av:=by
 unfold AQ at h;split at h
 ·rename_i c ho;split at h
  ·rename_i x a_;obtain⟨f,h1,hA⟩:=h.out;obtain⟨aG,h2,hB⟩:=hA.out;obtain⟨av,h3,h4⟩:=hB;refine⟨av,λE V a N Q hc aE bC hN=> ?_,h4⟩;have sh:=adj (lv:=lv) (P:=P) (r:=r) (o:=o) (Q:=Q) hN;refine⟨bC,?_⟩;unfold execOp;rw[ho];dsimp only;unfold resolve;rw[a_];dsimp only;have e:c.args.map a.eval=(c.args.toList.map a.eval).toArray:=(by apply VJ;simp);rw[e];exact(h3 E V (a.eval x) _ hc (ap.ev aE h1) (AF aE h2)).mono (λnx V' h=>sh.1 nx V' h) (λv V' h=>sh.2 v V' h)
  ·rename_i x name a_;obtain⟨f,h1,hA⟩:=h.out;obtain⟨aG,h2,hB⟩:=hA.out;obtain⟨av,h3,h4⟩:=hB;refine⟨av,λE V a N Q hc aE bC hN=> ?_,h4⟩;have sh:=adj (lv:=lv) (P:=P) (r:=r) (o:=o) (Q:=Q) hN;refine⟨bC,?_⟩;unfold execOp;rw[ho];dsimp only;unfold resolve;rw[a_];dsimp only;refine aA (au ?_);have e:c.args.map a.eval=(c.args.toList.map a.eval).toArray:=(by apply VJ;simp);rw[e];exact(h3 E V (a.eval x) _ hc (ap.ev aE h1) (AF aE h2)).mono (λnx V' h=>sh.1 nx V' h) (λv V' h=>sh.2 v V' h)
  ·rename_i a_;split at h
   ·rename_i x y t t' ha ht;obtain⟨⟨elem,sz,z⟩,h1,hA⟩:=h.out;obtain⟨a,h2,hB⟩:=hA.out;obtain⟨b,h3,hC⟩:=hB.out;obtain⟨n,l,e,e1,e0,hD⟩:=Qo hC;subst e1 e0;obtain⟨⟨m,l'⟩,h4,h5,h6,h7,h8⟩:=hD.out;exact⟨_,aqr ho a_ (nz ha) (sP ht) h1 h2 h3 h4 h5 h6 h7,h8⟩
   ·exact h.elim
  ·exact h.sound
 ·exact h.sound
end
section
variable {lv:Bool}{P:SI}{o:Tx}{T T':List (Nat×AV)}{H:List aa}{k:AV->Prop}
theorem C8:∀(l:List Tl),(∀x∈l,AS.ev ⟨T,H⟩ x=AS.ev ⟨T',H⟩ x)->fq ⟨T,H⟩ l=fq ⟨T',H⟩ l
 |[],_=>rfl
 |x::l,h=>by simp only[fq,h x (TF ..),C8 l λy hy=>h y (Td _ hy)]
theorem KN:∀(l:List (Nat×Tl)),(∀x∈l,AS.ev ⟨T,H⟩ x.2=AS.ev ⟨T',H⟩ x.2)->kg ⟨T,H⟩ l=kg ⟨T',H⟩ l
 |[],_=>rfl
 |x::l,h=>by simp only[kg,h x (TF ..),KN l λy hy=>h y (Td _ hy)]
theorem mapM_congr:∀(l:List Tl),(∀x∈l,AS.ev ⟨T,H⟩ x=AS.ev ⟨T',H⟩ x)->l.mapM (AS.ev ⟨T,H⟩)=l.mapM (AS.ev ⟨T',H⟩)
 |[],_=>rfl
 |x::l,h=>by simp only[Uf,h x (TF ..),mapM_congr l λy hy=>h y (Td _ hy)]
theorem J9(x:Option Tl)(h:∀y,x=some y->AS.ev ⟨T,H⟩ y=AS.ev ⟨T',H⟩ y):AS.jg ⟨T,H⟩ x=AS.jg ⟨T',H⟩ x:=by
 cases x with
 |none=>rfl
 |some y=>simp only[AS.jg,h y rfl]
theorem afn{op:Wd}{t:TypeId}{y:Tl}{a:AV}(h:AS.ev ⟨T,H⟩ y=AS.ev ⟨T',H⟩ y):iP P ⟨T,H⟩ op t y a k=iP P ⟨T',H⟩ op t y a k:=by
 unfold iP;split<;>first|rfl|rw[h]
theorem lK.congr(h:∀x∈o.op.operands,AS.ev ⟨T,H⟩ x=AS.ev ⟨T',H⟩ x)(ha:lK P ⟨T,H⟩ o k):lK P ⟨T',H⟩ o k:=by
 unfold lK at ha⊢;generalize o.op=op at h ha⊢;cases op with
 |call c=>
  have cN:∀x∈c.args,AS.ev ⟨T,H⟩ x=AS.ev ⟨T',H⟩ x:=λx hx=>h x (by simp[Tw,VU,hx]);dsimp only at ha⊢;split at ha
  ·obtain⟨x,h1,hA⟩:=ha.out;rw[h1,ao];obtain⟨t,h2,hB⟩:=hA.out;rw[h2,ao];rw[<- cN x (Xa h1)];obtain⟨a,h3,hC⟩:=hB.out;rw[h3,ao];exact hC
  ·split at ha
   ·rename_i x y LR;have:=nz LR;rw[this]at cN;rw[<- cN x (by simp),<- cN y (by simp)];exact ha
   ·exact ha.elim
  ·split at ha
   ·rename_i x y LR;have:=nz LR;rw[this]at cN;rw[<- cN x (by simp),<- cN y (by simp)];exact ha
   ·exact ha.elim
  ·exact ha.elim
 |build t parts=>
  dsimp only at ha⊢;rw[<- KN parts.toList λx hx=>h x.2 (by simp only[Tw,TQ,Tf];exact⟨x,hx,rfl⟩)];exact ha
 |buildSlice t n parts=>
  dsimp only at ha⊢;rw[<- KN parts.toList λx hx=>h x.2 (by simp only[Tw,TQ,Tf];exact⟨x,hx,rfl⟩)];exact ha
 |makeFunc f first cU=>
  dsimp only at ha⊢;rw[<- mapM_congr first.toList λx hx=>h x (by simp[Tw];exact .inl (by simpa using hx)),<- mapM_congr cU.toList λx hx=>h x (by simp[Tw];exact .inr (by simpa using hx))];exact ha
 |slice t x lo hi mx=>
  dsimp only at ha⊢;rw[<- h x (by simp[Tw]),<- J9 lo λy hy=>h y (by simp[Tw,hy]),<- J9 hi λy hy=>h y (by simp[Tw,hy]),<- J9 mx λy hy=>h y (by simp[Tw,hy])];exact ha
 |pick c a b=>dsimp only at ha⊢;rw[<- h c (by simp[Tw]),<- h a (by simp[Tw]),<- h b (by simp[Tw])];exact ha
 |binOp op t a b u=>
  dsimp only at ha⊢;rw[<- h a (by simp[Tw])];obtain⟨x,h1,hA⟩:=ha.out;rw[h1,ao];rw[<- afn (h b (by simp[Tw]))];exact hA
 |indexAddr t a b=>dsimp only at ha⊢;rw[<- h a (by simp[Tw]),<- h b (by simp[Tw])];exact ha
 |index t a b=>dsimp only at ha⊢;rw[<- h a (by simp[Tw]),<- h b (by simp[Tw])];exact ha
 |move x=>dsimp only at ha⊢;rw[<- h x (by simp[Tw])];exact ha
 |assign x=>dsimp only at ha⊢;rw[<- h x (by simp[Tw])];exact ha
 |unOp op t x=>cases op<;>dsimp only at ha⊢<;>first|exact ha.elim|(rw[<- h x (by simp[Tw])];exact ha)
 |convert a b x=>dsimp only at ha⊢;rw[<- h x (by simp[Tw])];exact ha
 |lookup t m x ok=>dsimp only at ha⊢;rw[<- h m (by simp[Tw]),<- h x (by simp[Tw])];exact ha
 |extract x i=>dsimp only at ha⊢;rw[<- h x (by simp[Tw])];exact ha
 |nilCheck x=>dsimp only at ha⊢;rw[<- h x (by simp[Tw])];exact ha
 |makeInterface t x=>dsimp only at ha⊢;rw[<- h x (by simp[Tw])];exact ha
 |typeAssert x a b c=>dsimp only at ha⊢;rw[<- h x (by simp[Tw])];exact ha
 |fieldAddr t x f=>dsimp only at ha⊢;rw[<- h x (by simp[Tw])];exact ha
 |field t x f=>dsimp only at ha⊢;rw[<- h x (by simp[Tw])];exact ha
 |load t x=>dsimp only at ha⊢;rw[<- h x (by simp[Tw])];exact ha
 |entry x=>dsimp only at ha⊢;rw[<- h x (by simp[Tw])];exact ha
 |_=>exact ha.elim
theorem aso(sz:Nat)(a:AV):AS.src ⟨T,H⟩ sz a=AS.src ⟨T',H⟩ sz a:=by cases a<;>rfl
theorem AQ.congr(h:∀x∈o.op.operands,AS.ev ⟨T,H⟩ x=AS.ev ⟨T',H⟩ x)(ha:AQ lv P ⟨T,H⟩ o k):AQ lv P ⟨T',H⟩ o k:=by
 unfold AQ at ha⊢;split at ha
 ·rename_i c ho;have cN:∀x∈c.args.toList,AS.ev ⟨T,H⟩ x=AS.ev ⟨T',H⟩ x:=λx hx=>h x (by rw[ho];simp[Tw,VU];exact .inr (by simpa using hx));split at ha
  ·rename_i x a_;rw[<- h x (by rw[ho];simp[Tw,VU,a_]),<- C8 _ cN];exact ha
  ·rename_i x name a_;rw[<- h x (by rw[ho];simp[Tw,VU,a_]),<- C8 _ cN];exact ha
  ·split at ha
   ·rename_i x y t t' hx ht;rw[hx]at cN;rw[<- cN x (by simp),<- cN y (by simp)];simp only[aso (T:=T) (T':=T')]at ha;exact ha
   ·exact ha.elim
  ·exact lK.congr h ha
 ·exact lK.congr h ha
end
def cX (ops:Array Tx)(j:Nat):Option Nat:=(ops[j]?).bind (·.dst)
inductive Reach (ops:Array Tx):Nat->Nat->Prop
 |KG {i j:Nat} {o:Tx} (ho:ops[i]?=some o) (hj:j∈cS o):Reach ops i j
 |more {i k j:Nat} {o:Tx} (ho:ops[i]?=some o) (hk:k∈cS o) (h:Reach ops k j):Reach ops i j
def uO (acc:List (List Nat))(o:Tx):List (List Nat):=acc++[(cS o++(cS o).flatMap λj=>acc.getD j []).eraseDups]
def Kf (ops:Array Tx):List (List Nat):=ops.toList.foldl uO []
theorem Q6(ops:Array Tx):∀(l:List Tx)(acc:List (List Nat))(i:Nat),acc.length=i->(∀k o,l[k]?=some o->ops[i+k]?=some o)->(∀a,a<acc.length->∀j∈acc.getD a [],Reach ops a j)->
  ∀a,∀j∈(l.foldl uO acc).getD a [],Reach ops a j
 |[],acc,i,_,_,h,a,j,hj=>by
  simp only[aa_]at hj;by_cases ha:a<acc.length
  ·exact h a ha j hj
  ·rw[SE,Ux (by omega)]at hj;simp at hj
 |o::l,acc,i,hi,ho,h,a,j,hj=>by
  rw[UV]at hj;refine Q6 ops l (uO acc o) (i+1) (by simp[uO,hi]) (λk o' hk=>by have:=ho (k+1) o' (by simpa using hk);rwa [show i+(k+1)=i+1+k by omega]at this) (λa ha j hj=> ?_) a j hj;have Hr:ops[i]?=some o:=by have:=ho 0 o rfl;simpa using this
  have rX:∀a,a<acc.length->(uO acc o).getD a []=acc.getD a []:=λa ha=>by
   simp[uO,SE,S0 ha]
  by_cases gp:a<acc.length
  ·rw[rX a gp]at hj;exact h a gp j hj
  ·have hae:a=acc.length:=(by simp[uO]at ha;omega);subst hae;have e:(uO acc o).getD acc.length []=(cS o++(cS o).flatMap λj=>acc.getD j []).eraseDups:=by
    simp[uO,SE]
   rw[e,Zj,SV]at hj;rw[hi];rcases hj with hj|hj
   ·exact .KG Hr hj
   ·obtain⟨k,hk,hj⟩:=S4.1 hj;have DX:k<acc.length:=by
     apply Tv;intro hn;rw[SE,Ux (by omega)]at hj;simp at hj
    exact .more Hr hk (h k DX j hj)
def AA (nt p:Nat)(ops:Array Tx):Bool:=
 let cl:=Kf ops;decide (p<=ops.size)&&
 (SR ops.size).all (λi=>match ops[i]?with
  |some o=>o.dst.all (·<nt)&& !mA o.op&&(cS o).all (·<i)&&
   (if i<p then
    (SR i).all (λj=>match o.dst,cX ops j with
     |some d,some d'=>d !=d'
     |_,_=>true)&&
    (o.op.operands.toList.all λx=>match x with
     |.tmp t=>(SR p).all λj=>cX ops j !=some t||(cS o).contains j
     |_=>true)&&
    (match o.guard with
     |some (j,_)=>(cS o).contains j
     |none=>true)
   else(SR i).all λj=>(cl.getD i []).contains j)
  |none=>true)
structure Ad (nt p:Nat)(ops:Array Tx):Prop where
 le:p<=ops.size
 dst:∀(i:Nat) o d,ops[i]?=some o->o.dst=some d->d<nt
 wE:∀(i:Nat) o,ops[i]?=some o->mA o.op=false
 low:∀(i:Nat) o,ops[i]?=some o->∀j∈cS o,j<i
 dP:∀(i j:Nat) o d,j<i->i<p->ops[i]?=some o->o.dst=some d->cX ops j≠some d
 OD:∀(i:Nat) o t j,i<p->ops[i]?=some o-> .tmp t∈o.op.operands->j<p->cX ops j=some t->j∈cS o
 Dj:∀(i:Nat) o j w,i<p->ops[i]?=some o->o.guard=some (j,w)->j∈cS o
 suf:∀(i j:Nat),p<=i->i<ops.size->j<i->Reach ops i j
theorem AA.out{nt p:Nat}{ops:Array Tx}(h:AA nt p ops=true):Ad nt p ops:=by
 unfold AA at h;simp only[Te,decide_eq_true_eq]at h;obtain⟨hle,h⟩:=h;have key:∀(i:Nat) o,ops[i]?=some o->(o.dst.all (·<nt)=true/\mA o.op=false/\(∀j∈cS o,j<i))/\
   (if i<p then
    (SR i).all (λj=>match o.dst,cX ops j with
     |some d,some d'=>d !=d'
     |_,_=>true)&&
    (o.op.operands.toList.all λx=>match x with
     |.tmp t=>(SR p).all λj=>cX ops j !=some t||(cS o).contains j
     |_=>true)&&
    (match o.guard with
     |some (j,_)=>(cS o).contains j
     |none=>true)
   else(SR i).all λj=>((Kf ops).getD i []).contains j)=true:=λi o ho=>by
  have hi:i<ops.size:=(SS.1 ho).1;have:=Tu.1 h i (by simpa using hi);rw[ho]at this;simp only[Te,Tu,TZ,decide_eq_true_eq]at this;exact⟨⟨this.1.1.1,this.1.1.2,this.1.2⟩,by simpa only[Te,Tu]using this.2⟩
 refine⟨hle,λi o d ho hd=> ?_,λi o ho=>(key i o ho).1.2.1,λi o ho=>(key i o ho).1.2.2,λi j o d hj hp ho hd e=> ?_,λi o t j hp ho ht hj e=> ?_,λi o j w hp ho hg=> ?_,λi j hp hi hj=> ?_⟩
 ·have:=(key i o ho).1.1;rw[hd]at this;simpa using this
 ·have:=(key i o ho).2;rw[if_pos hp]at this;simp only[Te,Tu]at this;have:=this.1.1 j (by simpa using hj);rw[hd,e]at this;simp at this
 ·have:=(key i o ho).2;rw[if_pos hp]at this;simp only[Te,Tu]at this;have:=this.1.2 (.tmp t) (by simpa using ht);simp only[Tu]at this;have:=this j (by simpa using hj);rw[e]at this;simpa using this
 ·have:=(key i o ho).2;rw[if_pos hp]at this;simp only[Te]at this;have:=this.2;rw[hg]at this;simpa using this
 ·have:=(key i ops[i] (SJ hi)).2;rw[if_neg (by omega)]at this;simp only[Tu]at this;have:=this j (by simpa using hj);refine Q6 ops ops.toList [] 0 rfl (λk o hk=>by simpa using hk) (by simp) i j ?_;simpa[Kf]using this
theorem Sl{α β:Type}{f g:α->Option β}:∀{l:List α},(∀x∈l,f x=g x)->l.filterMap f=l.filterMap g
 |[],_=>rfl
 |x::l,h=>by
  have ih:=Sl (l:=l) λy hy=>h y (Td _ hy);simp only[List.filterMap_cons,h x (TF ..),ih]
def k_ (ops:Array Tx)(f:Nat->AV)(o:Tx):List (Nat×AV):=(cS o).filterMap λj=>(cX ops j).map λd=>(d,f j)
def wh (lv:Bool)(P:SI)(r:Option Nat)(ops:Array Tx)(T0:List (Nat×AV))(H:List aa)(f:Nat->AV)(i:Nat)(o:Tx):Prop:=
 match o.guard with
 |none=>dD lv P r o ⟨k_ ops f o++T0,H⟩ (f i)
 |some (j,cp)=>∃d,cX ops j=some d/\((∃b,look (k_ ops f o++T0) d=some (.val (.bool b))/\(b=cp->dD lv P r o ⟨k_ ops f o++T0,H⟩ (f i))/\(b= !cp->f i=.val undef))\/(look (k_ ops f o++T0) d=some (.val undef)/\f i=.val undef))
theorem vT(l m:List (Nat×AV))(t:Nat):look (l++m) t=(look l t).or (look m t):=by
 induction l with
 |nil=>rfl
 |cons x l ih=>
  obtain⟨k,a⟩:=x;simp only[Vs,look];split
  ·rfl
  ·exact ih
theorem o5{l:List (Nat×AV)}{t:Nat}{a:AV}(h:look l t=some a):(t,a)∈l:=by
 induction l with
 |nil=>cases h
 |cons x l ih=>
  obtain⟨k,b⟩:=x;simp only[look]at h;split at h
  ·rename_i e;subst e;cases h;exact TF ..
  ·exact Td _ (ih h)
theorem Oe{l:List (Nat×AV)}{t:Nat}(h:∀p∈l,p.1≠t):look l t=none:=by
 induction l with
 |nil=>rfl
 |cons x l ih=>
  obtain⟨k,b⟩:=x;simp only[look];rw[if_neg (h _ (TF ..))];exact ih λp hp=>h p (Td _ hp)
theorem aoA{l:List (Nat×AV)}{q:Nat->Bool}{t:Nat}:look (l.filter λp=>q p.1) t=if q t then look l t else none:=by
 induction l with
 |nil=>simp[look]
 |cons x l ih=>
  obtain⟨k,b⟩:=x;by_cases hk:q k=true
  ·rw[W3 (by simpa using hk)];simp only[look];by_cases e:k=t
   ·subst e;simp[hk]
   ·simp[e,ih]
  ·rw[W4 (by simpa using hk),ih];simp only[look];by_cases e:k=t
   ·subst e;simp[hk]
   ·simp[e]
section
variable {ops:Array Tx}{f:Nat->AV}{p:Nat}
theorem aoy{o:Tx}{j t:Nat}(hj:j∈cS o)(ht:cX ops j=some t)(y9:∀j'∈cS o,cX ops j'=some t->j'=j):look (k_ ops f o) t=some (f j):=by
 cases e:look (k_ ops f o) t with
 |none=>
  exfalso;have hm:(t,f j)∈k_ ops f o:=V_.2 ⟨j,hj,by rw[ht];rfl⟩;have:∀(l:List (Nat×AV)),(t,f j)∈l->look l t≠none:=by
   intro l;induction l with
   |nil=>intro h;cases h
   |cons x l ih=>
    intro h;obtain⟨k,b⟩:=x;simp only[look];split
    ·simp
    ·rename_i aH;rcases SK.1 h with h|h
     ·cases h;exact absurd rfl aH
     ·exact ih h
  exact this _ hm e
 |some a=>
  obtain⟨j',iI,e'⟩:=V_.1 (o5 e);obtain⟨d,hd,e'⟩:=Ts.1 e';cases e';rw[y9 j' iI hd]
theorem aoz{o:Tx}{t:Nat}(h:∀j∈cS o,cX ops j≠some t):look (k_ ops f o) t=none:=by
 refine Oe λx hx e=> ?_;obtain⟨j,hj,e'⟩:=V_.1 hx;obtain⟨d,hd,e'⟩:=Ts.1 e';cases e';exact h j hj (by rw[hd];exact congrArg some e)
end
section
variable {lv:Bool}{P:SI}{r:Option Nat}{s:AS}{ops:Array Tx}{nt p:Nat}
def uK (s:AS)(ops:Array Tx)(p:Nat):List (Nat×AV):=s.T.filter λx=>(SR p).all λj=>cX ops j !=some x.1
theorem If(t:Nat):look (uK s ops p) t=if(SR p).all (λj=>cX ops j !=some t)then look s.T t else none:=aoA (q:=λt=>(SR p).all λj=>cX ops j !=some t)
structure pk (s:AS)(ops:Array Tx)(fs:List AV)(s':AS):Prop where
 H:s'.H=s.H
 new:∀j t,j<fs.length->cX ops j=some t->look s'.T t=fs[j]?
 old:∀t,(∀j,j<fs.length->cX ops j≠some t)->look s'.T t=look s.T t
theorem pk.put(aq:Ad nt p ops){fs:List AV}{s':AS}(h:pk s ops fs s')(hp:fs.length<p){o:Tx}(ho:ops[fs.length]?=some o)(av:AV):pk s ops (fs++[av]) (s'.put o.dst av):=by
 have hd:cX ops fs.length=o.dst:=by simp[cX,ho]
 refine⟨by rw[ft];exact h.H,λj t hj ht=> ?_,λt ht=> ?_⟩
 ·simp only[SQ,TH]at hj;by_cases Mv:j=fs.length
  ·subst Mv;rw[hd]at ht;rw[ht];simp[AS.put,look]
  ·have iI:j<fs.length:=(by omega);rw[S0 iI,<- h.new j t iI ht];cases tN:o.dst with
   |none=>rfl
   |some d=>
    have aH:d≠t:=λe=>aq.dP fs.length j o d iI hp ho tN (by rw[e];exact ht);simp[AS.put,look,aH]
 ·have hold:=h.old t λj hj=>ht j (by simp;omega);rw[<- hold];cases tN:o.dst with
  |none=>rfl
  |some d=>
   have aH:d≠t:=λe=>ht fs.length (by simp) (by rw[hd,tN,e]);simp[AS.put,look,aH]
theorem pk.su{fs:List AV}{s':AS}(h:pk s ops fs s'){d:Nat}{a:AV}(hd:look s'.T d=some a):pk s ops fs ⟨(d,a)::s'.T,s'.H⟩:=by
 have e:∀t,look ((d,a)::s'.T) t=look s'.T t:=λt=>by
  simp only[look];split
  ·rename_i e;subst e;exact hd.symm
  ·rfl
 exact⟨h.H,λj t hj ht=>by rw[e];exact h.new j t hj ht,λt ht=>by rw[e];exact h.old t ht⟩
theorem pk.seen(aq:Ad nt p ops){fs gs:List AV}{s':AS}(h:pk s ops fs s')(hp:fs.length<p){o:Tx}(ho:ops[fs.length]?=some o){t:Nat}(ht:∀j,j<p->cX ops j=some t->j∈cS o):
  look (k_ ops (λj=>(fs++gs).getD j (.val undef)) o++uK s ops p) t=look s'.T t:=by
 have iy:=aq.low fs.length o ho;have anf:∀j j',j<p->j'<p->cX ops j=some t->cX ops j'=some t->j'=j:=λj j' hj iI e e'=>by
  have get:∀i,i<p->∃o,ops[i]?=some o:=λi hi=>⟨_,SJ (Tg hi aq.le)⟩;rcases XO j j' with hlt|hlt|hlt
  ·obtain⟨o',bm⟩:=get j' iI;exact absurd e (aq.dP j' j o' t hlt iI bm (by simpa[cX,bm]using e'))
  ·exact hlt.symm
  ·obtain⟨o',bm⟩:=get j hj;exact absurd e' (aq.dP j j' o' t hlt hj bm (by simpa[cX,bm]using e))
 rw[vT];by_cases hex:∃j,j<p/\cX ops j=some t
 ·obtain⟨j,hj,w8⟩:=hex;have jH:=ht j hj w8;have dn:=iy j jH;rw[aoy jH w8 λj' iI e=>anf j j' hj (Wr (iy j' iI) hp) w8 e];rw[h.new j t dn w8];simp[SE,S0 dn,SY dn]
 ·have fA:∀j,j<p->cX ops j≠some t:=λj hj e=>hex ⟨j,hj,e⟩;rw[aoz λj hj=>fA j (Wr (iy j hj) hp),Option.none_or,If,if_pos (by simp only[Tu];intro j hj;simpa using fA j (by simpa using hj))];exact(h.old t λj hj=>fA j (by omega)).symm
theorem IQ(aq:Ad nt p ops){K:AS->Prop}:∀(n:Nat)(fs:List AV)(s':AS),fs.length+n=p->pk s ops fs s'->nk lv P ops ((ops.toList.take p).drop fs.length) s' K->
  ∃gs,(fs++gs).length=p/\(∀i o,fs.length<=i->i<p->ops[i]?=some o->wh lv P r ops (uK s ops p) s.H (λj=>(fs++gs).getD j (.val undef)) i o)/\∃dp,pk s ops (fs++gs) dp/\K dp
 |0,fs,s',hn,hr,h=>by
  have:(ops.toList.take p).drop fs.length=[]:=by
   apply T7;simp;omega
  rw[this]at h;exact⟨[],by simp;omega,λi o h1 h2=>absurd h2 (by omega),s',by simpa using hr,h⟩
 |n+1,fs,s',hn,hr,h=>by
  have hp:fs.length<p:=by omega
  have aY:fs.length<ops.size:=Tg hp aq.le;have ho:ops[fs.length]?=some ops[fs.length]:=SJ aY;generalize Bh:ops[fs.length]=o at ho;have hd:(ops.toList.take p).drop fs.length=o::(ops.toList.take p).drop (fs.length+1):=by
   rw[T4 (by simp;omega)];simp[Bh]
  rw[hd]at h;have amu:∀t,av1 t∈o.op.operands->∀j,j<p->cX ops j=some t->j∈cS o:=λt ht j hj e=>aq.OD fs.length o t j hp ho ht hj e;have cm:∀(s1:AS)(gs:List AV),pk s ops fs s1->∀x∈o.op.operands,AS.ev s1 x=AS.ev ⟨k_ ops (λj=>(fs++gs).getD j (.val undef)) o++uK s ops p,s.H⟩ x:=λs1 gs Ed x hx=>by
   cases x with
   |tmp t=>exact(Ed.seen aq hp ho (amu t hx)).symm
   |_=>rfl
  have go:∀(s1:AS),pk s ops fs s1->(AQ lv P s1 o λav=>nk lv P ops ((ops.toList.take p).drop (fs.length+1)) (s1.put o.dst av) K)->
    ∃av gs,(fs++av::gs).length=p/\dD lv P r o ⟨k_ ops (λj=>(fs++av::gs).getD j (.val undef)) o++uK s ops p,s.H⟩ av/\(∀i o,fs.length+1<=i->i<p->ops[i]?=some o->wh lv P r ops (uK s ops p) s.H (λj=>(fs++av::gs).getD j (.val undef)) i o)/\∃dp,pk s ops (fs++av::gs) dp/\K dp:=λs1 Ed h1=>by
   obtain⟨av0,_,_⟩:=h1.sound (r:=r);have dT:s1=⟨s1.T,s.H⟩:=(by rw[<- Ed.H]);rw[dT]at h1;have h2:=AQ.congr (T':=k_ ops (λj=>(fs++[]).getD j (.val undef)) o++uK s ops p) (λx hx=>by rw[<- dT];exact cm s1 [] Ed x hx) h1;obtain⟨av,hq,h3⟩:=h2.sound (r:=r);obtain⟨gs,g1,g2,dp,g3,g4⟩:=IQ aq n (fs++[av]) (s1.put o.dst av) (by simp;omega) (Ed.put aq hp ho av) (by rw[<- dT]at h3;simpa using h3);have e:fs++[av]++gs=fs++av::gs:=(by simp);rw[e]at g1 g2 g3;refine⟨av,gs,g1,?_,λi o hi=>g2 i o (by simpa using hi),dp,g3,g4⟩;have ed:k_ ops (λj=>(fs++av::gs).getD j (.val undef)) o=k_ ops (λj=>(fs++[]).getD j (.val undef)) o:=by
    unfold k_;apply Sl;intro j hj;have dn:=aq.low fs.length o ho j hj;simp[SE,S0 dn]
   rw[ed];exact hq
  simp only[nk]at h;split at h
  ·rename_i hg;obtain⟨av,gs,g1,g2,g3,g4⟩:=go s' hr h;refine⟨av::gs,g1,λi o' hi oS bm=> ?_,g4⟩;by_cases dB:i=fs.length
   ·subst dB;rw[ho]at bm;cases bm;unfold wh;rw[hg];simpa[SE]using g2
   ·exact g3 i o' (by omega) oS bm
  ·rename_i j cp hg;obtain⟨d,fJ,hA⟩:=h.out;obtain⟨a,eJ,hB⟩:=hA.out;have jH:=aq.Dj fs.length o j cp hp ho hg;have dn:=aq.low fs.length o ho j jH;have M_:∀gs,look (k_ ops (λj=>(fs++gs).getD j (.val undef)) o++uK s ops p) d=some a:=λgs=>by
    rw[hr.seen aq hp ho λj' iI e=> ?_]
    ·exact eJ
    ·have get:∀i,i<p->∃o,ops[i]?=some o:=λi hi=>⟨_,SJ (Tg hi aq.le)⟩;rcases XO j j' with hlt|hlt|hlt
     ·obtain⟨o',bm⟩:=get j' iI;exact absurd fJ (aq.dP j' j o' d hlt iI bm (by simpa[cX,bm]using e))
     ·rw[<- hlt];exact jH
     ·obtain⟨o',bm⟩:=get j (by omega);exact absurd e (aq.dP j j' o' d hlt (by omega) bm (by simpa[cX,bm]using fJ))
   rcases hB with⟨b,e1,hC,hD⟩|⟨e1,hZ⟩
   rotate_left
   ·subst e1;obtain⟨gs,g1,g2,dp,g3,g4⟩:=IQ aq n (fs++[.val undef]) _ (by simp;omega) (hr.put aq hp ho (.val undef)) (by simpa using hZ);have e:fs++[.val undef]++gs=fs++ .val undef::gs:=(by simp);rw[e]at g1 g2 g3;refine⟨.val undef::gs,g1,λi o' hi oS bm=> ?_,dp,g3,g4⟩;by_cases dB:i=fs.length
    ·subst dB;rw[ho]at bm;cases bm;unfold wh;rw[hg];exact⟨d,fJ,.inr ⟨M_ _,by simp[SE]⟩⟩
    ·exact g2 i o' (by simp;omega) oS bm
   subst e1;by_cases hb:b=cp
   ·subst hb;obtain⟨av,gs,g1,g2,g3,g4⟩:=go _ (hr.su eJ) (hC rfl);refine⟨av::gs,g1,λi o' hi oS bm=> ?_,g4⟩;by_cases dB:i=fs.length
    ·subst dB;rw[ho]at bm;cases bm;unfold wh;rw[hg];refine⟨d,fJ,.inl ⟨b,M_ _,λ_=>by simpa[SE]using g2,λe=>by cases b<;>cases e⟩⟩
    ·exact g3 i o' (by omega) oS bm
   ·have dG:b= !cp:=(by cases b<;>cases cp<;>simp_all);subst dG;have h3:=hD rfl;obtain⟨gs,g1,g2,dp,g3,g4⟩:=IQ aq n (fs++[.val undef]) _ (by simp;omega) ((hr.su eJ).put aq hp ho (.val undef)) (by simpa using h3);have e:fs++[.val undef]++gs=fs++ .val undef::gs:=(by simp);rw[e]at g1 g2 g3;refine⟨.val undef::gs,g1,λi o' hi oS bm=> ?_,dp,g3,g4⟩;by_cases dB:i=fs.length
    ·subst dB;rw[ho]at bm;cases bm;unfold wh;rw[hg];exact⟨d,fJ,.inl ⟨!cp,M_ _,λe=>absurd e hb,λ_=>by simp[SE]⟩⟩
    ·exact g2 i o' (by simp;omega) oS bm
structure JA (E:Env)(V:View)(ops:Array Tx)(T0:List (Nat×AV))(H:List aa)(f:Nat->AV)(X:List Nat)(a:Act)(nt:Nat):Prop where
 bz:Conc E V H
 base:cr E T0 a.tmps
 done:∀i∈X,∀d,cX ops i=some d->ap E (f i) (a.tmps.getD d undef)
 size:a.tmps.size=nt
theorem BT{X:List Nat}(hX:∀i∈X,∀o,ops[i]?=some o->∀j∈cS o,j∈X){i j:Nat}(h:Reach ops i j):((∀o,ops[i]?=some o->∀k∈cS o,k∈X))->j∈X:=by
 induction h with
 |KG ho hj=>intro hd;exact hd _ ho _ hj
 |more ho hk _ ih=>intro hd;exact ih (hX _ (hd _ ho _ hk))
theorem arK(aq:Ad nt p ops){X l:List Nat}(hs:mf ops X l):∀q,p<=q->q<=ops.size->(∀i,i∈X<->i<q)->(∀i∈X,∀o,ops[i]?=some o->∀j∈cS o,j∈X)->l=Ub q (ops.size-q):=by
 induction hs with
 |nil X h=>
  intro q hp hq hX _;have:ops.size<=q:=by
   apply Tv;intro hn;have:=(hX q).1 (h q (by omega));omega
  have:ops.size-q=0:=by omega
  rw[this];rfl
 |cons o ho hn hd _ ih=>
  rename_i X i l _;intro q hp hq hX hc;have hi:i<ops.size:=(SS.1 ho).1;have hiq:q<=i:=by
   apply Tv;intro h;exact hn ((hX i).2 (by omega))
  have hqi:i=q:=by
   apply Tv;intro aH;have:=BT hc (aq.suf i q (by omega) hi (by omega)) (λo' bm k hk=>by rw[ho]at bm;cases bm;exact hd k hk);have:=(hX q).1 this;omega
  subst hqi;have e:ops.size-i=(ops.size-(i+1))+1:=by omega
  rw[e,VW];congr 1;refine ih (i+1) (by omega) (by omega) (λk=> ?_) (λk hk o' bm j hj=> ?_)
  ·simp only[SK,hX];omega
  ·rcases SK.1 hk with rfl|hk
   ·rw[ho]at bm;cases bm;exact Td _ (hd j hj)
   ·exact Td _ (hc k hk o' bm j hj)
theorem aim{T0:List (Nat×AV)}{H:List aa}{f:Nat->AV}(aq:Ad nt p ops)(alh:∀j,j<p->∀d,cX ops j=some d->look T0 d=none)(ay:∀(i:Nat) o,i<p->ops[i]?=some o->wh lv P r ops T0 H f i o){X l:List Nat}(hs:mf ops X l):
  (∀i∈X,i<p)->(∀i∈X,∀o,ops[i]?=some o->∀j∈cS o,j∈X)->∀(E:Env)(V:View)(a:Act)(Q:Ex->Act->View->Prop),JA E V ops T0 H f X a nt->
   (∀E' V' a' X',Kept E E' V V' a a'->JA E' V' ops T0 H f X' a' nt->(∀i,i<p->i∈X')->dq lv P r ops Q (Ub p (ops.size-p)) a' V')->dq lv P r ops Q l a V:=by
 have full:∀X:List Nat,(∀i∈X,i<p)->(∀i,i<p->i∈X)->∀i,i∈X<->i<p:=λX h1 h2 i=>⟨h1 i,h2 i⟩;induction hs with
 |nil X h=>
  intro hX hc E V a Q ai hQ;have iA:p=ops.size:=by
   apply Tv;intro aH;have:=hX p (h p (by have:=aq.le;omega));omega
  have:=hQ E V a X (Kept.refl E V a) ai (λi hi=>h i (by omega));rw[iA,Vp]at this;exact this
 |cons o ho hn hd lV ih=>
  rename_i X i l;intro hX hc E V a Q ai hQ;have hi:i<ops.size:=(SS.1 ho).1;by_cases oS:i<p
  ·simp only[dq,ho];have oN:∀k∈i::X,k<p:=λk hk=>(SK.1 hk).elim (λe=>by rw[e];exact oS) (hX k);have bu:∀k∈i::X,∀o',ops[k]?=some o'->∀j∈cS o',j∈i::X:=λk hk o' bm j hj=>by
    rcases SK.1 hk with rfl|hk
    ·rw[ho]at bm;cases bm;exact Td _ (hd j hj)
    ·exact Td _ (hc k hk o' bm j hj)
   have tok:cr E (k_ ops f o++T0) a.tmps:=by
    intro t av e;rw[vT]at e;cases hl:look (k_ ops f o) t with
    |none=>rw[hl]at e;exact ai.base t av e
    |some x=>
     rw[hl]at e;cases e;obtain⟨j,hj,e⟩:=V_.1 (o5 hl);obtain⟨d,cD,e⟩:=Ts.1 e;cases e;obtain⟨oj,kL,jl⟩:=Th.1 cD;exact⟨by rw[ai.size];exact aq.dst j oj _ kL jl,ai.done j (hd j hj) _ cD⟩
   have tN:cX ops i=o.dst:=(by simp[cX,ho]);have put:∀{E' V'}(v:SP),E.Le E'->Conc E' V' H->ap E' (f i) v->JA E' V' ops T0 H f (i::X) (a.put o.dst v) nt:=λ{E' V'} v hle b_ hv=>by
    cases du:o.dst with
    |none=>
     refine⟨b_,ai.base.mono hle,λk hk d eE=> ?_,ai.size⟩;rcases SK.1 hk with rfl|hk
     ·rw[tN,du]at eE;cases eE
     ·exact(ai.done k hk d eE).mono hle
    |some d0=>
     have hlt:d0<a.tmps.size:=(by rw[ai.size];exact aq.dst i o d0 ho du);refine⟨b_,λt av e=> ?_,λk hk d eE=> ?_,by simp[Yf,ai.size]⟩
     ·have aH:d0≠t:=λe'=>(by rw[<- e',alh i oS d0 (by rw[tN,du])]at e;cases e);have:=ai.base.mono hle t av e;exact⟨by simpa[Yf]using this.1,by simpa[Yf,SH,SX aH]using this.2⟩
     ·by_cases rZ:k=i
      ·subst rZ;rw[tN,du]at eE;cases eE;simpa[Yf,SH,Tb hlt]using hv
      ·have aJ:k∈X:=(SK.1 hk).resolve_left rZ;have aH:d0≠d:=λe'=>by
        subst e';have hkp:=hX k aJ;have get:∀i,i<p->∃o,ops[i]?=some o:=λi hi=>⟨_,SJ (Tg hi aq.le)⟩;rcases XO k i with hlt|hlt|hlt
        ·exact aq.dP i k o d0 hlt oS ho du eE
        ·exact rZ hlt
        ·obtain⟨o',bm⟩:=get k hkp;exact aq.dP k i o' d0 hlt hkp bm (by simpa[cX,bm]using eE) (by rw[tN,du])
       have:=(ai.done k aJ d eE).mono hle;simpa[Yf,SH,SX aH]using this
   have go:dD lv P r o ⟨k_ ops f o++T0,H⟩ (f i)->xV lv P r o a V (dq lv P r ops Q l) Q:=λhq=>
    hq E V a _ Q ai.bz tok (.inr (aq.wE i o ho)) λE' V' v hle cq fg b_ hv=>
     ih oN bu E' V' (a.put o.dst v) Q (put v hle b_ hv) λbY aU cu mQ hk dj eN=>
      hQ bY aU cu mQ ⟨hle.trans hk.le,hk.size.trans (eg _ _ _),hk.defers.trans (put_defers _ _ _),hk.role.trans cq,hk.deaf.trans fg⟩ dj eN
   have A6:=ay i o oS ho;unfold wh at A6;split at A6
   ·rename_i DT;have hw:Tj o (yielded ops a.tmps)=true:=(by unfold Tj;rw[DT]);rw[if_pos hw];exact .inl (go A6)
   ·rename_i j cp DT;obtain⟨d,fJ,A6⟩:=A6;rcases A6 with⟨b,bU,h1,h2⟩|⟨bU,hu⟩
    rotate_left
    ·obtain⟨hlt,hv⟩:=tok d _ bU;have hy:yielded ops a.tmps j≠some cp:=by
      obtain⟨oj,kL,jl⟩:=Th.1 fJ;generalize hx:a.tmps.getD d undef=x at hv;cases hv;rw[SH,SJ hlt]at hx;simp only[S8]at hx;simp[yielded,kL,jl,SJ hlt,hx,undef]
     have hw:¬Tj o (yielded ops a.tmps)=true:=by
      unfold Tj;rw[DT];intro h;exact hy (by simpa using h)
     rw[if_neg hw];exact ih oN bu E V (a.put o.dst undef) Q (put undef (Env.Le.refl E) ai.bz (by rw[hu];exact .val _)) λbY aU cu mQ hk dj eN=>
      hQ bY aU cu mQ ⟨hk.le,hk.size.trans (eg _ _ _),hk.defers.trans (put_defers _ _ _),hk.role,hk.deaf⟩ dj eN
    obtain⟨hlt,hv⟩:=tok d _ bU;have hy:yielded ops a.tmps j=some b:=by
     obtain⟨oj,kL,jl⟩:=Th.1 fJ;generalize hx:a.tmps.getD d undef=x at hv;cases hv;rw[SH,SJ hlt]at hx;simp only[S8]at hx;simp[yielded,kL,jl,SJ hlt,hx]
    by_cases hb:b=cp
    ·have hw:Tj o (yielded ops a.tmps)=true:=(by unfold Tj;rw[DT];simp[hy,hb]);rw[if_pos hw];exact .inl (go (h1 hb))
    ·have hw:¬Tj o (yielded ops a.tmps)=true:=(by unfold Tj;rw[DT];simp[hy,hb]);rw[if_neg hw];have hu:=h2 (by cases b<;>cases cp<;>simp_all);exact ih oN bu E V (a.put o.dst undef) Q (put undef (Env.Le.refl E) ai.bz (by rw[hu];exact .val _)) λbY aU cu mQ hk dj eN=>
      hQ bY aU cu mQ ⟨hk.le,hk.size.trans (eg _ _ _),hk.defers.trans (put_defers _ _ _),hk.role,hk.deaf⟩ dj eN
  ·have eN:∀k,k<p->k∈X:=λk hk=>BT hc (aq.suf i k (by omega) hi (by omega)) (λo' bm j hj=>by rw[ho]at bm;cases bm;exact hd j hj);have hl:=arK aq (.cons o ho hn hd lV) p (SO _) aq.le (full X hX eN) hc;rw[hl];exact hQ E V a X (Kept.refl E V a) ai eN
theorem agM{id:Nat}{Φ:an->AS->Prop}(hm:P.follows .mixedOrders=true)(p:Nat)(aq:AA nt p ops=true)(h:nk lv P ops (ops.toList.take p) s (λs'=>iF lv P ops (ops.toList.drop p) s' (Φ .normal) (λpv s=>Φ (.panic pv) s))):aR lv P r nt (.region id ops true) s Φ:=by
 intro E V a Q ai hQ;have aq:=AA.out aq;obtain⟨gs,g1,g2,dp,g3,g4⟩:=IQ (lv:=lv) (r:=r) aq p [] s (by simp) ⟨rfl,by simp,by simp⟩ (by simpa using h);simp only[UN]at g1 g2 g3;refine PO λt=> ?_;rw[show VR (P.follows .mixedOrders) ops t=UM .any ops ops.size t (TS ops.size false) [] by unfold VR;rw[hm];simp[Zl]];have hs:=ab5 (ops:=ops) (λi o ho j hj=>aq.low i o ho j hj) ops.size t (TS ops.size false) [] ⟨by simp,λi hi=>by simp[hi]⟩ (TL Zb (by simp));refine aim (T0:=uK s ops p) (H:=s.H) aq (λj hj d hd=> ?_) (λi o hi ho=>g2 i o (by simp) hi ho) hs (by simp) (by simp) E V a Q ⟨ai.bz,λt av e=> ?_,by simp,ai.size⟩ λE' V' a' X' hk aV eN=> ?_
 ·rw[If,if_neg];simp only[Tu];intro h;have:=h j (by simpa using hj);rw[hd]at this;simp at this
 ·rw[If]at e;split at e
  ·exact ai.tok t av e
  ·cases e
 ·refine BM (Φ:=Φ) (λo ho d e=> ?_) (λo ho=> .inr ?_) (ops.size-p) p dp (by have:=aq.le;omega) g4 E' V' a' Q ⟨by rw[g3.H];exact aV.bz,λt av e=> ?_,aV.size⟩ (λae e bY aU cu s3 aJ qE he hΦ=>hQ ae e bY aU cu s3 (hk.trans aJ) qE he hΦ)
  ·obtain⟨i,hi⟩:=YN.1 ho;exact aq.dst i o d hi e
  ·obtain⟨i,hi⟩:=YN.1 ho;exact aq.wE i o hi
  ·by_cases hex:∃j,j<p/\cX ops j=some t
   ·obtain⟨j,hj,w8⟩:=hex;rw[g3.new j t (by omega) w8]at e;obtain⟨oj,kL,jl⟩:=Th.1 w8;refine⟨by rw[aV.size];exact aq.dst j oj t kL jl,?_⟩;have:=aV.done j (eN j hj) t w8;simpa[SE,e]using this
   ·have fA:∀j,j<p->cX ops j≠some t:=λj hj e=>hex ⟨j,hj,e⟩;rw[g3.old t λj hj=>fA j (by omega)]at e;refine aV.base t av ?_;rw[If,if_pos (by simp only[Tu];intro j hj;simpa using fA j (by simpa using hj))];exact e
end
def sX (T base Vn:List (Nat×AV)):Prop:=T.drop (T.length-base.length)=base/\((T.take (T.length-base.length)).all λp=>(Vn.any λq=>q.1==p.1)|| !(base.any λq=>q.1==p.1))=true
theorem age{l:List (Nat×AV)}{t:Nat}{a:AV}(h:look l t=some a):(l.any λq=>q.1==t)=true:=UO.2 ⟨_,o5 h,by simp⟩
theorem Od{l:List (Nat×AV)}{t:Nat}(h:(l.any λq=>q.1==t)=true):∃a,look l t=some a:=by
 induction l with
 |nil=>cases h
 |cons x l ih=>
  obtain⟨k,b⟩:=x;simp only[look];split
  ·exact⟨b,rfl⟩
  ·rename_i aH;refine ih ?_;simpa[Y2,aH]using h
theorem sX.look{T base Vn:List (Nat×AV)}(h:sX T base Vn){t:Nat}{a:AV}(hb:look base t=some a)(hv:look Vn t=none):look T t=some a:=by
 obtain⟨h1,h2⟩:=h;have e:T=T.take (T.length-base.length)++base:=by
  have:=(Vu (T.length-base.length) T).symm;rwa [h1]at this
 rw[e,vT];cases hl:Gg.look (T.take (T.length-base.length)) t with
 |none=>exact hb
 |some x=>
  exfalso;have:=Tu.1 h2 _ (o5 hl);simp only[Xn,TZ]at this;rcases this with this|this
  ·obtain⟨y,hy⟩:=Od this;rw[hv]at hy;cases hy
  ·rw[age hb]at this;cases this
def rD (base Vi Vn:List (Nat×AV))(Hn:List aa)(s':AS):Prop:=
 sX s'.T (Vi++base) Vn/\(∀p∈Vn,∃b,look s'.T p.1=some b/\Wk b p.2)/\∃G,s'.H=Hn++G/\(G=[]\/(bJ Hn/\∀p∈Vn,Lt Hn.length p.2))
section
variable {lv:Bool}{P:SI}{r:Option Nat}{s:AS}
theorem An{nt:Nat}{α:Type}{lt:α->α->Prop}(wf:WellFounded lt){c:Uc}{Φ:an->AS->Prop}(V:α->List (Nat×AV))(Hf:α->List aa)(ok:α->Prop)(m0:α)
  (vq:∀m m',(V m).map (·.1)=(V m').map (·.1)) (gI:∀p∈V m0,∃b,look s.T p.1=some b/\Wk b p.2) (u5:Hf m0=s.H) (hl:∀m,ok m->(Hf m).length=s.H.length) (hm:ok m0)
  (h:bJ s.H->(∀t a,look s.T t=some a->Lt s.H.length a)->∀m,ok m->∀R:AS->Prop,(∀s',(∃m',lt m' m/\ok m'/\rD s.T (V m) (V m') (Hf m') s')->R s')->aR lv P r nt c ⟨V m++s.T,Hf m⟩ (an.then R Φ)):aR lv P r nt (.loop c) s Φ:=by
 have same:∀m m' t,look (V m) t=none->look (V m') t=none:=λm m' t h=>Oe λp hp e=>by
  have h1:p.1∈(V m').map (·.1):=Tf.2 ⟨p,hp,rfl⟩;rw[vq m' m]at h1;obtain⟨q,hq,e'⟩:=Tf.1 h1;have h2:((V m).any λx=>x.1==t)=true:=UO.2 ⟨q,hq,by simp[e',e]⟩;obtain⟨a,ha⟩:=Od h2;rw[h]at ha;cases ha
 intro E V0 a Q ai hQ;have hlt:∀t a,look s.T t=some a->Lt s.H.length a:=λt x e=>by rw[<- ai.bz.n];exact(ai.tok t x e).2.lt
 have h0:s.Sub ⟨V m0++s.T,Hf m0⟩:=⟨λt x e=>by
  rw[vT]at e;cases hl:look (V m0) t with
  |none=>rw[hl]at e;exact⟨x,e,Wk.refl x⟩
  |some y=>rw[hl]at e;cases e;exact gI (t,x) (o5 hl),u5.symm⟩
 refine QA wf (s:=s) (λm=>⟨V m++s.T,Hf m⟩) ok m0 h0 hm (λm aq=>by rw[hl m aq];exact SO _) (λm aq=> ?_) E V0 a Q ai hQ;refine(h ai.bz.aq hlt m aq _ λ_ h=>h).mono λe s' hΦ=> ?_;cases e with
 |normal=>
  obtain⟨m',q1,q2,hk,hv,G,hG,tP⟩:=hΦ;have tok:∀t x,look (V m'++s.T) t=some x->∃b,look s'.T t=some b/\Wk b x/\(look (V m') t=some x\/look s.T t=some x):=λt x e=>by
   rw[vT]at e;cases hl:look (V m') t with
   |none=>
    rw[hl]at e;have hb:look (V m++s.T) t=some x:=(by rw[vT,same m' m t hl];exact e);exact⟨x,hk.look hb hl,Wk.refl x,.inr e⟩
   |some y=>
    rw[hl]at e;cases e;obtain⟨b,h1,h2⟩:=hv (t,x) (o5 hl);exact⟨b,h1,h2,.inl rfl⟩
  refine⟨m',q1,q2,?_⟩;rcases tP with rfl|⟨nX,MC⟩
  ·exact .inl ⟨λt x e=>by obtain⟨b,h1,h2,_⟩:=tok t x e;exact⟨b,h1,h2⟩,by rw[hG,SN]⟩
  ·refine .inr ⟨λt x e=> ?_,⟨G,hG⟩,nX⟩;obtain⟨b,h1,h2,h3⟩:=tok t x e;refine⟨b,h1,h2,?_⟩;rcases h3 with h3|h3
   ·exact MC (t,x) (o5 h3)
   ·show Lt (Hf m').length x;rw[hl m' q2];exact hlt t x h3
 |_=>exact hΦ
theorem ek{nt:Nat}{c:Uc}{Φ:an->AS->Prop}(n:Nat)(V:Nat->List (Nat×AV))(Hf:Nat->List aa)(ok:Nat->Prop)
  (vq:∀m m',(V m).map (·.1)=(V m').map (·.1)) (gI:∀p∈V 0,∃b,look s.T p.1=some b/\Wk b p.2) (u5:Hf 0=s.H) (hl:∀m,m<=n->ok m->(Hf m).length=s.H.length) (hm:ok 0)
  (h:bJ s.H->(∀t a,look s.T t=some a->Lt s.H.length a)->∀m,m<=n->ok m->∀R:AS->Prop,(∀s',(m<n/\ok (m+1)/\rD s.T (V m) (V (m+1)) (Hf (m+1)) s')->R s')->aR lv P r nt c ⟨V m++s.T,Hf m⟩ (an.then R Φ)):aR lv P r nt (.loop c) s Φ:=by
 refine An (measure λi=>n-i).wf V Hf (λi=>i<=n/\ok i) 0 vq gI u5 (λm h=>hl m h.1 h.2) ⟨X9 _,hm⟩ (λh1 h2 m aq R hR=> ?_);exact h h1 h2 m aq.1 aq.2 R λs' ⟨q1,q2,q3⟩=>hR s' ⟨m+1,(by show n-(m+1)<n-m;omega),⟨q1,q2⟩,q3⟩
end
theorem lC{T base Vn:List (Nat×AV)}(h1:T.drop (T.length-base.length)=base)(h2:((T.take (T.length-base.length)).all λp=>(Vn.any λq=>q.1==p.1)|| !(base.any λq=>q.1==p.1))=true):sX T base Vn:=⟨h1,h2⟩
theorem ji{H L:List aa}{x:SP}{k:AV->List aa->Prop}(hH:bJ H)(h:k (.val x) H):cH H.length (H++L) (.val x) k:=jE (Wk.refl _) rfl (SO _) hH (.val x) h
theorem iH{H L:List aa}{a b:AV}{k:AV->List aa->Prop}(hH:bJ H)(hw:Wk a b)(hl:Lt H.length b)(h:k b H):cH H.length (H++L) a k:=jE hw rfl (SO _) hH hl h
def aa.cellsOf:aa->Option (List AV)
 |.cells l _|.part _ l _|.own _ l _=>some l
 |_=>none
theorem ahK(l:List AV)(e:TypeId):aa.cellsOf (.cells l e)=some l:=rfl
theorem ahM(p:Nat)(l:List AV)(e:TypeId):aa.cellsOf (.part p l e)=some l:=rfl
def aa.rowOf:aa->Option (List AV)
 |.cells l _|.part _ l _|.own _ l _=>some l
 |_=>none
theorem arn(l:List AV)(e:TypeId):aa.rowOf (.cells l e)=some l:=rfl
theorem ahL(p:Nat)(l:List AV)(e:TypeId):aa.cellsOf (.own p l e)=some l:=rfl
theorem aro(p:Nat)(l:List AV)(e:TypeId):aa.rowOf (.own p l e)=some l:=rfl
theorem arp(p:Nat)(l:List AV)(e:TypeId):aa.rowOf (.part p l e)=some l:=rfl
theorem agJ(T:List (Nat×AV))(H:List aa)(i off:Nat):AS.at ⟨T,H⟩ (.op i off)=((H[i]?).bind aa.cellsOf).map λl=>l.drop off:=by
 simp only[AS.at];cases H[i]?with
 |none=>rfl
 |some x=>cases x<;>rfl
theorem apZ(k:T8)(n:Int):AV.parts (.val (.int k n))=some [.val (.int k n)]:=rfl
theorem apV(b:Bool):AV.parts (.val (.bool b))=some [.val (.bool b)]:=rfl
theorem ap9(b:ByteArray):AV.parts (.val (.string b))=some [.val (.string b)]:=rfl
theorem ap6(b:Option Vf):AV.parts (.val (.pointer b))=some [.val (.pointer b)]:=rfl
theorem ap2:AV.parts (.val .nilFunc)=some [.val .nilFunc]:=rfl
theorem ap3:AV.parts (.val .nilIface)=some [.val .nilIface]:=rfl
theorem ap0(r:Option Nat):AV.parts (.val (.map r))=some [.val (.map r)]:=rfl
theorem apU(l:List AV):AV.parts (.agg l)=some l:=rfl
theorem ap8(n:Nat)(l:List AV)(e:End):AV.parts (.sl n l e)=some [.sl n l e]:=rfl
theorem aog(n:Nat)(l:List AV)(e:End):AV.len (.sl n l e)=some n:=by rw[AV.len]
theorem aof(i o n c:Nat):AV.len (.bA i o n c)=some n:=by rw[AV.len]
attribute [seval] aog aof
theorem ap5(i o n c:Nat):AV.parts (.bA i o n c)=some [.bA i o n c]:=rfl
theorem ap7(l:List AV):AV.parts (.rp l)=some [.rp l]:=rfl
theorem ap4(i o:Nat):AV.parts (.op i o)=some [.op i o]:=rfl
theorem apX(f:Fn)(l m:List AV):AV.parts (.fn f l m)=some [.fn f l m]:=rfl
theorem apY(t:TypeId)(a:AV):AV.parts (.cZ t a)=some [.cZ t a]:=rfl
theorem ap1(i:Nat):AV.parts (.mp i)=some [.mp i]:=rfl
theorem an0(k:T8)(n:Int):AV.leaf (.val (.int k n))=true:=rfl
theorem anW(b:Bool):AV.leaf (.val (.bool b))=true:=rfl
theorem aob(b:ByteArray):AV.leaf (.val (.string b))=true:=rfl
theorem an8(b:Option Vf):AV.leaf (.val (.pointer b))=true:=rfl
theorem an3:AV.leaf (.val .nilFunc)=true:=rfl
theorem an4:AV.leaf (.val .nilIface)=true:=rfl
theorem an1(r:Option Nat):AV.leaf (.val (.map r))=true:=rfl
theorem aoa(n:Nat)(l:List AV)(e:End):AV.leaf (.sl n l e)=true:=rfl
theorem an7(i o n c:Nat):AV.leaf (.bA i o n c)=true:=rfl
theorem an9(l:List AV):AV.leaf (.rp l)=true:=rfl
theorem an6(i o:Nat):AV.leaf (.op i o)=true:=rfl
theorem anY(f:Fn)(l m:List AV):AV.leaf (.fn f l m)=true:=rfl
theorem anZ(t:TypeId)(a:AV):AV.leaf (.cZ t a)=true:=rfl
theorem an2(i:Nat):AV.leaf (.mp i)=true:=rfl
theorem apq(k:T8)(n:Int):AV.p_ (.int k n)=.val (.int k n):=rfl
theorem apm(b:Bool):AV.p_ (.bool b)=.val (.bool b):=rfl
theorem apt:AV.p_ (.slice none 0 0)=.sl 0 [] .exact:=rfl
theorem apn:AV.p_ .nilFunc=.val .nilFunc:=rfl
theorem apo:AV.p_ .nilIface=.val .nilIface:=rfl
theorem aps(a:Option Vf):AV.p_ (.pointer a)=.val (.pointer a):=rfl
theorem apr(a:Option Nat):AV.p_ (.map a)=.val (.map a):=rfl
theorem auq(l:List SP):mc (.agg l.toArray)=l.map AV.p_:=by simp[mc,ae']
theorem auv(k:T8)(n:Int):mc (.int k n)=[.val (.int k n)]:=rfl
theorem aur(b:Bool):mc (.bool b)=[.val (.bool b)]:=rfl
theorem auy:mc (.slice none 0 0)=[.sl 0 [] .exact]:=rfl
theorem aut:mc .nilFunc=[.val .nilFunc]:=rfl
theorem auu:mc .nilIface=[.val .nilIface]:=rfl
theorem aux(a:Option Vf):mc (.pointer a)=[.val (.pointer a)]:=rfl
theorem auw(a:Option Nat):mc (.map a)=[.val (.map a)]:=rfl
theorem aiW(s:AS):kg s []=some []:=rfl
theorem aiV(s:AS)(i:Nat)(x:Tl)(l:List (Nat×Tl)):kg s ((i,x)::l)=(s.ev x).bind λa=>(kg s l).map λaG=>(i,a)::aG:=by
 simp only[kg];cases s.ev x with
 |none=>rfl
 |some a=>cases kg s l<;>rfl
theorem akg(p:Nat->Option (Nat×Nat))(c:List AV):oG p c []=some c:=rfl
theorem akf(p:Nat->Option (Nat×Nat))(c:List AV)(i:Nat)(a:AV)(r:List (Nat×AV)):oG p c ((i,a)::r)=(p i).bind λx=>(a.parts).bind λlp=>if lp.length≠x.2\/x.1+lp.length>c.length then none else oG p (iL c x.1 lp) r:=by
 simp only[oG];cases p i with
 |none=>rfl
 |some x=>cases a.parts<;>rfl
theorem aqh(l:List (Nat×Nat))(i:Nat):ik.at (.fields l) i=l[i]?:=rfl
theorem aqg(sz i:Nat):ik.at (.elems sz) i=some (i* sz,sz):=rfl
theorem auo(z:SP):gD z 0=[]:=rfl
theorem asq(s:AS)(sz m:Nat)(l:List AV)(e:End):s.src sz (.sl m l e)=some (m,l.take (m* sz)):=rfl
theorem asp(T:List (Nat×AV))(H:List aa)(sz i off m c:Nat):AS.src ⟨T,H⟩ sz (.bA i off m c)=((H[i]?).bind aa.rowOf).map λl=>(m,(l.drop off).take (m* sz)):=by
 simp only[AS.src];cases H[i]?with
 |none=>rfl
 |some x=>cases x<;>rfl
theorem agB(n:Nat)(l:List AV)(e:End)(kO:Nat->Nat->Nat->Nat->Prop)(k:Nat->List AV->End->Prop):AV.qt (.sl n l e) kO k=k n l e:=by rw[AV.qt]
theorem agA(i o n c:Nat)(kO:Nat->Nat->Nat->Nat->Prop)(k:Nat->List AV->End->Prop):AV.qt (.bA i o n c) kO k=kO i o n c:=by rw[AV.qt]
theorem agk:type_of% @uy.eq_1:=by intros;rw[uy.eq_1]
theorem agi(s:AS)(dst:Option Nat)(next:AS->Prop)(n m sz:Nat)(elem:TypeId)(l l':List AV):Cj s dst next n m sz elem l l' .exact=next ((⟨s.T,s.H++[.tail (n+m) sz elem]⟩:AS).put dst (.sl (n+m) (l++l') (.opn s.H.length))):=rfl
theorem agj(s:AS)(dst:Option Nat)(next:AS->Prop)(n m sz:Nat)(elem:TypeId)(l l':List AV)(k:Nat):Cj s dst next n m sz elem l l' (.opn k)=((match s.H[k]?with
   |some (.tail n' eI gV)=>n'=n/\eI=sz/\gV=elem
   |_=>False)/\(∀a∈l',a.leaf=true)/\next ((⟨s.T,s.H.set k (.tail (n+m) sz elem)⟩:AS).put dst (.sl (n+m) (l++l') (.opn k)))):=rfl
theorem ard(P:SI)(T:List (Nat×AV))(H:List aa)(b t:Nat):vX P ⟨T,H⟩ (.cell b t)=(look T b).bind λp=>((⟨T,H⟩:AS).at p).bind λl=>(Ty P t).bind λx=>if x.2 then(if x.1<=l.length then some (.agg (l.take x.1))else none)else l[0]?:=rfl
section
variable {lv:Bool}{P:SI}{s s':AS}
@[congr] theorem avC {α : Type} {x y : Option α} {k : α -> Prop} (h : x = y) : ao x k = ao y k := by rw [h]
@[congr] theorem auM {a b : AV} {k : Bool -> Prop} (h : a = b) : AV.asBool a k = AV.asBool b k := by rw [h]
@[congr] theorem auN {a b : AV} {k : T8 -> Int -> Prop} (h : a = b) : AV.asInt a k = AV.asInt b k := by rw [h]
@[congr] theorem auS {a b : AV} {k : List AV -> Prop} (h : a = b) : AV.ya a k = AV.ya b k := by rw [h]
@[congr] theorem auL {a b : AV} {k : List AV -> Prop} (h : a = b) : AV.asAgg a k = AV.asAgg b k := by rw [h]
@[congr] theorem auP {a b : AV} {k : Nat -> Nat -> Prop} (h : a = b) : AV.qq a k = AV.qq b k := by rw [h]
@[congr] theorem auO {a b : AV} {k : Nat -> Prop} (h : a = b) : AV.s_ a k = AV.s_ b k := by rw [h]
@[congr] theorem auR {a b : AV} {k : Nat -> List AV -> End -> Prop} (h : a = b) : AV.wx a k = AV.wx b k := by rw [h]
@[congr] theorem auQ {a b : AV} {kO : Nat -> Nat -> Nat -> Nat -> Prop} {k : Nat -> List AV -> End -> Prop} (h : a = b) : AV.qt a kO k = AV.qt b kO k := by rw [h]
@[congr] theorem auJ {H H' : List aa} {k : AV -> List aa -> Prop} {id o0 off EW n n' c0 QU m m' sz : Nat} {elem : TypeId} {l l' : List AV} (h0 : H = H') (h1 : id = o0) (h2 : off = EW) (h3 : n = n') (h4 : c0 = QU) (h5 : m = m') (h6 : l = l') : uy H k id off n c0 m sz elem l = uy H' k o0 EW n' QU m' sz elem l' := by rw [h0, h1, h2, h3, h4, h5, h6]
@[congr] theorem auB {op : Wd} {t : TypeId} {a a' b b' : AV} {k : AV -> Prop} (h : a = a') (h' : b = b') : dK P op t a b k = dK P op t a' b' k := by rw [h, h']
@[congr] theorem auA {s' : AS} {op : Wd} {t : TypeId} {y : Tl} {a a' : AV} {k : AV -> Prop} (hs : s = s') (h : a = a') : iP P s op t y a k = iP P s' op t y a' k := by rw [hs, h]
@[congr] theorem auE {a b : AV} {k : AV -> Prop} (h : a = b) : mJ P a k = mJ P b k := by rw [h]
@[congr] theorem auz {t : TypeId} {ok : Bool} {a b : AV} {k : AV -> Prop} (h : a = b) : Ch P t ok a k = Ch P t ok b k := by rw [h]
@[congr] theorem auD {t : TypeId} {a b : AV} {k : AV -> Prop} (h : a = b) : sS P s t a k = sS P s t b k := by rw [h]
@[congr] theorem auH {t : TypeId} {a b : AV} {x y z : Option Int} {k : AV -> Prop} (h : a = b) : sT P t a x y z k = sT P t b x y z k := by rw [h]
@[congr] theorem auF {o : Tx} {k : AV -> Prop} (h : s = s') : lK P s o k = lK P s' o k := by rw [h]
@[congr] theorem auK {o : Tx} {k : AV -> Prop} (h : s = s') : AQ lv P s o k = AQ lv P s' o k := by rw [h]
@[congr] theorem auI {o : Tx} {next : AS -> Prop} {bad : AV -> AS -> Prop} (h : s = s') : mK lv P s o next bad = mK lv P s' o next bad := by rw [h]
@[congr] theorem auG {all : Array Tx} {l : List Tx} {next : AS -> Prop} {bad : AV -> AS -> Prop} (h : s = s') : iF lv P all l s next bad = iF lv P all l s' next bad := by rw [h]
@[congr] theorem avE {all : Array Tx} {l l' : List Tx} {K : AS -> Prop} (hl : l = l') (h : s = s') : nk lv P all l s K = nk lv P all l' s' K := by rw [hl, h]
@[congr] theorem auV {r : Option Nat} {nt : Nat} {c : Uc} {Φ : an -> AS -> Prop} (h : s = s') : aR lv P r nt c s Φ = aR lv P r nt c s' Φ := by rw [h]
@[congr] theorem avL {K : AS -> Prop} {Φ : an -> AS -> Prop} {e e' : an} (he : e = e') (h : s = s') : an.then K Φ e s = an.then K Φ e' s' := by rw [he, h]
@[congr] theorem avz {i : Nat} {Φ : an -> AS -> Prop} {e e' : an} (he : e = e') (h : s = s') : an.inBlock i Φ e s = an.inBlock i Φ e' s' := by rw [he, h]
end
theorem afI:type_of% @iF.eq_1:=by intros;rw[iF.eq_1]
theorem afH:type_of% @iF.eq_2:=by intros;rw[iF.eq_2]
theorem afO:type_of% @mK.eq_1:=by intros;rw[mK.eq_1]
theorem afG:type_of% @lK.eq_1:=by intros;rw[lK.eq_1]
theorem aqq:type_of% @nk.eq_1:=by intros;rw[nk.eq_1]
theorem aqp:type_of% @nk.eq_2:=by intros;rw[nk.eq_2]
theorem afJ:type_of% @AQ.eq_1:=by intros;rw[AQ.eq_1]
theorem ara:type_of% @ig.eq_1:=by intros;rw[ig.eq_1]
theorem aq9:type_of% @ig.eq_2:=by intros;rw[ig.eq_2]
theorem arc:type_of% @jc.eq_1:=by intros;rw[jc.eq_1]
theorem aiZ:type_of% @fq.eq_1:=by intros;rw[fq.eq_1]
theorem aiY:type_of% @fq.eq_2:=by intros;rw[fq.eq_2]
theorem afk:type_of% @Ch.eq_1:=by intros;rw[Ch.eq_1]
theorem aql:type_of% @iL.eq_1:=by intros;rw[iL.eq_1]
theorem arb:jc []=.aQ []:=by rw[jc];simp
theorem adm(a b:AV)(l:List AV):jc (a::b::l)=.aQ (a::b::l):=by rw[jc];simp
theorem as9(l:List AV):(AV.rp l).sure=true:=by simp[AV.sure]
theorem as7(i j:Nat):(AV.op i j).sure=true:=by simp[AV.sure]
theorem as1(f:TY)(x y:List AV):(AV.fn (.func f) x y).sure=true:=by simp[AV.sure]
theorem as3(t:TypeId)(x:AV):(AV.cZ t x).sure=true:=by simp[AV.sure]
theorem afC(P:SI)(k:AV->Prop)(name:String)(t:TypeId)(av:AV):mJ P (.fn (.method name) [.cZ t av] []) k=(JI P t name/\k (.fn (.method name) [.cZ t av] [])):=by rw[mJ]
theorem afE(P:SI)(k:AV->Prop)(l:List AV):mJ P (.rp l) k=k (.rp l):=by simp[mJ,AV.sure]
theorem afD(P:SI)(k:AV->Prop)(i j:Nat):mJ P (.op i j) k=k (.op i j):=by simp[mJ,AV.sure]
theorem afA(P:SI)(k:AV->Prop)(f:TY)(x y:List AV):mJ P (.fn (.func f) x y) k=k (.fn (.func f) x y):=by simp[mJ,AV.sure]
theorem afF(P:SI)(k:AV->Prop)(f)(x y:List AV):mJ P (.fn (.yield f) x y) k=k (.fn (.yield f) x y):=by simp[mJ,AV.sure]
theorem afB(P:SI)(k:AV->Prop)(t:TypeId)(x:AV):mJ P (.cZ t x) k=k (.cZ t x):=by simp[mJ,AV.sure]
theorem afv(P:SI)(s:AS)(op:Wd)(xt:TypeId)(t:Nat)(a:AV)(k:AV->Prop):iP P s op xt (.tmp t) a k=ao (s.ev (.tmp t)) λb=>dK P op xt a b k:=by rw[iP]<;>(intros;simp_all)
theorem afp(P:SI)(s:AS)(op:Wd)(xt:TypeId)(j:T8)(m:Int)(a:AV)(k:AV->Prop):iP P s op xt (.const (.int j m)) a k=ao (s.ev (.const (.int j m))) λb=>dK P op xt a b k:=by rw[iP]<;>(intros;simp_all)
theorem afm(P:SI)(s:AS)(op:Wd)(xt:TypeId)(c:Bool)(a:AV)(k:AV->Prop):iP P s op xt (.const (.bool c)) a k=ao (s.ev (.const (.bool c))) λb=>dK P op xt a b k:=by rw[iP]<;>(intros;simp_all)
theorem afu(P:SI)(s:AS)(op:Wd)(xt:TypeId)(c:ByteArray)(a:AV)(k:AV->Prop):iP P s op xt (.const (.string c)) a k=ao (s.ev (.const (.string c))) λb=>dK P op xt a b k:=by rw[iP]<;>(intros;simp_all)
theorem afl(P:SI)(s:AS)(op:Wd)(xt:TypeId)(c:Array SP)(a:AV)(k:AV->Prop):iP P s op xt (.const (.agg c)) a k=ao (s.ev (.const (.agg c))) λb=>dK P op xt a b k:=by rw[iP]<;>(intros;simp_all)
theorem afs(P:SI)(s:AS)(op:Wd)(xt:TypeId)(c:Option Vf)(a:AV)(k:AV->Prop):iP P s op xt (.const (.pointer c)) a k=ao (s.ev (.const (.pointer c))) λb=>dK P op xt a b k:=by rw[iP]<;>(intros;simp_all)
theorem afq(P:SI)(s:AS)(op:Wd)(xt:TypeId)(c:Option Vf)(m n:Nat)(a:AV)(k:AV->Prop):iP P s op xt (.const (.slice c m n)) a k=ao (s.ev (.const (.slice c m n))) λb=>dK P op xt a b k:=by rw[iP]<;>(intros;simp_all)
theorem afr(P:SI)(s:AS)(op:Wd)(xt:TypeId)(k:AV->Prop):iP P s op xt (.const .nilIface) (.val .nilIface) k=(mB P xt=some true/\(op=.eql\/op=.neq)/\k (.val (.bool (if op== .neq then false else true)))):=by rw[iP]
theorem afo(P:SI)(s:AS)(op:Wd)(xt t:TypeId)(x:AV)(k:AV->Prop):iP P s op xt (.const .nilIface) (.cZ t x) k=(mB P xt=some true/\(op=.eql\/op=.neq)/\k (.val (.bool (if op== .neq then true else false)))):=by rw[iP]
theorem aiI:((XS== .neq)=false):=rfl
theorem apa:((Wz== .neq)=true):=rfl
theorem akF(z:SP):AV.found z true none=.aQ [AV.of z,.val (.bool false)]:=by rw[AV.found];simp
theorem akG(z:SP)(x:Nat×SP):AV.found z true (some x)=.aQ [AV.of x.2,.val (.bool true)]:=by rw[AV.found];simp
attribute [seval] akF akG
attribute [seval] afv afp afm afu afl afs afq afr afo aiI apa
attribute [seval] aqY aqZ ak3 ak2 ak1 ak0 BL aiT aiK aiO aiM aiS aiP aiQ aiL aiN aoB aoC aqn aqm att atv atq atr atu ahu ahw ahr ahv ahs aht akE akC akD arf agv agx agE agt agz agy agC agB agA agk afP af1 afX afR Qc afW afV afT afS true_and and_true Option.bind_some List.getElem?_toArray List.getElem?_cons_succ List.getElem?_cons_zero Bool.not_true Bool.not_false true_implies false_implies if_true if_false agK ar8 ar9 asa ars arq List.drop_succ_cons List.drop_zero List.take_succ_cons List.take_zero List.cons_append List.nil_append List.length_cons List.length_nil Int.toNat_natCast decide_eq_true_eq decide_eq_false_iff_not Bool.not_eq_true' Bool.not_eq_false' Bool.not_eq_eq_eq_not agJ ahK ahM arn arp aro ahL Option.map_some ws agm wu agq agl agp Nat.zero_add List.set_cons_zero List.set_cons_succ apZ apV ap9 ap6 ap2 ap3 ap0 apU ap8 ap5 ap7 ap4 apX apY ap1 List.forall_mem_cons List.not_mem_nil false_imp_iff implies_true an0 anW aob an8 an3 an4 an1 aoa an7 an9 an6 anY anZ an2 apq apm apt apn apo aps apr auq auv aur auy aut auu aux auw List.map_cons List.map_nil aiW aiV akg akf aqh aqg auo asq asp agi agj ard afz afy ne_eq not_true_eq_false not_false_eq_true gt_iff_lt Nat.lt_irrefl or_self or_false false_or Nat.le_refl Nat.mul_one Nat.one_mul Nat.zero_mul Nat.mul_zero bne_iff_ne bne_eq_false_iff_eq beq_iff_eq afI afH afO afG aqq aqp afJ ara aq9 arc arb adm aiZ aiY afk aql adm as9 as7 as1 as3 afC afE afD afA afF afB
theorem arm{base Vi Vn T:List (Nat×AV)}{H:List aa}(hk:sX T (Vi++base) Vn)(hv:∀p∈Vn,∃b,look T p.1=some b/\Wk b p.2):rD base Vi Vn H ⟨T,H⟩:=⟨hk,hv,[],by simp,.inl rfl⟩
theorem ado{base Vi Vn T:List (Nat×AV)}{H G:List aa}(hk:sX T (Vi++base) Vn)(hv:∀p∈Vn,∃b,look T p.1=some b/\Wk b p.2)(aq:bJ H)(hlt:∀p∈Vn,Lt H.length p.2):rD base Vi Vn H ⟨T,H++G⟩:=⟨hk,hv,G,rfl,.inr ⟨aq,hlt⟩⟩
theorem BU{base Vi Vn T:List (Nat×AV)}{H L G:List aa}(hk:sX T (Vi++base) Vn)(hv:∀p∈Vn,∃b,look T p.1=some b/\Wk b p.2)(aq:bJ (H++L))(hlt:∀p∈Vn,Lt (H++L).length p.2):rD base Vi Vn (H++L) ⟨T,H++(L++G)⟩:=⟨hk,hv,G,(SC ..).symm,.inr ⟨aq,hlt⟩⟩
def pick (ks:List Nat)(T:List (Nat×AV)):List (Nat×AV):=ks.filterMap λk=>(look T k).map λa=>(k,a)
theorem JX{lv:Bool}{P:SI}{r:Option Nat}{nt:Nat}{c:Uc}{T:List (Nat×AV)}{H:List aa}{Φ:an->AS->Prop}(ks:List Nat)(h:aR lv P r nt c ⟨pick ks T,H⟩ Φ):aR lv P r nt c ⟨T,H⟩ Φ:=by
 refine nD (s':=⟨pick ks T,H⟩) ⟨λt a e=> ?_,rfl⟩ h;obtain⟨k,_,e'⟩:=V_.1 (o5 e);obtain⟨b,hb,e'⟩:=Ts.1 e';cases e';exact⟨a,hb,Wk.refl a⟩
theorem N9{ops:Array Tx}(mr:∀(i:Nat) o,ops[i]?=some o->∀j∈cS o,j<ops.size)(abn:∀X:List Nat,(∃i,i<ops.size/\i∉X)->∃i o,ops[i]?=some o/\i∉X/\∀j∈cS o,j∈X):∀(fuel t:Nat)(L:Array Bool)(X:List Nat),P8 ops L X->(SR ops.size).countP (λi=> !X.contains i)<=fuel->mf ops X (UM .any ops fuel t L [])
 |0,t,L,X,hr,hc=>by
  simp only[UM,X_];refine .nil X λi hi=> ?_;have:(SR ops.size).countP (λi=> !X.contains i)=0:=by omega
  have:=List.countP_eq_zero.1 this i (by simpa using hi);simpa using this
 |fuel+1,t,L,X,hr,hc=>by
  have vA:∀i,i∈((SR ops.size).filter λi=> !L.getD i true&&((ops[i]?).map (·.after.all λe=> !Region.binds .any e||L.getD e.on false)).getD false)<->∃o,ops[i]?=some o/\i∉X/\∀j∈cS o,j∈X:=by
   intro i;simp only[Uz,TG,Te,TZ];constructor
   ·rintro⟨hi,h1,h2⟩
    have ho:=SJ hi;refine⟨ops[i],ho,λhx=> ?_,λj hj=> ?_⟩
    ·have:=(hr.mem i hi).2 hx;rw[SH,this]at h1;cases h1
    ·obtain⟨e,he,hb,rfl⟩:=Il.1 hj;rw[ho]at h2;simp only[UW,S8,UQ]at h2;have:=h2 e he;rw[hb]at this;simp only[aq_,ZH]at this;have hlt:e.on<ops.size:=mr i _ ho _ hj;refine(hr.mem _ hlt).1 ?_;rw[SH]at this;cases hx:L[e.on]?with
     |none=>rw[hx]at this;cases this
     |some b=>rw[hx]at this;cases b;cases this;rfl
   ·rintro⟨o,ho,h1,h2⟩
    have hi:i<ops.size:=(SS.1 ho).1;refine⟨hi,?_,?_⟩
    ·rw[SH,SJ (by rw[hr.size];exact hi)];simp only[S8];cases hb:L[i]'(by rw[hr.size];exact hi)with
     |false=>rfl
     |true=>exact absurd ((hr.mem i hi).1 (by rw[SJ (by rw[hr.size];exact hi),hb])) h1
    ·rw[ho];simp only[UW,S8,UQ];intro e he;cases hb:Yz .any e with
     |false=>rfl
     |true=>
      have hj:=Il.2 ⟨e,he,hb,rfl⟩;have hlt:e.on<ops.size:=mr i _ ho _ hj;have:=(hr.mem _ hlt).2 (h2 _ hj);simp[SH,this]
  simp only[UM];generalize Ef:((SR ops.size).filter λi=> !L.getD i true&&((ops[i]?).map (·.after.all λe=> !Region.binds .any e||L.getD e.on false)).getD false)=rs at vA;cases hi:rs[t % rs.length]?with
  |none=>
   have MO:rs=[]:=by
    cases rs with
    |nil=>rfl
    |cons x xs=>
     have hlt:t % (x::xs).length<(x::xs).length:=avW _ (by simp);rw[List.getElem?_eq_none_iff]at hi;omega
   simp only[X_];refine .nil X λi hlt=> ?_;apply Tv;intro hx;obtain⟨i',o,h1,h2,h3⟩:=abn X ⟨i,hlt,hx⟩;have:i'∈rs:=(vA i').2 ⟨o,h1,h2,h3⟩;rw[MO]at this;cases this
  |some i=>
   simp only[];obtain⟨o,ho,h1,h2⟩:=(vA i).1 (S6 hi);have hlt:i<ops.size:=(SS.1 ho).1;rw[linearise_go_acc,List.reverse_singleton,Y'];refine .cons o ho h1 h2 (N9 mr abn fuel _ _ (i::X) ⟨by simp[hr.size],λk hk=> ?_⟩ ?_)
   ·by_cases rZ:k=i
    ·subst rZ;simp[Tb (by rw[hr.size];exact hlt)]
    ·rw[SX (Ne.symm rZ),hr.mem k hk];simp[rZ]
   ·have fK:i∈(SR ops.size):=(by simpa using hlt);have:(SR ops.size).countP (λk=> !(i::X).contains k)<(SR ops.size).countP (λk=> !X.contains k):=by
     exact Q_ fK (λk hk=>by simp only[TZ,Ut,decide_eq_false_iff_not]at hk⊢;exactλh=>hk (Td _ h)) (by simpa using h1) (by simp)
    omega
theorem K7{X:List Nat}:∀{l:List Nat},(∃i∈l,i∉X)->∃A i B,l=A++i::B/\i∉X/\∀a∈A,a∈X
 |[],⟨_,h,_⟩=>by cases h
 |x::l,⟨i,h,hn⟩=>by
  by_cases hx:x∈X
  ·have hi:i∈l:=(SK.1 h).resolve_left λe=>hn (e▸hx);obtain⟨A,j,B,h1,h2,h3⟩:=K7 ⟨i,hi,hn⟩;exact⟨x::A,j,B,by rw[h1];rfl,h2,λa ha=>(SK.1 ha).elim (λe=>e▸hx) (h3 a)⟩
  ·exact⟨[],x,l,rfl,hx,by simp⟩
structure Ct (k:AV->List aa->Prop):Type where
 n:Nat
def FL (lv:Bool)(P:SI)(f:AV)(H:List aa)(aG:List AV)(k:AV->List aa->Prop)(_t:Ct k):Prop:=∃av H',je lv P f H aG (λb uC=>b=av/\uC=H') (λ_ _=>False)/\k av H'
def JB (lv:Bool)(P:SI)(f:AV)(name:String)(H:List aa)(aG:List AV)(k:AV->List aa->Prop)(_t:Ct k):Prop:=∃av H',FT lv P f name H aG (λb uC=>b=av/\uC=H') (λ_ _=>False)/\k av H'
theorem tu{lv:Bool}{P:SI}{f:AV}{H:List aa}{aG:List AV}{k:AV->List aa->Prop}{t:Ct k}(av:AV)(H':List aa)(h:je lv P f H aG (λb uC=>b=av/\uC=H') (λ_ _=>False))(hk:k av H'):FL lv P f H aG k t:=⟨av,H',h,hk⟩
def j9 (x:Option aa)(X Y:Prop)(_t:me X Y):Prop:=match x with
 |some (.own _ _ _)=>X
 |_=>Y
def ru (G H:List aa)(k:AV->List aa->Prop)(n m sz:Nat)(elem:TypeId)(l l':List AV):End->Prop
 |.exact=>j9 G[H.length]? (0<m/\k (.bA H.length 0 (n+m) 0) (H++[.own sz (l++l') elem])) (k (.sl (n+m) (l++l') (.opn H.length)) (H++[.tail (n+m) sz elem])) ⟨0⟩
 |.opn i=>(match H[i]?with
   |some (.tail n' eI gV)=>n'=n/\eI=sz/\gV=elem
   |_=>False)/\(∀a∈l',a.leaf=true)/\k (.sl (n+m) (l++l') (.opn i)) (H.set i (.tail (n+m) sz elem))
 |.shut=>m=0/\k (.sl n l .shut) H
section
variable (lv:Bool)(P:SI)
def j7 (G:List aa)(s:AS)(o:Tx)(k:AV->List aa->Prop):Prop:=match o.op with
 |.box t x=>ao (s.ev x) λa=>ao a.parts λl=>k (.op s.H.length 0) (s.H++[.cells l t])
 |.alloc t=>ao (eS P t) λz=>k (.op s.H.length 0) (s.H++[.cells (mc z) t])
 |.store t x y=>ao (s.ev x) λp=>ao (s.ev y) λa=>ao a.parts λlp=>p.qq λid off=>match s.H[id]?with
  |some (.cells l el)=>(ao (Ty P t) λx=>lp.length=x.1)/\off+lp.length<=l.length/\(∀a∈lp,a.leaf=true)/\k (.val undef) (s.H.set id (.cells (iL l off lp) el))
  |some (.own p l el)=>(ao (Ty P t) λx=>lp.length=x.1)/\off+lp.length<=l.length/\(∀a∈lp,a.leaf=true)/\k (.val undef) (s.H.set id (.own p (iL l off lp) el))
  |_=>False
 |.call c=>match c.callee with
  |.builtin .append=>match c.args.toList,c.argTypes.toList with
   |[x,y],[t,t']=>ao (jy P t t') λ(elem,sz,_)=>ao (s.ev x) λa=>ao (s.ev y) λb=>a.qt (λid off n c0=>ao (s.src sz b) λ(m,l')=>uy s.H k id off n c0 m sz elem l') λn l e=>ao (s.src sz b) λ(m,l')=>l.length=n* sz/\l'.length=m* sz/\n+m<=2^30/\ru G s.H k n m sz elem l l' e
   |_,_=>False
  |.value x=>ao (s.ev x) λf=>ao (fq s c.args.toList) λaG=>FL lv P f s.H aG k ⟨0⟩
  |.invoke x name=>ao (s.ev x) λf=>ao (fq s c.args.toList) λaG=>JB lv P f name s.H aG k ⟨0⟩
  |_=>False
 |.makeSlice t x y=>ao (Cv P t) λ(e,sz,z)=>ao (s.ev x) λa=>ao (s.ev y) λb=>a.asInt λ_ n=>b.asInt λ_ n'=>n'=n/\0<=n/\n<=2^30/\k (.bA s.H.length 0 n.toNat n.toNat) (s.H++[.cells (gD z (n.toNat* sz)) e])
 |.buildSlice t len parts=>ao (qn P t) λ(e,sz,z)=>len* sz<=2^24/\ao (kg s parts.toList) λmi=>ao (oG (ik.at (.elems sz)) (gD z (len* sz)) mi) λl=>k (.bA s.H.length 0 len len) (s.H++[.cells l e])
 |_=>False
end
section
variable {lv:Bool}{P:SI}{r:Option Nat}{o:Tx}{s:AS}{k:AV->List aa->Prop}
theorem Step.drop{G:List aa}{av mS:AV}{bad:AV->AS->Prop}(h:Step lv P r o s (λs'=>s'=(⟨s.T,s.H++G⟩:AS).put o.dst av) bad)(hw:Wk av mS)(hl:∀(E:Env)(V:View)(a:Act),Conc E V s.H->cr E s.T a.tmps->Lt s.H.length mS):Step lv P r o s (λs'=>s'=(⟨s.T,s.H⟩:AS).put o.dst mS) bad:=λE V a N Q hc ht hd hf n1 n2=>by
 refine h E V a N Q hc ht hd hf (λE' V' a' s' q1 q2 q3 q4=> ?_) n2;subst q4;rw[ft]at q2;have fI:((⟨s.T,s.H++G⟩:AS).put o.dst av).Jz ((⟨s.T,s.H⟩:AS).put o.dst mS):=by
  refine⟨λt x e=> ?_,⟨G,by rw[ft,ft]⟩,by rw[ft];exact hc.aq⟩;rw[ft];have hold:look s.T t=some x->Lt s.H.length x:=λe=>by rw[<- hc.n];exact(ht t x e).2.lt
  cases du:o.dst with
  |none=>
   rw[du]at e;simp only[AS.put]at e⊢;exact⟨x,e,Wk.refl x,hold e⟩
  |some d=>
   rw[du]at e;simp only[AS.put,look]at e⊢;by_cases hdt:d=t
   ·rw[if_pos hdt]at e⊢;cases e;exact⟨av,rfl,hw,hl E V a hc ht⟩
   ·rw[if_neg hdt]at e⊢;exact⟨x,e,Wk.refl x,hold e⟩
 have ai:At E' V' ((⟨s.T,s.H++G⟩:AS).put o.dst av) a' a'.tmps.size:=⟨by rw[ft];exact q2,q3,rfl⟩;have aV:=ai.cut fI;rw[ft]at aV;refine n1 _ V' a' _ ⟨Fw (SO _) (by rw[q2.n];simp) q1.le hc.n,q1.size,q1.defers,q1.role,q1.deaf⟩ aV.bz aV.tok rfl
end
section
variable {lv:Bool}{P:SI}{r:Option Nat}{o:Tx}{s:AS}{G:List aa}{k:AV->List aa->Prop}
theorem ew{α:Type}{x:Option α}{a:α}{k:α->Prop}(h:x=some a)(hk:k a):ao x k:=by rw[h,ao];exact hk
theorem aak{x:Option aa}{X Y:Prop}{t:me X Y}(h:j9 x X Y t):((∃a b c,x=some (.own a b c))/\X)\/((∀a b c,x≠some (.own a b c))/\Y):=by
 unfold j9 at h;split at h
 ·exact .inl ⟨⟨_,_,_,rfl⟩,h⟩
 ·rename_i hx;exact .inr ⟨λa b c e=>hx a b c e,h⟩
theorem akQ{x:Option aa}{X Y:Prop}{t:me X Y}{a:Nat}{b:List AV}{c:TypeId}(h:x=some (.own a b c))(hX:X):j9 x X Y t:=by subst h;exact hX
theorem akT{x:Option aa}{X Y:Prop}{t:me X Y}(h:∀a b c,x≠some (.own a b c))(hY:Y):j9 x X Y t:=by
 unfold j9;split
 ·exact absurd rfl (h _ _ _)
 ·exact hY
theorem ru.ex{H:List aa}{n m sz:Nat}{elem:TypeId}{l l':List AV}{e:End}(h:ru G H k n m sz elem l l' e):∃av H',ru G H (λa h=>a=av/\h=H') n m sz elem l l' e/\k av H':=by
 cases e with
 |exact=>
  rcases aak (t:=⟨0⟩) h with⟨⟨a,b,c,e⟩,h0,h1⟩|⟨e,h1⟩
  ·exact⟨_,_,akQ (t:=⟨0⟩) e ⟨h0,rfl,rfl⟩,h1⟩
  ·exact⟨_,_,akT (t:=⟨0⟩) e ⟨rfl,rfl⟩,h1⟩
 |shut=>exact⟨_,_,⟨h.1,rfl,rfl⟩,h.2⟩
 |opn i=>exact⟨_,_,⟨h.1,h.2.1,rfl,rfl⟩,h.2.2⟩
theorem uy.ex{H:List aa}{id off n c0 m sz:Nat}{elem:TypeId}{l':List AV}(h:uy H k id off n c0 m sz elem l'):∃av H',uy H (λa h=>a=av/\h=H') id off n c0 m sz elem l'/\k av H':=by
 obtain⟨h1,h2,h3,h4,h5,h6⟩:=h;split at h6
 ·rename_i hk;obtain⟨g1,g2,g3,g4⟩:=h6;refine⟨_,_,⟨h1,h2,h3,h4,h5,?_⟩,g4⟩;rw[hk];exact⟨g1,g2,g3,rfl,rfl⟩
 ·exact h6.elim
end
section
variable {lv:Bool}{P:SI}{r:Option Nat}{o:Tx}{s:AS}{next:AS->Prop}{bad:AV->AS->Prop}
theorem aec{t e:TypeId}{len sz:Nat}{z:SP}{parts:Array (Nat×Tl)}{mi:List (Nat×AV)}{l:List AV}(ho:o.op=.buildSlice t len parts)(ht:qn P t=some (e,sz,z))(aY:len* sz<=2^24)(hp:kg s parts.toList=some mi)
  (hl:oG (ik.at (.elems sz)) (gD z (len* sz)) mi=some l) (hn:next ((⟨s.T,s.H++[.cells l e]⟩:AS).put o.dst (.bA s.H.length 0 len len))):Step lv P r o s next bad:=by
 intro E V a N Q hc aE hd bC h1 _;unfold qn at ht;split at ht
 ·rename_i e' hu;obtain⟨i,hi,ht⟩:=Th.1 ht;obtain⟨z',hz,ht⟩:=Ts.1 ht;cases ht;refine⟨bC,?_⟩;unfold execOp;rw[ho];dsimp only;refine aA ?_;unfold Instr.buildSlice;refine ey hu ?_;dsimp only;refine j5 hi ?_;rw[if_neg (by omega)];obtain⟨hlen,bx⟩:=Gr aE hp;obtain⟨eU,nR,va⟩:=C_ (Ku (E:=E) z (len* i.size)) hlen bx hl;have fin:∀(rr:Nat),V.fresh rr->aS P (V.upd rr (.cells eU e)) (pure (Xc (.slice (some ⟨rr,0,none⟩) len len))) (mP lv P r o a N Q) (λv V'=>Q (.panic [{v,recovered:=false}]) a V'):=λrr hf=>by
   have oV:E.Le (E.add rr V.ah):=E.qX rr (λb o v h=>by rw[<- hc.I];exact h);have bu:Conc (E.add rr V.ah) (V.upd rr (.cells eU e)) (s.H++[.cells l e]):=by
    refine hc.add hf _ ⟨⟨_,?_,va.mono oV⟩,λo=> ?_⟩ (λb e=> ?_)
    ·rw[Env.dO];simp[View.upd]
    ·rw[Env.dO];exact hf.2 o
    ·simp only[bT,Env.dO,Tm]at e;exact e.symm
   have pH:ap (E.add rr V.ah) (.bA s.H.length 0 len len) (.slice (some ⟨rr,0,none⟩) len len):=by
    have:=ap.bA (E:=E.add rr V.ah) (id:=s.H.length) (off:=0) (n:=len) (cap:=len) (cap':=len) (by show _<E.n+1;rw[hc.n];omega) ⟨by omega,λ_=>rfl,λh=>absurd h (by omega)⟩;have e:(E.add rr V.ah).blk s.H.length=rr:=(by rw[<- hc.n];exact E.dO rr _);rwa [e]at this
   exact au (h1 _ _ (a.put o.dst _) _ ⟨oV,eg _ _ _,put_defers _ _ _,rfl,rfl⟩ (by rw[ft];exact bu) (cr.ie (s:=⟨s.T,s.H++[.cells l e]⟩) (aE.mono oV) hd pH) hn)
  have e2:(λj=>some (j* i.size,i.size))=ik.at (.elems i.size):=rfl;rw[e2];by_cases h0:len* i.size=0
  ·rw[if_pos h0];refine aA (au ?_);rw[h0]at nR⊢;rw[show WO 0=#[]from rfl]at nR⊢;simp only[List.map_toArray,ZU,VQ]at nR⊢;rw[nR];unfold newRow;exact aA (aA (aA (pc λrr hf=>cJ (au (au (au (fin rr hf)))))))
  ·rw[if_neg h0];refine aA (aA ?_);unfold typeInfo;refine aA (rf (cJ ?_));rw[hi];refine au ?_;rw[hz];refine au (aA (au ?_));rw[VQ,nR];unfold newRow;exact aA (aA (aA (pc λrr hf=>cJ (au (au (au (fin rr hf)))))))
 ·cases ht
end
section
variable {lv:Bool}{P:SI}{r:Option Nat}{o:Tx}{s:AS}{G:List aa}{k:AV->List aa->Prop}
theorem j7.ex(h:j7 lv P G s o k):∃av H',j7 lv P G s o (λa h=>a=av/\h=H')/\k av H':=by
 unfold j7 at h⊢;generalize o.op=op at h⊢;cases op with
 |box t x=>
  obtain⟨a,h1,h⟩:=h.out;obtain⟨l,h2,h⟩:=h.out;exact⟨_,_,ew h1 (ew h2 ⟨rfl,rfl⟩),h⟩
 |alloc t=>
  obtain⟨z,h1,h⟩:=h.out;exact⟨_,_,ew h1 ⟨rfl,rfl⟩,h⟩
 |store t x y=>
  obtain⟨p,h1,hA⟩:=h.out;obtain⟨a,h2,hB⟩:=hA.out;obtain⟨lp,h3,hC⟩:=hB.out;obtain⟨id,off,e1,hD⟩:=CQ hC;subst e1;clear h hA hB hC;split at hD
  ·rename_i l el hk;refine⟨_,_,ew h1 (ew h2 (ew h3 ?_)),hD.2.2.2⟩;unfold AV.qq;dsimp only;rw[hk];exact⟨hD.1,hD.2.1,hD.2.2.1,rfl,rfl⟩
  ·rename_i p l el hk;refine⟨_,_,ew h1 (ew h2 (ew h3 ?_)),hD.2.2.2⟩;unfold AV.qq;dsimp only;rw[hk];exact⟨hD.1,hD.2.1,hD.2.2.1,rfl,rfl⟩
  ·exact hD.elim
 |call c=>
  dsimp only at h⊢;generalize c.callee=cl at h⊢;generalize c.args.toList=xs at h⊢;generalize c.argTypes.toList=ts at h⊢;cases cl with
  |builtin b=>
   cases b with
   |append=>
    dsimp only at h⊢;split at h
    ·obtain⟨⟨elem,sz,z⟩,h1,hA⟩:=h.out;obtain⟨a,h2,hB⟩:=hA.out;obtain⟨b,h3,hC⟩:=hB.out;rcases JU hC with⟨id,off,n,c0,e1,hD⟩|⟨n,l,e,e1,hD⟩
     ·obtain⟨⟨m,l'⟩,h4,h5⟩:=hD.out;subst e1;obtain⟨av,H',g1,g2⟩:=h5.ex;refine⟨av,H',ew h1 (ew h2 (ew h3 ?_)),g2⟩;simp only[AV.qt];exact ew h4 g1
     ·obtain⟨⟨m,l'⟩,h4,h5,h6,h7,h8⟩:=hD.out;subst e1;obtain⟨av,H',g1,g2⟩:=h8.ex;refine⟨av,H',ew h1 (ew h2 (ew h3 ?_)),g2⟩;simp only[AV.qt];exact ew h4 ⟨h5,h6,h7,g1⟩
    ·exact h.elim
   |_=>exact h.elim
  |value x=>
   obtain⟨f,h1,hA⟩:=h.out;obtain⟨aG,h2,hB⟩:=hA.out;obtain⟨av,H',g1,g2⟩:=hB;exact⟨av,H',ew h1 (ew h2 ⟨av,H',g1,rfl,rfl⟩),g2⟩
  |invoke x name=>
   obtain⟨f,h1,hA⟩:=h.out;obtain⟨aG,h2,hB⟩:=hA.out;obtain⟨av,H',g1,g2⟩:=hB;exact⟨av,H',ew h1 (ew h2 ⟨av,H',g1,rfl,rfl⟩),g2⟩
 |makeSlice t x y=>
  obtain⟨⟨e,sz,z⟩,h1,hA⟩:=h.out;obtain⟨a,h2,hB⟩:=hA.out;obtain⟨b,h3,hC⟩:=hB.out;obtain⟨j,n,e1,hD⟩:=oC hC;obtain⟨j',n',e2,hE⟩:=oC hD;clear h hA hB hC hD;subst e1 e2;exact⟨_,_,ew h1 (ew h2 (ew h3 ⟨hE.1,hE.2.1,hE.2.2.1,rfl,rfl⟩)),hE.2.2.2⟩
 |buildSlice t len parts=>
  obtain⟨⟨e,sz,z⟩,h1,h2,hA⟩:=h.out;obtain⟨mi,h3,hB⟩:=hA.out;obtain⟨l,h4,hC⟩:=hB.out;exact⟨_,_,ew h1 ⟨h2,ew h3 (ew h4 ⟨rfl,rfl⟩)⟩,hC⟩
 |_=>exact h.elim
theorem j7.step{av:AV}{H':List aa}{bad:AV->AS->Prop}(h:j7 lv P G s o (λa h=>a=av/\h=H')):Step lv P r o s (λs'=>s'=(⟨s.T,H'⟩:AS).put o.dst av) bad:=by
 unfold j7 at h;split at h
 ·rename_i t x ho;obtain⟨a,h1,h⟩:=h.out;obtain⟨l,h2,h⟩:=h.out;obtain⟨e1,e2⟩:=h;exact aeb ho h1 h2 (by rw[e1,e2])
 ·rename_i t ho;obtain⟨z,h1,h⟩:=h.out;obtain⟨e1,e2⟩:=h;exact ad8 ho h1 (by rw[e1,e2])
 ·rename_i t x y ho;obtain⟨p,h1,hA⟩:=h.out;obtain⟨a,h2,hB⟩:=hA.out;obtain⟨lp,h3,hC⟩:=hB.out;obtain⟨id,off,e1,hD⟩:=CQ hC;clear h hA hB hC;subst e1;split at hD
  ·rename_i l el hk;obtain⟨q1,q2,q3,q4,O4⟩:=hD;obtain⟨⟨n,g⟩,q5,q6⟩:=q1.out;exact aeg ho q5 h1 hk h2 h3 q6 q2 q3 (by rw[q4,O4])
  ·rename_i p l el hk;obtain⟨q1,q2,q3,q4,O4⟩:=hD;obtain⟨⟨n,g⟩,q5,q6⟩:=q1.out;exact aeh ho q5 h1 hk h2 h3 q6 q2 q3 (by rw[q4,O4])
  ·exact hD.elim
 ·rename_i c ho;split at h
  ·rename_i a_;split at h
   ·rename_i x y t t' ha ht;obtain⟨⟨elem,sz,z⟩,h1,hA⟩:=h.out;obtain⟨a,h2,hB⟩:=hA.out;obtain⟨b,h3,hC⟩:=hB.out;rcases JU hC with⟨id,off,n,c0,e1,hD⟩|⟨n,l,e,e1,hD⟩
    ·clear h hA hB hC;subst e1;obtain⟨⟨m,l'⟩,h4,rfl,g2,g3,g4,g5,hE⟩:=hD.out;split at hE
     ·rename_i hk;obtain⟨rfl,rfl,g6,g7,g8⟩:=hE;exact ad9 ho a_ (nz ha) (sP ht) h1 h2 g2 hk rfl h3 h4 g6 g3 g4 g5 (by rw[g7,g8])
     ·exact hE.elim
    ·clear h hA hB hC;subst e1;obtain⟨⟨m,l'⟩,h4,h5,h6,h7,h8⟩:=hD.out;cases e with
     |exact=>
      rcases aak (t:=⟨0⟩) h8 with⟨_,h0,e1,e2⟩|⟨_,e1,e2⟩
      ·exact aea ho a_ (nz ha) (sP ht) h1 h2 h3 h4 h5 h6 h7 h0 (by rw[e1,e2])
      ·exact step_append ho a_ (nz ha) (sP ht) h1 h2 h3 h4 h5 h6 h7 (by show (_:AS)=_;rw[<- e1,<- e2])
     |shut=>
      obtain⟨e0,e1,e2⟩:=h8;exact step_append ho a_ (nz ha) (sP ht) h1 h2 h3 h4 h5 h6 h7 ⟨e0,by rw[<- e1,<- e2]⟩
     |opn i=>
      obtain⟨e0,e0',e1,e2⟩:=h8;exact step_append ho a_ (nz ha) (sP ht) h1 h2 h3 h4 h5 h6 h7 ⟨e0,e0',by rw[<- e1,<- e2]⟩
   ·exact h.elim
  ·rename_i x a_;obtain⟨f,h1,hA⟩:=h.out;obtain⟨aG,h2,hB⟩:=hA.out;obtain⟨a0,H0,g1,g2,g3⟩:=hB;subst g2 g3;exact Ps ho a_ h1 h2 (g1.mono (λa H h=>by rw[h.1,h.2]) λ_ _ h=>h.elim)
  ·rename_i x name a_;obtain⟨f,h1,hA⟩:=h.out;obtain⟨aG,h2,hB⟩:=hA.out;obtain⟨a0,H0,g1,g2,g3⟩:=hB;subst g2 g3;exact aed ho a_ h1 h2 (λE V cv vs hc hd pI=>(g1 E V cv vs hc hd pI).mono (λ_ _ x=>Nx.mono (λ_ _ y=>y.mono (λa H h=>by rw[h.1,h.2]) λ_ _ h=>h.elim) x) λ_ _ y=>y.mono (λa H h=>by rw[h.1,h.2]) λ_ _ h=>h.elim)
  ·exact h.elim
 ·rename_i t x y ho;obtain⟨⟨e,sz,z⟩,h1,hA⟩:=h.out;obtain⟨a,h2,hB⟩:=hA.out;obtain⟨b,h3,hC⟩:=hB.out;obtain⟨j,n,e1,hD⟩:=oC hC;obtain⟨j',n',e2,hE⟩:=oC hD;clear h hA hB hC hD;subst e1 e2;obtain⟨e3,h4,h5,h6,h7⟩:=hE;subst e3;obtain⟨m,rfl⟩:∃m:Nat,n'=m:=⟨n'.toNat,by omega⟩;exact aee ho h1 h2 h3 (by omega) (by rw[VK]at h6 h7;rw[h6,h7])
 ·rename_i t len parts ho;obtain⟨⟨e,sz,z⟩,h1,h2,hA⟩:=h.out;obtain⟨mi,h3,hB⟩:=hA.out;obtain⟨l,h4,h5,h6⟩:=hB.out;exact aec ho h1 h2 h3 h4 (by rw[h5,h6])
 ·exact h.elim
theorem j7.congr{T T':List (Nat×AV)}{H:List aa}(h:∀x∈o.op.operands,AS.ev ⟨T,H⟩ x=AS.ev ⟨T',H⟩ x)(ha:j7 lv P G ⟨T,H⟩ o k):j7 lv P G ⟨T',H⟩ o k:=by
 unfold j7 at ha⊢;generalize o.op=op at h ha⊢;cases op with
 |box t x=>dsimp only at ha⊢;rw[<- h x (by simp[Tw])];exact ha
 |alloc t=>exact ha
 |store t x y=>dsimp only at ha⊢;rw[<- h x (by simp[Tw]),<- h y (by simp[Tw])];exact ha
 |call c=>
  have cN:∀x∈c.args.toList,AS.ev ⟨T,H⟩ x=AS.ev ⟨T',H⟩ x:=λx hx=>h x (by simp[Tw,VU];exact .inr (by simpa using hx));dsimp only at ha⊢;split at ha
  ·split at ha
   ·rename_i x y t t' hx ht;rw[hx]at cN;rw[<- cN x (by simp),<- cN y (by simp)];exact ha
   ·exact ha.elim
  ·rename_i x a_;rw[<- h x (by simp[Tw,VU,a_]),<- C8 _ cN];exact ha
  ·rename_i x name a_;rw[<- h x (by simp[Tw,VU,a_]),<- C8 _ cN];exact ha
  ·exact ha.elim
 |makeSlice t x y=>dsimp only at ha⊢;rw[<- h x (by simp[Tw]),<- h y (by simp[Tw])];exact ha
 |buildSlice t len parts=>
  have e:kg ⟨T',H⟩ parts.toList=kg ⟨T,H⟩ parts.toList:=by
   have hp:∀p∈parts.toList,AS.ev ⟨T,H⟩ p.2=AS.ev ⟨T',H⟩ p.2:=λp hp=>h p.2 (by simp[Tw];exact⟨p.1,by simpa using hp⟩);clear ha;generalize parts.toList=l at hp;induction l with
   |nil=>rfl
   |cons p l ih=>simp only[kg,hp p TF,ih λq hq=>hp q (Td _ hq)]
  dsimp only at ha⊢;rw[e];exact ha
 |_=>exact ha.elim
end
def nL (acc:List (Nat×List Nat))(j:Nat):List Nat:=((acc.find? (·.1==j)).map (·.2)).getD []
def gH (ops:Array Tx):List Nat->List (Nat×List Nat)->List (Nat×List Nat)
 |[],acc=>acc
 |i::l,acc=>match ops[i]?with
  |some o=>gH ops l ((i,(cS o++(cS o).flatMap (nL acc)).eraseDups)::acc)
  |none=>gH ops l acc
def ux:List Nat->List (List Nat)
 |[]=>[[]]
 |x::l=>ux l++(ux l).map (x::·)
def xv (cl:List (Nat×List Nat))(es:List Nat)(i:Nat)(D:List Nat):Bool:=
 !D.contains i&&es.all λe=>(!(nL cl i).contains e||D.contains e)&&(!D.contains e||(!(nL cl e).contains i&&es.all λe'=> !(nL cl e).contains e'||D.contains e'))
def uh (es:List Nat)(i:Nat)(D:List Nat):List Nat:=es.filter λe=>e==i||D.contains e
structure rB where
 i:Nat
 eff:Bool
 aft:List Nat
 OE:List (List Nat×List Nat)
 deriving DecidableEq
def entry (cl:List (Nat×List Nat))(es X:List Nat)(i:Nat):rB:=
 let cur:=es.filter λe=>X.contains e
 ⟨i,es.contains i,uh es i cur,((ux es).filter λD=>xv cl es i D&&D !=cur).map λD=>(D,uh es i D)⟩
def rc (cl:List (Nat×List Nat))(es:List Nat):List Nat->List Nat->List rB
 |_,[]=>[]
 |X,i::B=>entry cl es X i::rc cl es (i::X) B
def ac8 (ops:Array Tx)(es ord:List Nat):List rB:=rc (gH ops ord []) es [] ord
def kA (ops:Array Tx):List Nat->List Nat->Bool
 |_,[]=>true
 |X,i::B=> !X.contains i&&(match ops[i]?with
  |some o=>(cS o).all X.contains
  |none=>false)&&kA ops (i::X) B
def rM (nt:Nat)(ops:Array Tx)(es ord:List Nat):Bool:=
 let cl:=gH ops ord [];decide (ord.length=ops.size)&&kA ops [] ord&&ord.all λi=>match ops[i]?with
  |some o=>o.dst.all (·<nt)&& !mA o.op&&o.guard.isNone&&
   (ord.all λj=>i==j||match o.dst,cX ops j with
    |some d,some d'=>d !=d'
    |_,_=>true)&&
   (o.op.operands.toList.all λx=>match x with
    |.tmp t=>ord.all λj=>cX ops j !=some t||(cS o).contains j||(nL cl j).contains i
    |_=>true)
  |none=>false
theorem aap{acc:List (Nat×List Nat)}{j k:Nat}(h:k∈nL acc j):∃l,(j,l)∈acc/\k∈l:=by
 unfold nL at h;cases e:acc.find? (·.1==j)with
 |none=>rw[e]at h;simp at h
 |some x=>
  rw[e]at h;obtain⟨j',l⟩:=x;have h1:=List.mem_of_find?_eq_some e;have h2:=List.find?_some e;simp only[beq_iff_eq]at h2;subst h2;exact⟨l,h1,by simpa using h⟩
theorem Kg{ops:Array Tx}:∀(ord:List Nat)(acc:List (Nat×List Nat)),(∀i l,(i,l)∈acc->∀j∈l,Reach ops i j)->∀i l,(i,l)∈gH ops ord acc->∀j∈l,Reach ops i j
 |[],acc,h=>h
 |x::ord,acc,h=>by
  unfold gH;split
  ·rename_i o ho;refine Kg ord _ λi l hm j hj=> ?_;rcases SK.1 hm with e|hm
   ·cases e;rw[Zj,SV]at hj;rcases hj with hj|hj
    ·exact .KG ho hj
    ·obtain⟨k,hk,hj⟩:=S4.1 hj;obtain⟨l',h1,h2⟩:=aap hj;exact .more ho hk (h _ _ h1 _ h2)
   ·exact h i l hm j hj
  ·exact Kg ord acc h
theorem Av{ops:Array Tx}{ord:List Nat}{i j:Nat}(h:j∈nL (gH ops ord []) i):Reach ops i j:=by
 obtain⟨l,h1,h2⟩:=aap h;exact Kg ord [] (by simp) i l h1 j h2
theorem Gw(p:Nat->Bool):∀l:List Nat,l.filter p∈ux l
 |[]=>by simp[ux]
 |x::l=>by
  unfold ux;rw[SV];by_cases h:p x=true
  ·rw[W3 h];exact .inr (Tf.2 ⟨_,Gw p l,rfl⟩)
  ·rw[W4 h];exact .inl (Gw p l)
structure Ac (nt:Nat)(ops:Array Tx)(ord:List Nat):Prop where
 full:∀i,i<ops.size->i∈ord
 lt:∀i∈ord,i<ops.size
 top:kA ops [] ord=true
 dst:∀(i:Nat) o d,ops[i]?=some o->o.dst=some d->d<nt
 wE:∀(i:Nat) o,ops[i]?=some o->mA o.op=false
 Dj:∀(i:Nat) o,ops[i]?=some o->o.guard=none
 Cb:∀(i j d:Nat),cX ops i=some d->cX ops j=some d->i=j
 OD:∀(i:Nat) o t j,ops[i]?=some o-> .tmp t∈o.op.operands->cX ops j=some t->j∈cS o\/Reach ops j i
theorem Fu{ops:Array Tx}:∀{ord X:List Nat},kA ops X ord=true->ord.Nodup/\(∀i∈ord,i∉X)/\∀i∈ord,i<ops.size
 |[],_,_=>⟨WR,by simp,by simp⟩
 |i::B,X,h=>by
  simp only[kA,Te,TZ,Ut,decide_eq_false_iff_not]at h;obtain⟨⟨h1,h2⟩,h3⟩:=h;obtain⟨q1,q2,q3⟩:=Fu h3;refine⟨VX.2 ⟨λhm=>q2 i hm (TF ..),q1⟩,λj hj=> ?_,λj hj=> ?_⟩
  ·rcases SK.1 hj with rfl|hj
   ·exact h1
   ·exactλhx=>q2 j hj (Td _ hx)
  ·rcases SK.1 hj with rfl|hj
   ·apply Tv;intro hn;rw[YH (by omega)]at h2;cases h2
   ·exact q3 j hj
theorem rM.out{nt:Nat}{ops:Array Tx}{es ord:List Nat}(h:rM nt ops es ord=true):Ac nt ops ord:=by
 unfold rM at h;simp only[Te,decide_eq_true_eq]at h;obtain⟨⟨hlen,kM⟩,h⟩:=h;obtain⟨xa,_,hlt⟩:=Fu kM;have A9:∀i,i<ops.size->i∈ord:=λi hi=>by
  apply Tv;intro hn;have lY:(i::ord)⊆SR ops.size:=λj hj=>by
   rcases SK.1 hj with rfl|hj
   ·simpa using hi
   ·simpa using hlt j hj
  have:=(VX.2 ⟨hn,xa⟩).length_le_of_subset lY;simp at this;omega
 have key:∀(i:Nat) o,ops[i]?=some o->o.dst.all (·<nt)=true/\mA o.op=false/\o.guard.isNone=true/\(∀j∈ord,(i==j||match o.dst,cX ops j with
    |some d,some d'=>d !=d'
    |_,_=>true)=true)/\(∀x∈o.op.operands.toList,(match x with
    |.tmp t=>ord.all λj=>cX ops j !=some t||(cS o).contains j||(nL (gH ops ord []) j).contains i
    |_=>true)=true):=λi o ho=>by
  have hi:i<ops.size:=(SS.1 ho).1;have:=Tu.1 h i (A9 i hi);rw[ho]at this;simp only[Te,Tu,TZ]at this;exact⟨this.1.1.1.1,this.1.1.1.2,this.1.1.2,this.1.2,this.2⟩
 have aaM:∀j d,cX ops j=some d->j<ops.size:=λj d e=>by
  apply Tv;intro hn;rw[cX,YH (by omega)]at e;cases e
 refine⟨A9,hlt,kM,λi o d ho hd=> ?_,λi o ho=>(key i o ho).2.1,λi o ho=>by simpa using(key i o ho).2.2.1,λi j d hi hj=> ?_,λi o t j ho ht hj=> ?_⟩
 ·have:=(key i o ho).1;rw[hd]at this;simpa using this
 ·apply Tv;intro aH;obtain⟨o,ho,tN⟩:=Th.1 hi;have:=(key i o ho).2.2.2.1 j (A9 j (aaM j d hj));rw[tN,hj]at this;simp[aH]at this
 ·have:=(key i o ho).2.2.2.2 (.tmp t) (by simpa using ht);simp only[Tu]at this;have:=this j (A9 j (aaM j t hj));rw[hj]at this;simp only[bne_self_eq_false,ZH,Xn,Ut,decide_eq_true_eq]at this;exact this.imp id Av
section
variable (lv:Bool)(P:SI)(Hf:List Nat->List aa)
def BQ (T:List (Nat×AV))(o:Tx)(av:AV):List (List Nat×List Nat)->Prop
 |[]=>True
 |(D,_)::l=>(AQ lv P ⟨T,Hf D⟩ o λa=>a=av)/\BQ T o av l
def BE (T:List (Nat×AV))(o:Tx)(av:AV):List (List Nat×List Nat)->Prop
 |[]=>True
 |(D,D')::l=>(j7 lv P (Hf D') ⟨T,Hf D⟩ o λa H'=>a=av/\H'=Hf D')/\BE T o av l
structure Cs (K:AS->Prop):Type where
 n:Nat
def gf (ops:Array Tx):List rB->AS->(K:AS->Prop)->Cs K->Prop
 |[],s,K,_=>K s
 |⟨i,false,_,l⟩::rest,s,K,t=>ao (ops[i]?) λo=>AQ lv P s o λav=>BQ lv P Hf s.T o av l/\gf ops rest (s.put o.dst av) K t
 |⟨i,true,D,l⟩::rest,s,K,t=>ao (ops[i]?) λo=>j7 lv P (Hf D) s o λav H'=>H'=Hf D/\BE lv P Hf s.T o av l/\gf ops rest ((⟨s.T,H'⟩:AS).put o.dst av) K t
end
def TX (ops:Array Tx)(T0:List (Nat×AV))(f:Nat->AV):List Nat->List (Nat×AV)
 |[]=>T0
 |i::X=>match cX ops i with
  |some d=>(d,f i)::TX ops T0 f X
  |none=>TX ops T0 f X
section
variable {ops:Array Tx}{T0:List (Nat×AV)}{f g:Nat->AV}
theorem CC:∀{X:List Nat},(∀j∈X,f j=g j)->TX ops T0 f X=TX ops T0 g X
 |[],_=>rfl
 |i::X,h=>by
  simp only[TX,CC (X:=X) λj hj=>h j (Td _ hj),h i (TF ..)]
theorem CD(abz:∀(i j d:Nat),cX ops i=some d->cX ops j=some d->i=j):∀{X:List Nat}{j t:Nat},j∈X->cX ops j=some t->look (TX ops T0 f X) t=some (f j)
 |i::X,j,t,hj,ht=>by
  by_cases kx:i=j
  ·subst kx;simp[TX,ht,look]
  ·have iI:j∈X:=(SK.1 hj).resolve_left (Ne.symm kx);have ih:=CD abz (X:=X) iI ht;unfold TX;split
   ·rename_i d hd;have:d≠t:=λe=>kx (abz i j d hd (by rw[e];exact ht));simp only[look,if_neg this];exact ih
   ·exact ih
theorem xZ:∀{X:List Nat}{t:Nat},(∀j∈X,cX ops j≠some t)->look (TX ops T0 f X) t=look T0 t
 |[],_,_=>rfl
 |i::X,t,h=>by
  have ih:=xZ (X:=X) (t:=t) λj hj=>h j (Td _ hj);unfold TX;split
  ·rename_i d hd;have:d≠t:=λe=>h i (TF ..) (by rw[hd,e]);simp only[look,if_neg this];exact ih
  ·exact ih
theorem x6{H:List aa}{X:List Nat}{i:Nat}{o:Tx}{av:AV}(ho:ops[i]?=some o)(hf:f i=av):(⟨TX ops T0 f X,H⟩:AS).put o.dst av=⟨TX ops T0 f (i::X),H⟩:=by
 have hd:cX ops i=o.dst:=by simp[cX,ho]
 have e:TX ops T0 f (i::X)=match cX ops i with
  |some d=>(d,f i)::TX ops T0 f X
  |none=>TX ops T0 f X:=rfl
 rw[e,hd];cases o.dst with
 |none=>rfl
 |some d=>simp[AS.put,hf]
def kU (ops:Array Tx)(X:List Nat):Prop:=∀i∈X,∀o,ops[i]?=some o->∀j∈cS o,j∈X
theorem kU.reach{X:List Nat}(hX:kU ops X){i j:Nat}(hi:i∈X)(h:Reach ops i j):j∈X:=BT hX h λo ho k hk=>hX i hi o ho k hk
theorem kU.cons{X:List Nat}(hX:kU ops X){i:Nat}{o:Tx}(ho:ops[i]?=some o)(hd:∀j∈cS o,j∈X):kU ops (i::X):=λk hk o' bm j hj=>by
 rcases SK.1 hk with rfl|hk
 ·rw[ho]at bm;cases bm;exact Td _ (hd j hj)
 ·exact Td _ (hX k hk o' bm j hj)
theorem afj{nt:Nat}{ord:List Nat}(aq:Ac nt ops ord){X X':List Nat}{i:Nat}{o:Tx}(ho:ops[i]?=some o)(hX:kU ops X)(oN:kU ops X')(hi:i∉X)(cE:i∉X')(hd:∀j∈cS o,j∈X)(cD:∀j∈cS o,j∈X'){t:Nat}(ht: .tmp t∈o.op.operands):
  look (TX ops T0 f X) t=look (TX ops T0 f X') t:=by
 by_cases hex:∃j,cX ops j=some t
 ·obtain⟨j,hj⟩:=hex;rcases aq.OD i o t j ho ht hj with h|h
  ·rw[CD aq.Cb (hd j h) hj,CD aq.Cb (cD j h) hj]
  ·rw[xZ λj' iI e=>hi (hX.reach (aq.Cb j j' t hj e▸iI) h),xZ λj' iI e=>cE (oN.reach (aq.Cb j j' t hj e▸iI) h)]
 ·rw[xZ λj _ e=>hex ⟨j,e⟩,xZ λj _ e=>hex ⟨j,e⟩]
end
section
variable {lv:Bool}{P:SI}{r:Option Nat}{ops:Array Tx}{Hf:List Nat->List aa}{T0:List (Nat×AV)}{es ord:List Nat}{nt:Nat}
def done (es X:List Nat):List Nat:=es.filter λe=>X.contains e
theorem Gn{X:List Nat}{i:Nat}:uh es i (done es X)=done es (i::X):=by
 unfold uh done;apply U3;intro e he;by_cases h:e=i
 ·subst h;simp
 ·simp[Uz,he,h]
theorem Kx{X:List Nat}{i:Nat}(hi:i∉es):done es (i::X)=done es X:=by
 unfold done;apply U3;intro e he;have:e≠i:=λh=>hi (h▸he);simp[this]
theorem Ky{X:List Nat}(hX:kU ops X){i:Nat}{o:Tx}(ho:ops[i]?=some o)(hi:i∉X)(hd:∀j∈cS o,j∈X):xv (gH ops ord []) es i (done es X)=true:=by
 have cw:∀e,e∈es->(e∈done es X<->e∈X):=λe he=>by simp[done,Uz,he]
 have hX2:=hX.cons ho hd;unfold xv;simp only[Te,TZ,Ut,decide_eq_false_iff_not,Tu,Xn,decide_eq_true_eq];refine⟨λh=>hi (by simpa[done]using(Uz.1 h).2),λe he=>⟨?_,?_⟩⟩
 ·by_cases h:e∈nL (gH ops ord []) i
  ·right;rw[cw e he];exact BT hX (Av h) λo' bm k hk=>by rw[ho]at bm;cases bm;exact hd k hk
  ·exact .inl h
 ·by_cases h:e∈X
  ·right;refine⟨λhm=>hi (hX.reach h (Av hm)),λe' ku=> ?_⟩;by_cases hm:e'∈nL (gH ops ord []) e
   ·right;rw[cw e' ku];exact hX.reach h (Av hm)
   ·exact .inl hm
  ·left;rw[cw e he];exact h
def OB (lv:Bool)(P:SI)(r:Option Nat)(ops:Array Tx)(Hf:List Nat->List aa)(T0:List (Nat×AV))(es:List Nat)(f:Nat->AV)(i:Nat)(o:Tx)(X:List Nat):Prop:=
 if i∈es then j7 lv P (Hf (done es (i::X))) ⟨TX ops T0 f X,Hf (done es X)⟩ o (λa H'=>a=f i/\H'=Hf (done es (i::X)))
 else∃T,(∀t a,look T t=some a->look (TX ops T0 f X) t=some a)/\dD lv P r o ⟨T,Hf (done es X)⟩ (f i)
theorem BQ.mem{T:List (Nat×AV)}{o:Tx}{av:AV}:∀{l:List (List Nat×List Nat)},BQ lv P Hf T o av l->∀p∈l,AQ lv P ⟨T,Hf p.1⟩ o λa=>a=av
 |(D,D')::l,h,p,hp=>by
  rcases SK.1 hp with rfl|hp
  ·exact h.1
  ·exact BQ.mem h.2 p hp
theorem BE.mem{T:List (Nat×AV)}{o:Tx}{av:AV}:∀{l:List (List Nat×List Nat)},BE lv P Hf T o av l->∀p∈l,j7 lv P (Hf p.2) ⟨T,Hf p.1⟩ o λa H'=>a=av/\H'=Hf p.2
 |(D,D')::l,h,p,hp=>by
  rcases SK.1 hp with rfl|hp
  ·exact h.1
  ·exact BE.mem h.2 p hp
def canon (T:List (Nat×AV)):List Tl->List (Nat×AV)
 |[]=>[]
 |.tmp t::l=>match look T t with
  |some a=>(t,a)::canon T l
  |none=>canon T l
 |_::l=>canon T l
theorem Ke{T:List (Nat×AV)}:∀{l:List Tl}{t:Nat}{a:AV},look (canon T l) t=some a->look T t=some a
 |[],_,_,h=>by cases h
 |x::l,t,a,h=>by
  have ih:=@Ke T l t a;cases x with
  |tmp t'=>
   simp only[canon]at h;split at h
   ·rename_i b hb;simp only[look]at h;split at h
    ·rename_i e;subst e;cases h;exact hb
    ·exact ih h
   ·exact ih h
  |_=>exact ih h
theorem Q3{T:List (Nat×AV)}:∀{l:List Tl}{t:Nat},.tmp t∈l->look (canon T l) t=look T t
 |x::l,t,h=>by
  by_cases hx:x=.tmp t
  ·subst hx;simp only[canon];split
   ·rename_i b hb;simp[look,hb]
   ·rename_i hb;rw[hb];cases e:look (canon T l) t with
    |none=>rfl
    |some a=>have:=Ke e;rw[hb]at this;cases this
  ·have hm: .tmp t∈l:=(SK.1 h).resolve_left (Ne.symm hx);have ih:=Q3 (T:=T) hm;cases x with
   |tmp t'=>
    have aH:t'≠t:=λe=>hx (by rw[e]);simp only[canon];split
    ·simp only[look,if_neg aH];exact ih
    ·exact ih
   |_=>exact ih
theorem Q2{T:List (Nat×AV)}:∀{l:List Tl}{t:Nat}{a:AV},look (canon T l) t=some a-> .tmp t∈l
 |[],_,_,h=>by cases h
 |x::l,t,a,h=>by
  have ih:=@Q2 T l t a;cases x with
  |tmp t'=>
   simp only[canon]at h;split at h
   ·simp only[look]at h;split at h
    ·rename_i e;subst e;exact TF ..
    ·exact Td _ (ih h)
   ·exact Td _ (ih h)
  |_=>exact Td _ (ih h)
theorem QZ{T:List (Nat×AV)}{H:List aa}{l:List Tl}{x:Tl}(h:x∈l):AS.ev ⟨T,H⟩ x=AS.ev ⟨canon T l,H⟩ x:=by
 cases x with
 |tmp t=>exact(Q3 h).symm
 |_=>rfl
theorem CZ(aq:Ac nt ops ord){K:AS->Prop}{tk:Cs K}:∀(B X:List Nat)(acc:Nat->AV),kA ops X B=true->kU ops X->gf lv P Hf ops (rc (gH ops ord []) es X B) ⟨TX ops T0 acc X,Hf (done es X)⟩ K tk->
  ∃f,(∀j∈X,f j=acc j)/\(∀i∈B,∀o,ops[i]?=some o->∀X',kU ops X'->i∉X'->(∀j∈cS o,j∈X')->OB lv P r ops Hf T0 es f i o X')/\K ⟨TX ops T0 f (B.reverse++X),Hf (done es (B.reverse++X))⟩
 |[],X,acc,_,_,h=>⟨acc,λ_ _=>rfl,by simp,by simpa[rc,gf]using h⟩
 |i::B,X,acc,kM,hX,h=>by
  have avy:=kM;simp only[kA,Te,TZ,Ut,decide_eq_false_iff_not]at kM;obtain⟨⟨hi,h2⟩,h3⟩:=kM;cases ho:ops[i]?with
  |none=>rw[ho]at h2;cases h2
  |some o=>
  rw[ho]at h2;have hd:∀j∈cS o,j∈X:=λj hj=>by have:=Tu.1 h2 j hj;simpa using this
  have oN:=hX.cons ho hd;have avj:xv (gH ops ord []) es i (done es X)=true:=Ky hX ho hi hd;have OE:∀D,D∈ux es->xv (gH ops ord []) es i D=true->D≠done es X->(D,uh es i D)∈((ux es).filter λD=>xv (gH ops ord []) es i D&&D !=done es X).map λD=>(D,uh es i D):=λD h1 h2 h3=>Tf.2 ⟨D,Uz.2 ⟨h1,by simp[h2,h3]⟩,rfl⟩;have Qd:∀av:AV,TX ops T0 acc X=TX ops T0 (λj=>if j=i then av else acc j) X:=λav=>CC λj hj=>by
   have:j≠i:=λe=>hi (e▸hj);simp[this]
  have seen:∀(f:Nat->AV) X',(∀j∈X,f j=acc j)->kU ops X'->i∉X'->(∀j∈cS o,j∈X')->∀(H:List aa),∀x∈o.op.operands,AS.ev ⟨TX ops T0 acc X,H⟩ x=AS.ev ⟨TX ops T0 f X',H⟩ x:=λf X' hf hc hn cD H x hx=>by
   cases x with
   |tmp t=>
    show look _ t=look _ t;rw[<- CC (f:=f) (g:=acc) hf];exact afj aq ho hX hc hi hn hd cD hx
   |_=>rfl
  unfold rc at h;by_cases dB:i∈es
  ·have Mc:entry (gH ops ord []) es X i=⟨i,true,uh es i (done es X),((ux es).filter λD=>xv (gH ops ord []) es i D&&D !=done es X).map λD=>(D,uh es i D)⟩:=by
    unfold entry done;simp[dB]
   rw[Mc,gf,ho,ao]at h;obtain⟨av,H',g1,e1,g2,g3⟩:=h.ex;subst e1;rw[Gn]at g1 g3;rw[Qd av,x6 ho (by simp)]at g3;obtain⟨f,q1,q2,q3⟩:=CZ aq B (i::X) _ h3 oN g3;have vd:f i=av:=(by have:=q1 i (TF ..);simpa using this);have DN:∀j∈X,f j=acc j:=λj hj=>by
    have:=q1 j (Td _ hj);have aH:j≠i:=λe=>hi (e▸hj);simpa[aH]using this
   refine⟨f,DN,λk hk o' bm X' hc hn cD=> ?_,by simpa using q3⟩;rcases SK.1 hk with rfl|hk
   ·rw[ho]at bm;cases bm;unfold OB;rw[if_pos dB,vd];refine j7.congr (T:=TX ops T0 acc X) (seen f X' DN hc hn cD _) ?_;by_cases hD:done es X'=done es X
    ·rw[<- Gn,hD,Gn];exact g1
    ·have:=g2.mem _ (OE _ (Gw _ es) (Ky hc ho hn cD) hD);rw[<- Gn];exact this
   ·exact q2 k hk o' bm X' hc hn cD
  ·have Mc:entry (gH ops ord []) es X i=⟨i,false,uh es i (done es X),((ux es).filter λD=>xv (gH ops ord []) es i D&&D !=done es X).map λD=>(D,uh es i D)⟩:=by
    unfold entry done;simp[dB]
   rw[Mc,gf,ho,ao]at h;have h':=AQ.congr (T':=canon (TX ops T0 acc X) o.op.operands.toList) (λx hx=>QZ (by simpa using hx)) h;obtain⟨av,g1,g2,g3⟩:=h'.sound (r:=r);rw[Qd av,x6 ho (by simp),<- Kx (X:=X) dB]at g3;obtain⟨f,q1,q2,q3⟩:=CZ aq B (i::X) _ h3 oN g3;have vd:f i=av:=(by have:=q1 i (TF ..);simpa using this);have DN:∀j∈X,f j=acc j:=λj hj=>by
    have:=q1 j (Td _ hj);have aH:j≠i:=λe=>hi (e▸hj);simpa[aH]using this
   refine⟨f,DN,λk hk o' bm X' hc hn cD=> ?_,by simpa using q3⟩;rcases SK.1 hk with rfl|hk
   ·rw[ho]at bm;cases bm;unfold OB;rw[if_neg dB,vd];refine⟨canon (TX ops T0 acc X) o.op.operands.toList,λt a e=> ?_,?_⟩
    ·have h1:=seen f X' DN hc hn cD [] (.tmp t) (by simpa using Q2 e);have h2:look (TX ops T0 acc X) t=look (TX ops T0 f X') t:=h1;rw[<- h2];exact Ke e
    ·by_cases hD:done es X'=done es X
     ·rw[hD];exact g1
     ·have h1:=g2.mem _ (OE _ (Gw _ es) (Ky hc ho hn cD) hD);have h2:=AQ.congr (T':=canon (TX ops T0 acc X) o.op.operands.toList) (λx hx=>QZ (by simpa using hx)) h1;obtain⟨mS,h3,rfl⟩:=h2.sound (r:=r);exact h3
   ·exact q2 k hk o' bm X' hc hn cD
theorem FY{f:Nat->AV}(aq:Ac nt ops ord){X X':List Nat}(h:∀i,i∈X<->i∈X')(t:Nat):look (TX ops T0 f X) t=look (TX ops T0 f X') t:=by
 by_cases hex:∃j∈X,cX ops j=some t
 ·obtain⟨j,hj,hd⟩:=hex;rw[CD aq.Cb hj hd,CD aq.Cb ((h j).1 hj) hd]
 ·rw[xZ λj hj e=>hex ⟨j,hj,e⟩,xZ λj hj e=>hex ⟨j,(h j).2 hj,e⟩]
theorem Gp{X X':List Nat}(h:∀i,i∈X<->i∈X'):done es X=done es X':=by
 unfold done;apply U3;intro e _;have:=h e;by_cases h1:e∈X
 ·have h2:=this.1 h1;simp[h1,h2]
 ·have h2:e∉X':=λx=>h1 (this.2 x);simp[h1,h2]
theorem ail{f:Nat->AV}(aq:Ac nt ops ord)(ay:∀i∈ord,∀o,ops[i]?=some o->∀X',kU ops X'->i∉X'->(∀j∈cS o,j∈X')->OB lv P r ops Hf T0 es f i o X'){X l:List Nat}(hs:mf ops X l):
  (∀i∈X,i<ops.size)->kU ops X->∀(E:Env)(V:View)(a:Act)(Q:Ex->Act->View->Prop),At E V ⟨TX ops T0 f X,Hf (done es X)⟩ a nt->
   (∀E' V' a' X',Kept E E' V V' a a'->At E' V' ⟨TX ops T0 f X',Hf (done es X')⟩ a' nt->(∀i,i∈X'<->i<ops.size)->Q .normal a' V')->dq lv P r ops Q l a V:=by
 induction hs with
 |nil X h=>
  intro hX hc E V a Q ai hQ;exact hQ E V a X (Kept.refl E V a) ai λi=>⟨hX i,h i⟩
 |cons o ho hn hd lV ih=>
  rename_i X i l;intro hX hc E V a Q ai hQ;have hi:i<ops.size:=(SS.1 ho).1;simp only[dq,ho];have oN:∀k∈i::X,k<ops.size:=λk hk=>(SK.1 hk).elim (λe=>by rw[e];exact hi) (hX k);have bu:=hc.cons ho hd;have hw:Tj o (yielded ops a.tmps)=true:=by unfold Tj;rw[aq.Dj i o ho]
  rw[if_pos hw];refine .inl ?_;have du:∀d,o.dst=some d->d<a.tmps.size:=λd e=>by rw[ai.size];exact aq.dst i o d ho e
  have lU:=ay i (aq.full i hi) o ho X hc hn hd;unfold OB at lU;by_cases dB:i∈es
  ·rw[if_pos dB]at lU;have aP:=lU.step (r:=r) (bad:=λ_ _=>False);refine aP E V a _ Q ai.bz ai.tok du (.inr (aq.wE i o ho)) (λE' V' a' s' hk b_ ht e=> ?_) λ_ _ _ _ _ _ _ _ _ h=>h.elim;subst e;rw[x6 ho rfl]at ht b_;exact ih oN bu E' V' a' Q ⟨b_,ht,hk.size.trans ai.size⟩ λbY aU cu mQ aJ dj eN=>hQ bY aU cu mQ (hk.trans aJ) dj eN
  ·rw[if_neg dB]at lU;obtain⟨T,hT,hq⟩:=lU;refine hq E V a _ Q ai.bz (λt av e=>ai.tok t av (hT t av e)) (.inr (aq.wE i o ho)) λE' V' v hle cq fg b_ hv=> ?_;have ht:cr E' ((⟨TX ops T0 f X,Hf (done es X)⟩:AS).put o.dst (f i)).T (a.put o.dst v).tmps:=cr.ie (s:=⟨TX ops T0 f X,Hf (done es X)⟩) (ai.tok.mono hle) du hv;rw[x6 ho rfl]at ht;refine ih oN bu E' V' (a.put o.dst v) Q ⟨by rw[Kx dB];exact b_,ht,(eg _ _ _).trans ai.size⟩ λbY aU cu mQ hk dj eN=>
    hQ bY aU cu mQ ⟨hle.trans hk.le,hk.size.trans (eg _ _ _),hk.defers.trans (put_defers _ _ _),hk.role.trans cq,hk.deaf.trans fg⟩ dj eN
theorem agN{s:AS}{id:Nat}{Φ:an->AS->Prop}(es ord:List Nat)(pl:List rB)(Hf:List Nat->List aa)(hm:P.follows .mixedOrders=true)(aq:rM nt ops es ord=true)(cL:ac8 ops es ord=pl)(h0:s.H=Hf [])
  (h:gf lv P Hf ops pl s (Φ .normal) ⟨0⟩):aR lv P r nt (.region id ops true) s Φ:=by
 intro E V a Q ai hQ;have aq:=rM.out aq;obtain⟨xa,_,hlt⟩:=Fu aq.top;have dg:s=⟨TX ops s.T (λ_=> .val undef) [],Hf (done es [])⟩:=by
  have:done es []=[]:=by simp[done]
  rw[this,<- h0];rfl
 subst cL;have h':gf lv P Hf ops (rc (gH ops ord []) es [] ord) ⟨TX ops s.T (λ_=> .val undef) [],Hf (done es [])⟩ (Φ .normal) ⟨0⟩:=by rw[<- dg];exact h
 obtain⟨f,_,q2,q3⟩:=CZ (r:=r) aq ord [] _ aq.top (λi hi=>by cases hi) h';have A9:∀i,i∈ord<->i<ops.size:=λi=>⟨hlt i,aq.full i⟩;refine PO λt=> ?_;rw[show VR (P.follows .mixedOrders) ops t=UM .any ops ops.size t (TS ops.size false) [] by unfold VR;rw[hm];simp[Zl]];have binds:∀(A B:List Nat)(X:List Nat),kA ops X (A++B)=true->True:=λ_ _ _ _=>trivial;have ready:∀(ord X:List Nat),kA ops X ord=true->∀A i B,ord=A++i::B->∃o,ops[i]?=some o/\∀j∈cS o,j∈A\/j∈X:=by
  intro ord;induction ord with
  |nil=>intro X _ A i B e;cases A<;>cases e
  |cons x l ih=>
   intro X kM A i B e;simp only[kA,Te,TZ,Ut,decide_eq_false_iff_not]at kM;obtain⟨⟨h1,h2⟩,h3⟩:=kM;cases A with
   |nil=>
    have e1:x=i:=(by have:=congrArg List.head? e;simpa using this);rw[e1]at h2;cases ho:ops[i]?with
    |none=>rw[ho]at h2;cases h2
    |some o=>
     rw[ho]at h2;exact⟨o,rfl,λj hj=> .inr (by have:=Tu.1 h2 j hj;simpa using this)⟩
   |cons y A=>
    cases e;obtain⟨o,ho,hb⟩:=ih (x::X) h3 A i B rfl;refine⟨o,ho,λj hj=> ?_⟩;rcases hb j hj with h|h
    ·exact .inl (Td _ h)
    ·rcases SK.1 h with rfl|h
     ·exact .inl (TF ..)
     ·exact .inr h
 have hs:=N9 (ops:=ops) (λi o ho j hj=>by
   obtain⟨A,B,e⟩:=List.append_of_mem (aq.full i (SS.1 ho).1);obtain⟨o',bm,hb⟩:=ready ord [] aq.top A i B e;rw[ho]at bm;cases bm;rcases hb j hj with h|h
   ·exact hlt j (by rw[e];exact Ti _ h)
   ·cases h)
  (λX ⟨i,hi,hn⟩=>by
   obtain⟨A,i',B,e,h1,h2⟩:=K7 (X:=X) ⟨i,aq.full i hi,hn⟩;obtain⟨o',bm,hb⟩:=ready ord [] aq.top A i' B e;refine⟨i',o',bm,h1,λj hj=> ?_⟩;rcases hb j hj with h|h
   ·exact h2 j h
   ·cases h)
  ops.size t (TS ops.size false) [] ⟨by simp,λi hi=>by simp[hi]⟩ (TL Zb (by simp))
 have tL:At E V ⟨TX ops s.T f [],Hf (done es [])⟩ a nt:=by
  have e:(⟨TX ops s.T f [],Hf (done es [])⟩:AS)=s:=dg.symm;rw[e];exact ai
 refine ail (Hf:=Hf) (es:=es) aq q2 hs (by simp) (λi hi=>by cases hi) E V a Q tL λE' V' a' X' hk aV eN=> ?_;have fK:∀i,i∈X'<->i∈ord.reverse++[]:=λi=>by simp[eN,A9]
 refine hQ .normal .normal E' V' a' _ hk ⟨?_,λt x e=> ?_,aV.size⟩ trivial q3
 ·rw[<- Gp fK];exact aV.bz
 ·rw[<- FY aq fK]at e;exact aV.tok t x e
end
open Go.Proofs
theorem F.P4:kW SA 77=(SM Go.Gg.xU.map):=by kernel_rfl
theorem F.Qa:eS SA 4=(SM (Xj Bool.false)):=by kernel_rfl
theorem F.Qb:eS SA 88=(SM (TA #[(Xj Bool.false),(ZD Option.none),(SF S7 (0)),(SF S7 (0)),(SF S7 (0)),(SF S7 (0)),(SF S7 (0)),(SF S7 (0)),(SF S7 (0)),(SF S7 (0)),(SF S7 (0)),(SF S7 (0)),(SF S7 (0)),(SF S7 (0)),(SF S7 (0)),(SF S7 (0)),(SF S7 (0)),(SF SD (0)),(SF SD (0)),(SF SD (0)),(SF SD (0)),(SF SD (0)),(SF SD (0)),(SF SD (0)),(SF SD (0)),(SF SD (0)),(SF SD (0)),(SF SD (0))])):=by kernel_rfl
theorem F.ano:mB SA 116=(SM Bool.false):=by kernel_rfl
theorem F.Ez:mB SA 126=(SM Bool.true):=by kernel_rfl
theorem F.NO:mB SA 136=(SM Bool.false):=by kernel_rfl
theorem F.anp:mB SA 156=(SM Bool.false):=by kernel_rfl
theorem F.abK:mB SA 97=(SM Bool.false):=by kernel_rfl
theorem F.f31:SA.funcs[31]?=some Tryz.f31:=by kernel_rfl
theorem F.f71:SA.funcs[71]?=some Tryz.f71:=by kernel_rfl
theorem F.f77:SA.funcs[77]?=some XX:=by kernel_rfl
theorem F.f91:SA.funcs[91]?=some Tryz.f91:=by kernel_rfl
theorem F.f95:SA.funcs[95]?=some Tryz.f95:=by kernel_rfl
theorem F.f97:SA.funcs[97]?=some avY:=by kernel_rfl
theorem F.mixed:SA.follows .mixedOrders=true:=by kernel_rfl
inductive dL (lv:Bool)(P:SI)(r:Option Nat)(nt:Nat):Uc->(an->AS->Prop)->Uc->(an->AS->Prop)->Prop
 |base {c:Uc} {Φ:an->AS->Prop}:dL lv P r nt c Φ c Φ
 |seq {x y h:Uc} {Φ Ψ:an->AS->Prop} (i:dL lv P r nt x (an.then (λs=>aR lv P r nt y s Φ) Φ) h Ψ):dL lv P r nt (.seq x y) Φ h Ψ
 |block {id:Nat} {x h:Uc} {Φ Ψ:an->AS->Prop} (i:dL lv P r nt x (an.inBlock id Φ) h Ψ):dL lv P r nt (.block id x) Φ h Ψ
section
variable {lv:Bool}{P:SI}{r:Option Nat}{s:AS}{nt id:Nat}{ops:Array Tx}{c h:Uc}{Φ Ψ:an->AS->Prop}
theorem bD{f:TY}{H:List aa}{args:List AV}{k kp:AV->List aa->Prop}{rs:List UU}(fn:YL)
  (h:bJ H->(∀a∈args,Lt H.length a)->aR lv P none nt c ⟨bp 0 args,H⟩ (uB P rs H.length k kp)) (hf:P.funcs[f]?=some fn:=by kernel_rfl) (hb:fn.body=some c:=by rfl) (hr:fn.results=rs.toArray:=by rfl) (hn:fn.ntmps=nt:=by rfl) (cN:args.length<=nt:=by simp):ba lv P f H args k kp:=akt hf hb hr hn cN h
theorem dL.go(i:dL lv P r nt c Φ h Ψ):∀{s:AS},aR lv P r nt h s Ψ->aR lv P r nt c s Φ:=by
 induction i with
 |base=>exactλh=>h
 |seq _ ih=>exactλk=>eT (ih k)
 |block _ ih=>exactλk=>Qv (ih k)
theorem ab(h:iF lv P ops ops.toList s (Ψ .normal) (λpv s=>Ψ (.panic pv) s))(i:dL lv P r nt c Φ (.region id ops false) Ψ:=by repeat first|exact .base|apply dL.seq|apply dL.block)(hd:jT nt ops=true:=by kernel_rfl):aR lv P r nt c s Φ:=i.go (QC hd h)
theorem auU{o:Tl}{x y:Uc}(h:ao (s.ev o) λa=>a.asBool λb=>(b=true->aR lv P r nt x s Ψ)/\(b=false->aR lv P r nt y s Ψ))(i:dL lv P r nt c Φ (.cond o x y) Ψ:=by repeat first|exact .base|apply dL.seq|apply dL.block):aR lv P r nt c s Φ:=i.go (Qw h)
theorem agW(h:Ψ .normal s)(i:dL lv P r nt c Φ .skip Ψ:=by repeat first|exact .base|apply dL.seq|apply dL.block):aR lv P r nt c s Φ:=i.go (QF h)
theorem oD(h:Ψ .ret s)(i:dL lv P r nt c Φ .ret Ψ:=by repeat first|exact .base|apply dL.seq|apply dL.block):aR lv P r nt c s Φ:=i.go (QD h)
theorem auW(h:Ψ (.exit id) s)(i:dL lv P r nt c Φ (.exit id) Ψ:=by repeat first|exact .base|apply dL.seq|apply dL.block):aR lv P r nt c s Φ:=i.go (Qx h)
theorem bP{x:Uc}(h:aR lv P r nt x s (an.inBlock id Ψ))(i:dL lv P r nt c Φ (.block id x) Ψ:=by repeat first|exact .base|apply dL.seq|apply dL.block):aR lv P r nt c s Φ:=i.go (Qv h)
theorem aj{p:Prop}(h:p)(i:dL lv P r nt c Φ (.region id ops false) Ψ:=by repeat first|exact .base|apply dL.seq|apply dL.block)(e:iF lv P ops ops.toList s (Ψ .normal) (λpv s=>Ψ (.panic pv) s)=p:=by conv=>lhs;simp only[seval])(hd:jT nt ops=true:=by kernel_rfl):aR lv P r nt c s Φ:=i.go (QC hd (e.mpr h))
theorem aD{p:Prop}{o:Tl}{x y:Uc}(h:p)(i:dL lv P r nt c Φ (.cond o x y) Ψ:=by repeat first|exact .base|apply dL.seq|apply dL.block)(e:(ao (s.ev o) λa=>a.asBool λb=>(b=true->aR lv P r nt x s Ψ)/\(b=false->aR lv P r nt y s Ψ))=p:=by conv=>lhs;simp only[seval]):aR lv P r nt c s Φ:=i.go (Qw (e.mpr h))
theorem aF{p:Prop}(h:p)(i:dL lv P r nt c Φ .skip Ψ:=by repeat first|exact .base|apply dL.seq|apply dL.block)(e:Ψ .normal s=p:=by conv=>lhs;simp only[seval]):aR lv P r nt c s Φ:=i.go (QF (e.mpr h))
theorem aX{p:Prop}(h:p)(i:dL lv P r nt c Φ .ret Ψ:=by repeat first|exact .base|apply dL.seq|apply dL.block)(e:Ψ .ret s=p:=by conv=>lhs;simp only[seval]):aR lv P r nt c s Φ:=i.go (QD (e.mpr h))
theorem bO{p:Prop}(h:p)(i:dL lv P r nt c Φ (.exit id) Ψ:=by repeat first|exact .base|apply dL.seq|apply dL.block)(e:Ψ (.exit id) s=p:=by conv=>lhs;simp only[seval]):aR lv P r nt c s Φ:=i.go (Qx (e.mpr h))
theorem ej{Φ Ψ:an->AS->Prop}{c:Uc}(p:Nat)(h:nk lv P ops (ops.toList.take p) s (λs'=>iF lv P ops (ops.toList.drop p) s' (Ψ .normal) (λpv s=>Ψ (.panic pv) s)))(i:dL lv P r nt c Φ (.region id ops true) Ψ:=by repeat first|exact .base|apply dL.seq|apply dL.block)(hm:P.follows .mixedOrders=true:=by kernel_rfl)(aq:AA nt p ops=true:=by kernel_rfl):aR lv P r nt c s Φ:=i.go (agM hm p aq h)
theorem nB{Φ Ψ:an->AS->Prop}{c:Uc}(es ord:List Nat){pl:List rB}(Hf:List Nat->List aa)(h:gf lv P Hf ops pl s (Ψ .normal) ⟨0⟩)(i:dL lv P r nt c Φ (.region id ops true) Ψ:=by repeat first|exact .base|apply dL.seq|apply dL.block)(hm:P.follows .mixedOrders=true:=by kernel_rfl)(aq:rM nt ops es ord=true:=by kernel_rfl)(cL:ac8 ops es ord=pl:=by conv=>lhs;cbv)(h0:s.H=Hf []:=by first|rfl|simp only[seval]):aR lv P r nt c s Φ:=i.go (agN es ord pl Hf hm aq cL h0 h)
theorem qu(n:Nat)(V:Nat->List (Nat×AV))(Hf:Nat->List aa)(ok:Nat->Prop)(hm:ok 0)
  (h:bJ s.H->(∀t a,look s.T t=some a->Lt s.H.length a)->∀m,m<=n->ok m->∀R:AS->Prop,(∀s',(m<n/\ok (m+1)/\rD s.T (V m) (V (m+1)) (Hf (m+1)) s')->R s')->aR lv P r nt c ⟨V m++s.T,Hf m⟩ (an.then R Φ)) (vq:∀m m',(V m).map (·.1)=(V m').map (·.1):=by exactλ_ _=>rfl) (gI:∀p∈V 0,∃b,look s.T p.1=some b/\Wk b p.2:=by(simp only[seval];simp[bk,Wk.refl])) (u5:Hf 0=s.H:=by rfl) (hl:∀m,m<=n->ok m->(Hf m).length=s.H.length:=by exactλ_ _ _=>rfl):aR lv P r nt (.loop c) s Φ:=ek n V Hf ok vq gI u5 hl hm h
theorem bX{base Vi Vn T:List (Nat×AV)}{H:List aa}(hk:sX T (Vi++base) Vn:=by exact lC rfl rfl)(hv:∀p∈Vn,∃b,look T p.1=some b/\Wk b p.2:=by(simp only[seval];simp[bk,Wk.refl])):rD base Vi Vn H ⟨T,H⟩:=arm hk hv
theorem adp{base Vi Vn T:List (Nat×AV)}{H H':List aa}(aq:bJ H)(hg:∃G,H++G=H':=by first|exact⟨_,rfl⟩|exact⟨_,SC ..⟩)(hk:sX T (Vi++base) Vn:=by exact lC rfl rfl)(hv:∀p∈Vn,∃b,look T p.1=some b/\Wk b p.2:=by(simp only[seval];simp[bk,Wk.refl]))(hlt:∀p∈Vn,Lt H.length p.2:=by simp[dZ]):rD base Vi Vn H ⟨T,H'⟩:=by
 obtain⟨G,rfl⟩:=hg;exact ado hk hv aq hlt
theorem dc{H:List aa}{args:List AV}{k kp:AV->List aa->Prop}{g:TY}{first cU:List AV}(hf:ba lv P g H (first++args++cU) k kp)(hg:rn P g=true:=by kernel_rfl):je lv P (.fn (.func g) first cU) H args k kp:=J' hg hf
end
theorem aK{lv:Bool}{P:SI}{H:List aa}{args:List AV}{k kp:AV->List aa->Prop}{g:TY}{first cU:List AV}{t:FU k kp}(hf:ba lv P g H (first++args++cU) k kp)(hg:rn P g=true:=by kernel_rfl):Ck lv P (.fn (.func g) first cU) H args k kp t:=ye (J' hg hf)
theorem F.q0:jy SA 22 22=(SM (3,(1,(SF SD (0)))))/\jy SA 23 23=(SM (61,(3,(TA #[(SF SD (0)),(SF SD (0)),(SF SD (0))]))))/\jy SA 24 24=(SM (48,(4,(TA #[(SF SD (0)),(SF SD (0)),(SF SD (0)),(SF SD (0))]))))/\jy SA 31 31=(SM (39,(3,(TA #[(TN Option.none 0 0),(TN Option.none 0 0),(TN Option.none 0 0)]))))/\jy SA 57 57=(SM (22,(1,(TN Option.none 0 0))))/\ov SA 136=(SM ((Go.Gg.ik.fields []),(TA #[])))/\ov SA 26=(SM ((Go.Gg.ik.fields [(0,1),(1,1),(2,1),(3,1),(4,1),(5,1)]),(TA #[(SF SD (0)),(SF SD (0)),(SF SD (0)),(TN Option.none 0 0),(TN Option.none 0 0),(TN Option.none 0 0)])))/\ov SA 39=(SM ((Go.Gg.ik.fields [(0,1),(1,1),(2,1)]),(TA #[(TN Option.none 0 0),(TN Option.none 0 0),(TN Option.none 0 0)])))/\ov SA 46=(SM ((Go.Gg.ik.fields [(0,1),(1,1)]),(TA #[(SF SD (0)),(SF SD (0))])))/\ov SA 48=(SM ((Go.Gg.ik.fields [(0,2),(2,2)]),(TA #[(SF SD (0)),(SF SD (0)),(SF SD (0)),(SF SD (0))])))/\ov SA 61=(SM ((Go.Gg.ik.fields [(0,1),(1,2)]),(TA #[(SF SD (0)),(SF SD (0)),(SF SD (0))])))/\ov SA 73=(SM ((Go.Gg.ik.fields [(0,1),(1,1),(2,1)]),(TA #[(TN Option.none 0 0),(SF SD (0)),(SF TD (0))])))/\ov SA 76=(SM ((Go.Gg.ik.fields [(0,6)]),(TA #[(SF SD (0)),(SF SD (0)),(SF SD (0)),(TN Option.none 0 0),(TN Option.none 0 0),(TN Option.none 0 0)])))/\ov SA 86=(SM ((Go.Gg.ik.fields [(0,4),(4,4),(8,3)]),(TA #[(SF SD (0)),(SF SD (0)),(SF SD (0)),(SF SD (0)),(SF SD (0)),(SF SD (0)),(SF SD (0)),(SF SD (0)),(SF SD (0)),(SF SD (0)),(SF SD (0))])))/\ov SA 88=(SM ((Go.Gg.ik.fields [(0,1),(1,1),(2,4),(6,4),(10,4),(14,3),(17,11)]),(TA #[(Xj Bool.false),(ZD Option.none),(SF S7 (0)),(SF S7 (0)),(SF S7 (0)),(SF S7 (0)),(SF S7 (0)),(SF S7 (0)),(SF S7 (0)),(SF S7 (0)),(SF S7 (0)),(SF S7 (0)),(SF S7 (0)),(SF S7 (0)),(SF S7 (0)),(SF S7 (0)),(SF S7 (0)),(SF SD (0)),(SF SD (0)),(SF SD (0)),(SF SD (0)),(SF SD (0)),(SF SD (0)),(SF SD (0)),(SF SD (0)),(SF SD (0)),(SF SD (0)),(SF SD (0))])))/\ov SA 97=(SM ((Go.Gg.ik.fields [(0,1),(1,1)]),(TA #[(SF SD (0)),(SF SD (0))]))):=by and_intros<;>kernel_rfl
theorem F.q1:Cl SA 3 71=(SM (SM TD))/\Cl SA 71 3=(SM (SM SD))/\eR SA 112 0=(SM 0)/\eR SA 112 1=(SM 1)/\eR SA 112 2=(SM 2)/\eR SA 26 0=(SM 0)/\eR SA 26 1=(SM 1)/\eR SA 26 2=(SM 2)/\eR SA 26 3=(SM 3)/\eR SA 26 4=(SM 4)/\eR SA 26 5=(SM 5)/\eR SA 39 0=(SM 0)/\eR SA 39 1=(SM 1)/\eR SA 46 0=(SM 0)/\eR SA 46 1=(SM 1)/\eR SA 48 0=(SM 0):=by and_intros<;>kernel_rfl
theorem F.q2:eR SA 48 1=(SM 2)/\eR SA 61 0=(SM 0)/\eR SA 61 1=(SM 1)/\eR SA 73 0=(SM 0)/\eR SA 73 1=(SM 1)/\eR SA 73 2=(SM 2)/\eR SA 76 0=(SM 0)/\eR SA 86 0=(SM 0)/\eR SA 86 1=(SM 4)/\eR SA 86 2=(SM 8)/\eR SA 88 0=(SM 0)/\eR SA 88 1=(SM 1)/\eR SA 88 2=(SM 2)/\eR SA 88 3=(SM 6)/\eR SA 88 4=(SM 10)/\eR SA 88 5=(SM 14):=by and_intros<;>kernel_rfl
theorem F.q3:eR SA 88 6=(SM 17)/\eR SA 97 0=(SM 0)/\eR SA 97 1=(SM 1)/\nj SA 22=(SM (Option.none,1))/\nj SA 23=(SM (Option.none,3))/\nj SA 24=(SM (Option.none,4))/\nj SA 31=(SM (Option.none,3))/\nj SA 57=(SM (Option.none,1))/\nj SA 80=(SM ((SM 4),1))/\nj SA 81=(SM ((SM 3),1))/\nj SA 82=(SM ((SM 4),1))/\nj SA 83=(SM ((SM 4),1))/\nj SA 84=(SM ((SM 3),1))/\xS SA 82=(SM (4,1))/\xS SA 83=(SM (4,1))/\xS SA 84=(SM (3,1)):=by and_intros<;>kernel_rfl
theorem F.q4:kC SA 22=(SM (3,1))/\kC SA 24=(SM (48,4))/\kC SA 82=Option.none/\kC SA 83=Option.none/\kC SA 84=Option.none/\kW SA 22=(SM Go.Gg.xU.slice)/\kW SA 23=(SM Go.Gg.xU.slice)/\kW SA 24=(SM Go.Gg.xU.slice)/\kW SA 31=(SM Go.Gg.xU.slice)/\kW SA 57=(SM Go.Gg.xU.slice)/\Cv SA 22=(SM (3,(1,(SF SD (0)))))/\pq SA 77=(SM (83,4))/\qn SA 22=(SM (3,(1,(SF SD (0)))))/\qn SA 23=(SM (61,(3,(TA #[(SF SD (0)),(SF SD (0)),(SF SD (0))]))))/\qn SA 24=(SM (48,(4,(TA #[(SF SD (0)),(SF SD (0)),(SF SD (0)),(SF SD (0))]))))/\qn SA 31=(SM (39,(3,(TA #[(TN Option.none 0 0),(TN Option.none 0 0),(TN Option.none 0 0)])))):=by and_intros<;>kernel_rfl
theorem F.q5:qn SA 57=(SM (22,(1,(TN Option.none 0 0))))/\Ty SA 130=(SM (1,Bool.false))/\Ty SA 132=(SM (1,Bool.false))/\Ty SA 136=(SM (0,Bool.true))/\Ty SA 139=(SM (1,Bool.false))/\Ty SA 157=(SM (1,Bool.false))/\Ty SA 22=(SM (1,Bool.false))/\Ty SA 23=(SM (1,Bool.false))/\Ty SA 24=(SM (1,Bool.false))/\Ty SA 26=(SM (6,Bool.true))/\Ty SA 3=(SM (1,Bool.false))/\Ty SA 4=(SM (1,Bool.false))/\Ty SA 46=(SM (2,Bool.true))/\Ty SA 48=(SM (4,Bool.true))/\Ty SA 61=(SM (3,Bool.true))/\Ty SA 68=(SM (1,Bool.false)):=by and_intros<;>kernel_rfl
theorem F.q6:Ty SA 71=(SM (1,Bool.false))/\Ty SA 76=(SM (6,Bool.true))/\Ty SA 77=(SM (1,Bool.false))/\Ty SA 79=(SM (1,Bool.false))/\Ty SA 81=(SM (3,Bool.true))/\Ty SA 83=(SM (4,Bool.true))/\Ty SA 86=(SM (11,Bool.true))/\Ty SA 88=(SM (28,Bool.true))/\Ty SA 97=(SM (2,Bool.true))/\eS SA 112=(SM (TA #[(SF SD (0)),(SF SD (0)),(Xj Bool.false)]))/\eS SA 116=(SM (TA #[(SF SD (0)),(SF SD (0))]))/\eS SA 136=(SM (TA #[]))/\eS SA 139=(SM (X2 Option.none))/\eS SA 147=(SM (TA #[(SF TD (0)),(SF apT (0))]))/\eS SA 153=(SM (TA #[(SF SD (0)),(SF SD (0))]))/\eS SA 157=(SM Y3):=by and_intros<;>kernel_rfl
theorem F.q7:eS SA 26=(SM (TA #[(SF SD (0)),(SF SD (0)),(SF SD (0)),(TN Option.none 0 0),(TN Option.none 0 0),(TN Option.none 0 0)]))/\eS SA 3=(SM (SF SD (0)))/\eS SA 46=(SM (TA #[(SF SD (0)),(SF SD (0))]))/\eS SA 48=(SM (TA #[(SF SD (0)),(SF SD (0)),(SF SD (0)),(SF SD (0))]))/\eS SA 61=(SM (TA #[(SF SD (0)),(SF SD (0)),(SF SD (0))]))/\eS SA 68=(SM Y3)/\eS SA 76=(SM (TA #[(SF SD (0)),(SF SD (0)),(SF SD (0)),(TN Option.none 0 0),(TN Option.none 0 0),(TN Option.none 0 0)]))/\eS SA 79=(SM (SF S7 (0)))/\eS SA 80=(SM (TA #[(SF S7 (0)),(SF S7 (0)),(SF S7 (0)),(SF S7 (0))]))/\eS SA 81=(SM (TA #[(SF S7 (0)),(SF S7 (0)),(SF S7 (0))]))/\eS SA 83=(SM (TA #[(SF SD (0)),(SF SD (0)),(SF SD (0)),(SF SD (0))]))/\eS SA 86=(SM (TA #[(SF SD (0)),(SF SD (0)),(SF SD (0)),(SF SD (0)),(SF SD (0)),(SF SD (0)),(SF SD (0)),(SF SD (0)),(SF SD (0)),(SF SD (0)),(SF SD (0))]))/\eS SA 97=(SM (TA #[(SF SD (0)),(SF SD (0))])):=by and_intros<;>kernel_rfl
attribute [seval] F.q0 F.q1 F.q2 F.q3 F.q4 F.q5 F.q6 F.q7 F.P4 F.Qb
def isDone (j:Nat)(D:List Nat):Bool:=D.contains j
theorem ann(j:Nat):isDone j []=false:=by simp[isDone]
theorem anm(i j:Nat)(D:List Nat):isDone j (i::D)=((j==i)||isDone j D):=by
 by_cases h:j=i<;>simp[isDone,h]
theorem ahF(lv:Bool)(P:SI)(Hf:List Nat->List aa)(T:List (Nat×AV))(o:Tx)(av:AV):BQ lv P Hf T o av []=True:=by rw[BQ]
theorem ahE(lv:Bool)(P:SI)(Hf:List Nat->List aa)(T:List (Nat×AV))(o:Tx)(av:AV)(D D':List Nat)(l:List (List Nat×List Nat)):BQ lv P Hf T o av ((D,D')::l)=((AQ lv P ⟨T,Hf D⟩ o λa=>a=av)/\BQ lv P Hf T o av l):=by rw[BQ]
theorem ahd(lv:Bool)(P:SI)(Hf:List Nat->List aa)(T:List (Nat×AV))(o:Tx)(av:AV):BE lv P Hf T o av []=True:=by rw[BE]
theorem ahc(lv:Bool)(P:SI)(Hf:List Nat->List aa)(T:List (Nat×AV))(o:Tx)(av:AV)(D D':List Nat)(l:List (List Nat×List Nat)):BE lv P Hf T o av ((D,D')::l)=((j7 lv P (Hf D') ⟨T,Hf D⟩ o λa H'=>a=av/\H'=Hf D')/\BE lv P Hf T o av l):=by rw[BE]
theorem ag9:type_of% @gf.eq_1:=by intros;rw[gf.eq_1]
theorem aha:type_of% @gf.eq_2:=by intros;rw[gf.eq_2]
theorem ag8:type_of% @gf.eq_3:=by intros;rw[gf.eq_3]
theorem afw:type_of% @j7.eq_1:=by intros;rw[j7.eq_1]
theorem aiy(G H:List aa)(k:AV->List aa->Prop)(n m sz:Nat)(elem:TypeId)(l l':List AV):ru G H k n m sz elem l l' .exact=j9 G[H.length]? (0<m/\k (.bA H.length 0 (n+m) 0) (H++[.own sz (l++l') elem])) (k (.sl (n+m) (l++l') (.opn H.length)) (H++[.tail (n+m) sz elem])) ⟨0⟩:=by rw[ru]
theorem akO(X Y:Prop)(t:me X Y):j9 none X Y t=Y:=by rw[j9];simp
theorem akP(a:Nat)(b:List AV)(c:TypeId)(X Y:Prop)(t:me X Y):j9 (some (.own a b c)) X Y t=X:=by rw[j9]
theorem akN(b:List AV)(c:TypeId)(X Y:Prop)(t:me X Y):j9 (some (.cells b c)) X Y t=Y:=by rw[j9];simp
theorem akS(a b:Nat)(c:TypeId)(X Y:Prop)(t:me X Y):j9 (some (.tail a b c)) X Y t=Y:=by rw[j9];simp
theorem akM(b:Obj)(X Y:Prop)(t:me X Y):j9 (some (.obj b)) X Y t=Y:=by rw[j9];simp
theorem akR(a:Nat)(b:List AV)(c:TypeId)(X Y:Prop)(t:me X Y):j9 (some (.part a b c)) X Y t=Y:=by rw[j9];simp
@[congr] theorem avc {x x' : Option aa} {X Y : Prop} {t : me X Y} (h : x = x') : j9 x X Y t = j9 x' X Y t := by rw [h]
theorem aiz(G H:List aa)(k:AV->List aa->Prop)(n m sz:Nat)(elem:TypeId)(l l':List AV)(i:Nat):ru G H k n m sz elem l l' (.opn i)=((match H[i]?with
   |some (.tail n' eI gV)=>n'=n/\eI=sz/\gV=elem
   |_=>False)/\(∀a∈l',a.leaf=true)/\k (.sl (n+m) (l++l') (.opn i)) (H.set i (.tail (n+m) sz elem))):=by first|(rw[ru];done)|(rw[ru];rfl)
section
variable {lv:Bool}{P:SI}{s s':AS}
@[congr] theorem auC {G G' : List aa} {o : Tx} {k : AV -> List aa -> Prop} (hG : G = G') (h : s = s') : j7 lv P G s o k = j7 lv P G' s' o k := by rw [hG, h]
@[congr] theorem au0 {Hf : List Nat -> List aa} {ops : Array Tx} {l l' : List rB} {K : AS -> Prop} {t : Cs K} (hl : l = l') (h : s = s') : gf lv P Hf ops l s K t = gf lv P Hf ops l' s' K t := by rw [hl, h]
@[congr] theorem au3 {Hf : List Nat -> List aa} {T T' : List (Nat × AV)} {o : Tx} {av mS : AV} {l l' : List (List Nat × List Nat)} (h1 : T = T') (h2 : av = mS) (h3 : l = l') : BQ lv P Hf T o av l = BQ lv P Hf T' o mS l' := by rw [h1, h2, h3]
@[congr] theorem au1 {Hf : List Nat -> List aa} {T T' : List (Nat × AV)} {o : Tx} {av mS : AV} {l l' : List (List Nat × List Nat)} (h1 : T = T') (h2 : av = mS) (h3 : l = l') : BE lv P Hf T o av l = BE lv P Hf T' o mS l' := by rw [h1, h2, h3]
@[congr] theorem au7 {f f' : AV} {H H' : List aa} {aG uJ : List AV} {k : AV -> List aa -> Prop} {t : Ct k} (h1 : f = f') (h2 : H = H') (h3 : aG = uJ) : FL lv P f H aG k t = FL lv P f' H' uJ k t := by rw [h1, h2, h3]
@[congr] theorem au8 {f f' : AV} {name : String} {H H' : List aa} {aG uJ : List AV} {k : AV -> List aa -> Prop} {t : Ct k} (h1 : f = f') (h2 : H = H') (h3 : aG = uJ) : JB lv P f name H aG k t = JB lv P f' name H' uJ k t := by rw [h1, h2, h3]
@[congr] theorem au6 {G G' H H' : List aa} {k : AV -> List aa -> Prop} {n n' m m' sz : Nat} {elem : TypeId} {l l' x x' : List AV} {e e' : End} (hG : G = G') (h0 : H = H') (h1 : n = n') (h2 : m = m') (h3 : l = l') (h4 : x = x') (h5 : e = e') : ru G H k n m sz elem l x e = ru G' H' k n' m' sz elem l' x' e' := by rw [hG, h0, h1, h2, h3, h4, h5]
end
attribute [seval] ann anm ahF ahE ahd ahc ag9 aha ag8 afw aiy aiz akO akP akN akS akM akR Bool.true_or Bool.false_or Bool.or_true Bool.or_false cond_true cond_false
def an.stay (Φ:an->AS->Prop):an->AS->Prop
 |.goto _,_=>False
 |e,s=>Φ e s
theorem asD(Φ:an->AS->Prop)(s:AS):an.stay Φ .normal s=Φ .normal s:=by rw[an.stay];simp
theorem asF(Φ:an->AS->Prop)(s:AS):an.stay Φ .ret s=Φ .ret s:=by rw[an.stay];simp
theorem asC(Φ:an->AS->Prop)(i:Nat)(s:AS):an.stay Φ (.exit i) s=Φ (.exit i) s:=by rw[an.stay];simp
theorem asE(Φ:an->AS->Prop)(a:AV)(s:AS):an.stay Φ (.panic a) s=Φ (.panic a) s:=by rw[an.stay];simp
theorem QE{lv:Bool}{P:SI}{r:Option Nat}{s:AS}{nt:Nat}{c:Uc}{Φ:an->AS->Prop}(h:aR lv P r nt c s (an.stay Φ)):aR lv P r nt (.scope c) s Φ:=by
 refine agV (λ_ _ _=>False) ⟨0,h.mono λe s hs=> ?_⟩ λ_ _ _ _ _ hf=>hf.elim;cases e<;>first|exact hs|exact hs.elim
@[congr] theorem avI {s s' : AS} {Φ : an -> AS -> Prop} {e e' : an} (he : e = e') (h : s = s') : an.stay Φ e s = an.stay Φ e' s' := by rw [he, h]
attribute [seval] asD asF asC asE
theorem ank{α:Type}(n:Nat)(x:α):(if(n:Int)<0 then none else some x)=some x:=by rw[if_neg (by omega)]
theorem ahC:(XS==Wz)=false:=by decide
theorem ahD:(Wz==Wz)=true:=by decide
theorem atj{α β:Type}(f:α->β)(xs:List α):(xs.map f).take xs.length=xs.map f:=SW (by simp)
theorem apB(o:Wd):(o=o\/o=.neq)=True:=by simp
theorem apC:(Wz=.eql\/Wz=.neq)=True:=by simp
theorem anr{α:Type}(a b:α):(if false=true then a else b)=b:=by simp
theorem ans{α:Type}(a b:α):(if true=true then a else b)=a:=by simp
theorem ahy(s:AS):s.jg none=some none:=by rw[AS.jg]
theorem ahz(s:AS)(x:Tl):s.jg (some x)=(s.ev x).bind λa=>a.ww.map some:=by
 rw[AS.jg];cases s.ev x<;>rfl
theorem agw(j:T8)(n:Int):AV.ww (.val (.int j n))=some n:=by rw[AV.ww]
theorem afL(P:SI)(t:TypeId)(id off:Nat)(l h m:Option Int)(k:AV->Prop):sT P t (.op id off) l h m k=ao (xS P t) λp=>sZ id off p.1 p.1 p.2 l h m k:=by rw[sT]
theorem afM(P:SI)(t:TypeId)(id off n c:Nat)(l h m:Option Int)(k:AV->Prop):sT P t (.bA id off n c) l h m k=ao (kC P t) λp=>sZ id off n c p.2 l h m k:=by rw[sT]
theorem afN(P:SI)(t:TypeId)(n:Nat)(li:List AV)(e:End)(l h m:Option Int)(k:AV->Prop):sT P t (.sl n li e) l h m k=ao (kC P t) λp=>xY n li e p.2 l h m k:=by rw[sT]
theorem apJ:type_of% @sZ.eq_1:=by intros;rw[sZ.eq_1]
theorem asc:type_of% @xY.eq_1:=by intros;rw[xY.eq_1]
@[congr] theorem avD {id o0 off EW n n' cap cap' sz eI : Nat} {lo EI hi cE mx EP : Option Int} {k : AV -> Prop} (h1 : id = o0) (h2 : off = EW) (h3 : n = n') (h4 : cap = cap') (h5 : sz = eI) (h6 : lo = EI) (h7 : hi = cE) (h8 : mx = EP) : sZ id off n cap sz lo hi mx k = sZ o0 EW n' cap' eI EI cE EP k := by rw [h1, h2, h3, h4, h5, h6, h7, h8]
@[congr] theorem avG {n n' sz eI : Nat} {l l' : List AV} {e e' : End} {lo EI hi cE mx EP : Option Int} {k : AV -> Prop} (h3 : n = n') (h1 : l = l') (h2 : e = e') (h5 : sz = eI) (h6 : lo = EI) (h7 : hi = cE) (h8 : mx = EP) : xY n l e sz lo hi mx k = xY n' l' e' eI EI cE EP k := by rw [h1, h2, h3, h5, h6, h7, h8]
theorem ao3:((1:Nat):Int)=1:=rfl
theorem ao4:((2:Nat):Int)=2:=rfl
theorem ao5:((3:Nat):Int)=3:=rfl
theorem ao6:((4:Nat):Int)=4:=rfl
theorem ao7:((5:Nat):Int)=5:=rfl
theorem ao8:((6:Nat):Int)=6:=rfl
theorem atG(p:Prop):(True\/p)=True:=by simp
theorem apG(p:Prop):(p\/True)=True:=by simp
attribute [seval] ao3 ao4 ao5 ao6 ao7 ao8 atG apG Int.le_refl List.length_map
theorem agn(H L:List aa):(H++L)[H.length+1+1]?=L[2]?:=ws H L 2
theorem ago(H L:List aa):(H++L)[H.length+1+1+1]?=L[3]?:=ws H L 3
theorem agr(H L:List aa)(x:aa):(H++L).set (H.length+1+1) x=H++L.set 2 x:=wu H L 2 x
theorem ags(H L:List aa)(x:aa):(H++L).set (H.length+1+1+1) x=H++L.set 3 x:=wu H L 3 x
attribute [seval] agn ago agr ags
attribute [seval] ahy ahz agw afL afM afN apJ asc Option.getD_none Option.getD_some Int.toNat_zero Nat.sub_zero Option.bind_some Option.map_some Nat.zero_le Option.isSome_none Option.isSome_some Bool.false_eq_true false_implies
attribute [seval] ank ahC ahD atj apB apC anr ans
section
variable {P:SI}{α β:Type}
theorem iM(a:α):cM P (pure a) a:=λw es=>by simp only[pure,VN]
theorem lI{x:Sem α}{f:α->Sem β}{a:α}{b:β}(h:cM P x a)(k:cM P (f a) b):cM P (x>>=f) b:=λw es=>by
 show (x.bind f).runT P w es=_;rw[Sem.runT_bind',h w es];exact k w es
theorem as8{k:SI->Sem α}{a:α}(h:cM P (k P) a):cM P (.program k) a:=λw es=>by simp only[VN];exact h w es
theorem Pu{k:SI->Sem α}{a:α}(h:cM P (k P) a):cM P (program>>=k) a:=lI (a:=P) (as8 (iM P)) h
theorem zV{t:TypeId}{d:TypeDesc}{k:TypeDesc->Sem α}{a:α}(h:P.underlying t=some d)(hk:cM P (k d) a):cM P (underlying t>>=k) a:=by
 unfold underlying;refine lI (a:=d) (Pu ?_) hk;rw[h];exact iM d
def Al:TypeDesc->Bool
 |.struct _|.array _ _=>true
 |_=>false
theorem aer{t:TypeId}{d:TypeDesc}{k:Bool->Sem α}{a:α}(h:P.underlying t=some d)(hk:cM P (k (Al d)) a):cM P (isAgg t>>=k) a:=by
 unfold isAgg;refine lI (zV (a:=Al d) h ?_) hk;cases d<;>exact iM _
theorem Pv{t:TypeId}{i:Wo}{k:Nat->Sem α}{a:α}(h:P.info? t=some i)(hk:cM P (k i.size) a):cM P (sizeOf t>>=k) a:=by
 unfold sizeOf typeInfo;refine lI (lI (a:=i) (Pu ?_) (iM _)) hk;rw[h];exact iM i
theorem Fs{t:TypeId}{d:TypeDesc}{xs:Array SP}{off:Nat}{v:SP}{k:SP->Sem α}{a:α}(h:P.underlying t=some d)(hd:Al d=false)(hv:xs[off]?=some v)(hk:cM P (k v) a):cM P (part t xs off>>=k) a:=by
 unfold part;refine lI (a:=v) (aer h ?_) hk;rw[hd,hv];exact iM v
theorem aes{t:TypeId}{d:TypeDesc}{i:Wo}{xs:Array SP}{off:Nat}{k:SP->Sem α}{a:α}(h:P.underlying t=some d)(hd:Al d=true)(hi:P.info? t=some i)(hk:cM P (k (.agg (xs.extract off (off+i.size)))) a):cM P (part t xs off>>=k) a:=by
 unfold part;refine lI (aer h ?_) hk;rw[hd];exact Pv hi (iM _)
theorem aeq{t:TypeId}{k0 k:T8}{d:Nat}{x y:Int}(h:P.underlying t=some (.int k0)):cM P (VF (d+1) t (.int k x) (.int k y)) (x==y):=by
 rw[VF];refine zV h ?_;dsimp only;rw[if_pos rfl];exact iM _
theorem aek{ι:Type}{body:ι->Option Bool×Unit->Sem (ForInStep (Option Bool×Unit))}{p:ι->Bool}:∀(l:List ι),(∀i∈l,cM P (body i (none,())) (if p i then .yield (none,())else .done (some false,())))->cM P (forIn l (none,()) body) (if l.all p then(none,())else(some false,()))
 |[],_=>by simpa using iM (none,())
 |i::l,h=>by
  rw[W9];refine lI (h i (TF ..)) ?_;by_cases hp:p i=true
  ·simp only[hp,if_true,Z3,UP];exact aek l λj hj=>h j (Td _ hj)
  ·have Bi:p i=false:=(by simpa using hp);simp only[Bi,TV,if_false,Z3,Vt];exact iM _
theorem agc{α:Type}[BEq α][LawfulBEq α]{xs ys:List α}{n:Nat}(hx:xs.length=n)(hy:ys.length=n):((Ub 0 n).all λi=>xs[i]?==ys[i]?)=(xs==ys):=by
 rw[U9,Tu,beq_iff_eq];constructor
 ·intro h;apply Yw;intro i;by_cases hi:i<n
  ·have:=h i (by simp[Yb];omega);simpa using this
  ·rw[Ux (by omega),Ux (by omega)]
 ·rintro rfl i _;simp
theorem as4{t e:TypeId}{k0 k:T8}{n d:Nat}{i:Wo}{xs ys:List Int}(ht:P.underlying t=some (.array n e))(he:P.underlying e=some (.int k0))(hi:P.info? e=some i)(hs:i.size=1)(hx:xs.length=n)(hy:ys.length=n):
  cM P (VF (d+2) t (.agg (xs.map (SF k)).toArray) (.agg (ys.map (SF k)).toArray)) (xs==ys):=by
 rw[VF];refine zV ht ?_;dsimp only;refine Pv hi ?_;rw[hs];simp only[WA,XB];refine lI (a:=if(xs==ys)then(none,())else(some false,())) ?_ (by cases xs==ys<;>exact iM _);have hn:(n-0+1-1)/1=n:=by simp
 rw[hn,<- agc hx hy];refine aek _ λj hj=> ?_;have lS:j<n:=by simp[Yb]at hj;omega
 have gx:xs[j]?=some (xs[j]'(by omega)):=SY _;have gy:ys[j]?=some (ys[j]'(by omega)):=SY _;rw[Y9];refine Fs he rfl (v:=.int k (xs[j]'(by omega))) (by simp[gx]) ?_;refine Fs he rfl (v:=.int k (ys[j]'(by omega))) (by simp[gy]) ?_;refine lI (aeq he) ?_;rw[gx,gy];by_cases h:xs[j]'(by omega)=ys[j]'(by omega)
 ·rw[h];simp;exact iM _
 ·have h1:(xs[j]'(by omega)==ys[j]'(by omega))=false:=by simpa using h
  have h2:(some (xs[j]'(by omega))==some (ys[j]'(by omega)))=false:=by simpa using h
  rw[h1,h2];exact iM _
theorem cM.uniq{x:Sem α}{a b:α}(h:cM P x a)(k:cM P x b):a=b:=by
 have e:=(h default #[]).symm.trans (k default #[]);have e1:=congrArg Prod.fst e;exact(avs e1).1
theorem aen{t e:TypeId}{k0:T8}{n:Nat}{i:Wo}{xs ys:List Int}(ht:P.underlying t=some (.array n e))(he:P.underlying e=some (.int k0))(hi:P.info? e=some i)(hs:i.size=1)(hx:xs.length=n)(hy:ys.length=n):
  cM P (Xx t (.agg (xs.map (SF .i64)).toArray) (.agg (ys.map (SF .i64)).toArray)) (xs==ys):=as4 (d:=9998) ht he hi hs hx hy
theorem zI(xs:List Int):AV.raw (.agg (xs.map iv))=some (.agg (xs.map (SF .i64)).toArray):=by
 have:∀l:List Int,(l.map iv).mapM AV.BS=some (l.map (SF .i64)):=by
  intro l;induction l with
  |nil=>rfl
  |cons x l ih=>simp only[U0,Uf,ih];rfl
 simp only[AV.raw,this];rfl
theorem aqk{xs:List Int}{i:Nat}{y:Int}(h:i<xs.length):iL (xs.map iv) i [iv y]=(xs.set i y).map iv:=by
 unfold iL;rw[List.map_set,XY,if_pos (by simpa using h)];simp
theorem xF{xs:List Int}{i:Nat}{y:Int}(h:i<xs.length):(xs.map iv).take i++[iv y]++(xs.map iv).drop (i+1)=(xs.set i y).map iv:=aqk h
theorem lc{xs:List Int}{i:Nat}{x:Int}(h:xs[i]?=some x):(xs.map iv).drop i=iv x::(xs.drop (i+1)).map iv:=by
 have h1:=eW h;rw[<- an_,T4 h1,U0];rw[SY h1]at h;cases h;rfl
end
theorem ab0(xs:List Int):(∀a∈xs.map iv,a.leaf=true)=True:=by
 simp only[Tf,eq_iff_iff,iff_true]
 rintro a ⟨x,_,rfl⟩;rfl
attribute [seval] List.append_nil ab0
def Ab (lv:Bool)(P:SI)(g:TY)(args:Array SP)(md:Vk)(V:View)(R:Vk->View->Prop):Prop:=
 ∀(main:Bool)(J:View->SG->Prop),Closed lv P main J->∀(fr:Ug)(cs:List Ug),fr.mode=md->(∀oh V',R oh V'->J V' (G {fr with mode:=oh} cs))->J V (G (Frame.enter P g args .deferred) (fr::cs))
def rJ:Vk->Vk
 |.panicking ({recovered:=true, .. }::OC)=>match OC.dropWhile (!·.goexit)with
  |[]=> .returning
  |rest=> .panicking rest
 |m=>m
theorem ab1{lv:Bool}{P:SI}{main:Bool}{J:View->SG->Prop}(C:Closed lv P main J){fr c:Ug}{cs:List Ug}{f:TY}{v:SP}{V:View}(h:Leaves P fr f .deferred (.ret v) V)(hJ:J V (G {c with mode:=rJ c.mode} cs)):J V (G fr (c::cs)):=by
 obtain⟨rfl,hd,hk,fn,hf,hm,hr⟩:=h;refine C.step _ _ rfl λw hw=> ?_;obtain⟨es,w',V',h1,h2,h3⟩:=hr.runs hw;rcases h3 with⟨x,h3,rfl,rfl⟩|⟨_,_,h⟩
 ·refine⟨G {c with mode:=rJ c.mode} cs,w',seen P fr.fn es,V',?_,h1.seen P fr.fn,hJ⟩;simp only[G,stepG,unwind,doReturn,hm,hd,hk,hf,TE,h3,h2,T_];cases Ho:c.mode with
  |run=>simp[rJ,<- Ho]
  |returning=>simp[rJ,<- Ho]
  |panicking ch=>
   cases ch with
   |nil=>simp[rJ,<- Ho]
   |cons p OC=>
    obtain⟨v,rec,ge⟩:=p;cases rec with
    |false=>simp[rJ,<- Ho]
    |true=>
     simp only[rJ];cases hdw:OC.dropWhile (!·.goexit)with
     |nil=>simp
     |cons x y=>simp
 ·exact h.elim
theorem RV{ρ:Tl->SP}{o:Tx}{cl:Xy}(ay:o.op=.call cl)(a_:cl.callee=.builtin .recover)(P:SI)(w:Tq)(es:Array Uu):(execOp ρ o).runT P w es=(.ok .recover w,es):=by
 unfold execOp;rw[ay];dsimp only;unfold resolve;rw[a_];rfl
theorem arC{P:SI}{main:Bool}{b c:Ug}{a:Act}{k:List W1}{cs:List Ug}{w:Tq}{ops:Array Tx}{i:Nat}{rest:List Nat}{o:Tx}{cl:Xy}{v:SP}(ho:ops[i]?=some o)(hg:o.guard=none)(ay:o.op=.call cl)(a_:cl.callee=.builtin .recover)(hb:b.kind=.deferred)(hr:b.roundOf=none)
  (hm:c.mode=.panicking [{v,recovered:=false}]):stepG P main (G (on b a (.inRegion ops (i::rest)::k)) (c::cs)) w=.go (G (on b (a.put o.dst v) (.inRegion ops rest::k)) ({c with mode:=.panicking [{v,recovered:=true}]}::cs)) w #[]:=by
 have dS:(on b a (.inRegion ops (i::rest)::k)).finish v=on b (a.put o.dst v) (.inRegion ops rest::k):=by
  rw[BK,ho];rfl
 rw[s_op ho (by unfold Tj;rw[hg]) (.inl hr),<- dS];have jX:((on b a (.inRegion ops (i::rest)::k)).kind==Vg)=false:=by simp[on,hb]
 simp only[stepG.apply,if_true,RV ay a_,jX,T_,TV,if_false];have h1:(on b a (.inRegion ops (i::rest)::k)).roundOf=none:=hr;have h2:(on b a (.inRegion ops (i::rest)::k)).kind=.deferred:=hb;rw[h1];simp only[tryRecover,h2,hm];simp[seen,G]
theorem arD{P:SI}{main:Bool}{b c:Ug}{a:Act}{k:List W1}{cs:List Ug}{w:Tq}{ops:Array Tx}{i:Nat}{rest:List Nat}{o:Tx}{cl:Xy}(ho:ops[i]?=some o)(hg:o.guard=none)(ay:o.op=.call cl)(a_:cl.callee=.builtin .recover)(hb:b.kind=.deferred)(hr:b.roundOf=none)
  (hm:c.mode=.returning):stepG P main (G (on b a (.inRegion ops (i::rest)::k)) (c::cs)) w=.go (G (on b (a.put o.dst .nilIface) (.inRegion ops rest::k)) (c::cs)) w #[]:=by
 have dS:(on b a (.inRegion ops (i::rest)::k)).finish .nilIface=on b (a.put o.dst .nilIface) (.inRegion ops rest::k):=by
  rw[BK,ho];rfl
 rw[s_op ho (by unfold Tj;rw[hg]) (.inl hr),<- dS];have jX:((on b a (.inRegion ops (i::rest)::k)).kind==Vg)=false:=by simp[on,hb]
 simp only[stepG.apply,if_true,RV ay a_,jX,T_,TV,if_false];have h1:(on b a (.inRegion ops (i::rest)::k)).roundOf=none:=hr;have h2:(on b a (.inRegion ops (i::rest)::k)).kind=.deferred:=hb;rw[h1];simp only[tryRecover,h2,hm];simp[seen,G]
def FM (P:SI)(fn:YL)(K:View->Prop):Ex->Act->View->Prop
 |.normal,a,V|.ret,a,V=>a.defers=[]/\∃v,aS P V (results fn a.tmps) (λx V'=>x=v/\V'=V) (λ_ _=>False)/\K V
 |_,_,_=>False
theorem ah6{lv:Bool}{P:SI}{g:TY}{fn:YL}{id:Nat}{ops:Array Tx}{c2:Uc}{o:Tx}{cl:Xy}{args:Array SP}{md:Vk}{v0:SP}{V:View}{R:Vk->View->Prop}
  (hf:P.funcs[g]?=some fn) (hb:fn.body=some (.seq (.region id ops false) c2)) (ho:ops[0]?=some o) (hg:o.guard=none) (ay:o.op=.call cl) (a_:cl.callee=.builtin .recover)
  (qM:md=.panicking [{v:=v0,recovered:=false}]\/(md=.returning/\v0=.nilIface))
  (h:dq lv P none ops (Ex.then (WP lv P none c2 (FM P fn (R .returning))) (FM P fn (R .returning))) (Ub 1 (ops.size-1)) (({tmps:=args++TS (fn.ntmps-args.size) undef,defers:=[]}:Act).put o.dst v0) V):Ab lv P g args md V R:=by
 intro main J C fr cs mo hR;let b:Ug:={(default:Ug)with fn:=g,kind:=.deferred,roundOf:=none};have vc:Frame.enter P g args .deferred=on b {tmps:=args++TS (fn.ntmps-args.size) undef,defers:=[]} [.code (.seq (.region id ops false) c2)]:=by
  simp[Frame.enter,on,hf,hb,b]
 rw[vc];have aY:0<ops.size:=(SS.1 ho).1;have M3:SR ops.size=0::Ub 1 (ops.size-1):=by
  rw[Vx];obtain⟨n,hn⟩:∃n,ops.size=n+1:=⟨ops.size-1,by omega⟩;rw[hn,VW];rfl
 refine C.idle rfl (λ_=>adv) (C.idle rfl (λ_=>adu) ?_);rw[M3];have fin:∀(c:Ug),rJ c.mode=.returning->{c with mode:=rJ c.mode}={fr with mode:=.returning}->∀e a' V',FM P fn (R .returning) e a' V'->wm J b [] (c::cs) e a' V':=by
  intro c hc wU e a' V' q;cases e with
  |normal=>
   obtain⟨hd,v,hs,hr⟩:=q;refine C.idle rfl (λw=>Fe rfl) (ab1 (f:=g) (v:=v) C ⟨rfl,hd,rfl,fn,hf,rfl,hs⟩ ?_);rw[wU];exact hR _ _ hr
  |ret=>
   obtain⟨hd,v,hs,hr⟩:=q;intro k;refine C.idle rfl (λw=>Ff rfl) (ab1 (f:=g) (v:=v) C ⟨rfl,hd,rfl,fn,hf,rfl,hs⟩ ?_);rw[wU];exact hR _ _ hr
  |_=>exact q.elim
 have run:∀(c:Ug),rJ c.mode=.returning->{c with mode:=rJ c.mode}={fr with mode:=.returning}->J V (G (on b (({tmps:=args++TS (fn.ntmps-args.size) undef,defers:=[]}:Act).put o.dst v0) (.inRegion ops (Ub 1 (ops.size-1))::[.code c2])) (c::cs)):=by
  intro c hc wU;refine wp_ops _ _ V h main J C b [.code c2] (c::cs) (by show YU≠Vg;decide) rfl λe a' V' q=> ?_;cases e with
  |normal=>exact q main J C b [] (c::cs) (by show YU≠Vg;decide) rfl λe cu aU q'=>fin c hc wU e cu aU q'
  |ret=>exact fin c hc wU .ret a' V' q
  |panic ch=>exact q.elim
  |exit i=>exact q.elim
  |goto i=>exact q.elim
 rcases qM with qM|⟨qM,hv⟩
 ·refine C.idle rfl (λw=>arC ho hg ay a_ rfl rfl (by rw[mo,qM])) ?_;exact run {fr with mode:=.panicking [{v:=v0,recovered:=true}]} rfl rfl
 ·refine C.idle rfl (λw=>arD ho hg ay a_ rfl rfl (by rw[mo,qM])) ?_;subst hv;have gL:fr.mode=.returning:=by rw[mo,qM]
  exact run fr (by rw[gL];rfl) (by rw[gL];rfl)
section
variable {lv:Bool}{P:SI}
theorem Pb{g:TY}{args:Array SP}{V:View}{K:Next->View->Prop}{Kp:SP->View->Prop}(hg:rn P g=true)(h:K (.enter g args) V):aS P V (callFunc g args) K Kp:=by
 unfold callFunc;refine aA (rf (cJ ?_));unfold rn at hg;split at hg
 ·rename_i fn yP;simp only[Te,TZ]at hg;rw[yP];dsimp only;have Dz:fn.body.isNone=false:=by
   have h1:=hg.1;cases hb:fn.body with
   |none=>rw[hb]at h1;cases h1
   |some _=>rfl
  rw[if_neg (by rw[hg.2];simp),if_neg (by rw[Dz];simp)];exact au h
 ·cases hg
theorem CR{E:Env}{V:View}{H:List aa}{args:List AV}{vs:Array SP}{nt:Nat}(hc:Conc E V H)(hd:cK E args vs)(cN:args.length<=nt):At E V ⟨bp 0 args,H⟩ {tmps:=vs++TS (nt-vs.size) undef,defers:=[]} nt:=by
 have aY:(vs++TS (nt-vs.size) undef).size=nt:=by simp[hd.1];omega
 refine⟨hc,λq a e=> ?_,aY⟩;obtain⟨_,e⟩:=Oc args 0 q a e;simp only[Z']at e;have hq:q<args.length:=(SL.1 e).1;have t_:q<vs.size:=by rw[hd.1];exact hq
 refine⟨by rw[aY];omega,?_⟩;have:=hd.2 q a e;rw[SH,Yk t_];rwa [SH]at this
def Aa (E:Env)(c:AV×List AV)(d:U8):Prop:=∃f first cU fa ca vs,c.1=.fn (.func f) first cU/\d=⟨.fn (.func f) ca,fa++vs⟩/\cK E first fa/\cK E cU ca/\cK E c.2 vs
theorem Aa.mono{E E':Env}(h:E.Le E'){c:AV×List AV}{d:U8}(k:Aa E c d):Aa E' c d:=by
 obtain⟨f,first,cU,fa,ca,vs,h1,h2,h3,h4,h5⟩:=k;exact⟨f,first,cU,fa,ca,vs,h1,h2,h3.mono h,h4.mono h,h5.mono h⟩
def P5 (E:Env):Option AV->Vk->Prop
 |none,md=>md=.returning
 |some pv,md=>∃v,md=.panicking [{v,recovered:=false}]/\ap E pv v
def rq (lv:Bool)(P:SI)(c:AV×List AV)(H:List aa)(m:Option AV)(kr kp:List aa->Prop):Prop:=
 ∀(E:Env)(V:View)(d:U8)(md:Vk),Conc E V H->Aa E c d->P5 E m md->aS P V (invoke d.target d.args) (λnx V'=>∃g args,nx=.enter g args/\Ab lv P g args md V' λoh aU=>∃E' H',E.Le E'/\aU.role=V.role/\aU.deaf=V.deaf/\Conc E' aU H'/\((oh=.returning/\kr H')\/(oh=md/\m.isSome=true/\kp H'))) (λ_ _=>False)
def Cn (n0:Nat)(kr:List aa->Prop):an->AS->Prop
 |.normal,s|.ret,s=>kr s.H\/∃H' G,s.H=H'++G/\n0<=H'.length/\bJ H'/\kr H'
 |_,_=>False
theorem Cn.out{n0:Nat}{E0 E:Env}{V':View}{H:List aa}{kr:List aa->Prop}(h:kr H\/∃H' G,H=H'++G/\n0<=H'.length/\bJ H'/\kr H')(hc:Conc E V' H)(hle:E0.Le E)(hn:E0.n=n0):∃E' H',E0.Le E'/\Conc E' V' H'/\kr H':=by
 rcases h with h|⟨H',G,rfl,h1,h2,h3⟩
 ·exact⟨E,H,hle,hc,h⟩
 ·exact⟨{E with n:=H'.length},H',Fw h1 (by rw[hc.n];simp) hle hn,hc.trim h2,h3⟩
theorem results_none{fn:YL}{tmps:Array SP}{V:View}(hr:fn.results=#[]):aS P V (results fn tmps) (λx V'=>x=.tuple #[]/\V'=V) (λ_ _=>False):=by
 unfold results;rw[show fn.results=([]:List UU).toArray from hr,Yc];refine aA ?_;refine aA ?_;rw[UH];refine au (au (au ⟨?_,rfl⟩));simp
theorem ah5{g:TY}{fn:YL}{id nt:Nat}{ops:Array Tx}{c2:Uc}{o:Tx}{cl:Xy}{first cU aG:List AV}{H:List aa}{m:Option AV}{kr kp:List aa->Prop}
  (hg:rn P g=true) (hf:P.funcs[g]?=some fn) (hb:fn.body=some (.seq (.region id ops false) c2)) (hr:fn.results=#[]) (hn:fn.ntmps=nt) (ho:ops[0]?=some o) (tQ:o.guard=none) (ay:o.op=.call cl) (a_:cl.callee=.builtin .recover) (du:jT nt ops=true) (cN:(first++aG++cU).length<=nt)
  (h:iF lv P ops (ops.toList.drop 1) ((⟨bp 0 (first++aG++cU),H⟩:AS).put o.dst (m.getD (.val .nilIface))) (λs'=>aR lv P none nt c2 s' (Cn H.length kr)) (λ_ _=>False)):rq lv P (.fn (.func g) first cU,aG) H m kr kp:=by
 intro E V d md hc hd qM;obtain⟨f,au9,au5,fa,ca,vs,h1,rfl,h3,h4,h5⟩:=hd;cases h1;unfold invoke;dsimp only;refine Pb hg ⟨g,_,rfl,?_⟩;obtain⟨v0,hv,ame⟩:∃v0,ap E (m.getD (.val .nilIface)) v0/\(md=.panicking [{v:=v0,recovered:=false}]\/(md=.returning/\v0=.nilIface)):=by
  cases m with
  |none=>exact⟨.nilIface,.val _,.inr ⟨qM,rfl⟩⟩
  |some pv=>obtain⟨v,e,hv⟩:=qM;exact⟨v,hv,.inl e⟩
 refine ah6 hf hb ho tQ ay a_ ame ?_;have ai:=CR (nt:=nt) hc (C5 (C5 h3 h5) h4) cN;rw[hn];have aY:0<ops.size:=(SS.1 ho).1;have fK:o∈ops:=Xa ho;have aV:At E V ((⟨bp 0 (first++aG++cU),H⟩:AS).put o.dst (m.getD (.val .nilIface))) (({tmps:=fa++vs++ca++TS (nt-(fa++vs++ca).size) undef,defers:=[]}:Act).put o.dst v0) nt:=
  ⟨by rw[ft];exact ai.bz,ai.tok.ie (λd e=>by rw[ai.size];exact(jT.out du fK).1 d e) hv,(eg _ _ _).trans ai.size⟩
 refine BM (r:=none) (Φ:=λe s'=>match e with
  |.normal=>aR lv P none nt c2 s' (Cn H.length kr)
  |_=>False) (λo ho d e=>(jT.out du ho).1 d e) (λ_ _=> .inl rfl) (ops.size-1) 1 _ (by omega) h E V _ _ aV λae e E' V' a' s' hk alf he hΦ=> ?_
 cases ae<;>cases e<;>first
  |exact he.elim
  |exact hΦ.elim
  |skip
 refine hΦ E' V' a' _ alf λae e bY aU cu dp aJ dj ku uf=> ?_;have fin:(kr dp.H\/∃H' G,dp.H=H'++G/\H.length<=H'.length/\bJ H'/\kr H')->FM P fn (λaU=>∃E' H',E.Le E'/\aU.role=V.role/\aU.deaf=V.deaf/\Conc E' aU H'/\((YA=.returning/\kr H')\/(YA=md/\m.isSome=true/\kp H'))) .ret cu aU:=λuf=>by
  obtain⟨E3,H',q1,q2,q3⟩:=Cn.out (E0:=E) uf dj.bz (hk.le.trans aJ.le) hc.n;have bC:cu.defers=[]:=by rw[aJ.defers,hk.defers];exact put_defers _ _ _
  exact⟨bC,_,results_none hr,E3,H',q1,aJ.role.trans hk.role,aJ.deaf.trans hk.deaf,q2,.inl ⟨rfl,q3⟩⟩
 cases ae<;>cases e<;>first
  |exact ku.elim
  |exact uf.elim
  |exact fin uf
theorem Rh{g:TY}{fn:YL}{id nt:Nat}{ops:Array Tx}{c2:Uc}{o:Tx}{l:List Tx}{d0:Option Nat}{cl:Xy}{first cU aG:List AV}{H:List aa}{m:Option AV}{kr kp:List aa->Prop}
  (hg:rn P g=true) (hf:P.funcs[g]?=some fn) (hb:fn.body=some (.seq (.region id ops false) c2)) (hr:fn.results=#[]) (hn:fn.ntmps=nt) (hl:ops.toList=o::l) (tQ:o.guard=none) (bi:o.dst=d0) (ay:o.op=.call cl) (a_:cl.callee=.builtin .recover) (du:jT nt ops=true) (cN:(first++aG++cU).length<=nt)
  (h:iF lv P ops l ((⟨bp 0 (first++aG++cU),H⟩:AS).put d0 (m.getD (.val .nilIface))) (λs'=>aR lv P none nt c2 s' (Cn H.length kr)) (λ_ _=>False)):rq lv P (.fn (.func g) first cU,aG) H m kr kp:=by
 subst bi;refine ah5 hg hf hb hr hn (o:=o) (cl:=cl) ?_ tQ ay a_ du cN (by rw[hl];simpa using h);have:ops.toList[0]?=some o:=by rw[hl];rfl
 simpa using this
end
section
variable {lv:Bool}{P:SI}{r:Option Nat}{s:AS}
theorem IA{nt:Nat}{all:Array Tx}{Φ:an->AS->Prop}(du:∀o∈all,∀d,o.dst=some d->d<nt)(nQ:r=none):∀(n k:Nat)(s:AS),k+n<=all.size->iF lv P all ((all.toList.drop k).take n) s (Φ .normal) (λpv s=>Φ (.panic pv) s)->
  ∀(E:Env)(V:View)(a:Act)(Q:Ex->Act->View->Prop),At E V s a nt->(∀ae e E' V' a' s',Kept E E' V V' a a'->At E' V' s' a' nt->qh E' ae e->Φ ae s'->Q e a' V')->dq lv P r all Q (Ub k n) a V
 |0,k,s,hk,h,E,V,a,Q,ai,hQ=>by
  rw[Zh]at h;exact hQ .normal .normal E V a s (Kept.refl E V a) ai trivial h
 |n+1,k,s,hk,h,E,V,a,Q,ai,hQ=>by
  have hlt:k<all.size:=by omega
  have hd:all.toList.drop k=all[k]::all.toList.drop (k+1):=by
   rw[T4 (by simpa using hlt)];simp
  rw[hd,VZ]at h;have fK:all[k]∈all:=X8 hlt;have ho:all[k]?=some all[k]:=SJ hlt;simp only[VW,dq,ho];have go:∀s:AS,At E V s a nt->mK lv P s all[k] (λs'=>iF lv P all ((all.toList.drop (k+1)).take n) s' (Φ .normal) (λpv s=>Φ (.panic pv) s)) (λpv s=>Φ (.panic pv) s)->xV lv P r all[k] a V (dq lv P r all Q (Ub (k+1) n)) Q:=λs ai h=>by
   refine h.sound (lv:=lv) (r:=r) E V a _ Q ai.bz ai.tok (λd e=>by rw[ai.size];exact du _ fK d e) (.inl nQ) (λE' V' a' s' aJ bu my hn=> ?_) (λE' V' s' pv v aJ bu my bx hb=> ?_)
   ·exact IA du nQ n (k+1) s' (by omega) hn E' V' a' Q ⟨bu,my,aJ.size.trans ai.size⟩ (λae e bY aU cu dp fX dj he hΦ=>hQ ae e bY aU cu dp (aJ.trans fX) dj he hΦ)
   ·exact hQ (.panic pv) (.panic _) E' V' a s' aJ ⟨bu,my,ai.size⟩ ⟨v,rfl,bx⟩ hb
  simp only[iF]at h;split at h
  ·rename_i hg;have hw:Tj all[k] (yielded all a.tmps)=true:=(by unfold Tj;rw[hg]);rw[if_pos hw];exact .inl (go s ai h)
  ·rename_i j cp hg;obtain⟨d,fJ,h⟩:=h.out;obtain⟨av,h1,h⟩:=h.out;obtain⟨b,rfl,h2,h3⟩:=CP h;have hv:=(ai.tok d _ h1).2;have hy:yielded all a.tmps j=some b:=by
    obtain⟨oj,kL,jl⟩:=Th.1 fJ;generalize hx:a.tmps.getD d undef=x at hv;cases hv;have mr:d<a.tmps.size:=(ai.tok d _ h1).1;rw[SH,SJ mr]at hx;simp only[S8]at hx;simp[yielded,kL,jl,SJ mr,hx]
   have su:∀b',b=b'->At E V ⟨(d,.val (.bool b'))::s.T,s.H⟩ a nt:=λb' dG=>by
    subst dG;refine⟨ai.bz,λt x e=> ?_,ai.size⟩;simp only[look]at e;split at e
    ·rename_i e';subst e';cases e;exact ai.tok d _ h1
    ·exact ai.tok t x e
   by_cases hb:b=cp
   ·have hw:Tj all[k] (yielded all a.tmps)=true:=(by unfold Tj;rw[hg];simp[hy,hb]);rw[if_pos hw];exact .inl (go _ (su cp hb) (h2 hb))
   ·have hw:¬Tj all[k] (yielded all a.tmps)=true:=(by unfold Tj;rw[hg];simp[hy,hb]);rw[if_neg hw];have dG:b= !cp:=(by cases b<;>cases cp<;>simp_all);have wK:=h3 dG;have ai:=su _ dG;exact IA du nQ n (k+1) ((⟨(d,.val (.bool !cp))::s.T,s.H⟩:AS).put all[k].dst (.val undef)) (by omega) wK E V (a.put all[k].dst undef) Q
     ⟨by rw[ft];exact ai.bz,ai.tok.ie (λd e=>by rw[ai.size];exact du _ fK d e) (.val undef),by rw[eg];exact ai.size⟩
     (λae e bY aU cu dp fX dj he hΦ=>hQ ae e bY aU cu dp ⟨fX.le,fX.size.trans (eg _ _ _),fX.defers.trans (put_defers _ _ _),fX.role,fX.deaf⟩ dj he hΦ)
theorem mP.mono{o:Tx}{a:Act}{N N':Act->View->Prop}{Q Q':Ex->Act->View->Prop}(hN:∀a V,N a V->N' a V)(hQ:∀ch a V,Q (.panic ch) a V->Q' (.panic ch) a V){nx:Next}{V:View}(h:mP lv P r o a N Q nx V):mP lv P r o a N' Q' nx V:=by
 cases nx with
 |value v=>exact hN _ _ h
 |skip=>exact hN _ _ h
 | «defer» d => exact ⟨h.1, hN _ _ h.2⟩
 |enter f args=>
  refine Body.mono (R:=fun
   |.ret v,V'=>N (a.put o.dst v) V'
   |.panic ch,V'=>Q (.panic ch) a V') (R':=fun
   |.ret v,V'=>N' (a.put o.dst v) V'
   |.panic ch,V'=>Q' (.panic ch) a V') h λot V' h=> ?_
  cases ot
  ·exact hN _ _ h
  ·exact hQ _ _ _ h
 |round l f tmps aG b=>
  refine nq.mono (R:=fun
   |.ret v,V'=>N (a.put o.dst v) V'
   |.panic ch,V'=>Q (.panic ch) a V') (R':=fun
   |.ret v,V'=>N' (a.put o.dst v) V'
   |.panic ch,V'=>Q' (.panic ch) a V') h λot V' h=> ?_
  cases ot
  ·exact hN _ _ h
  ·exact hQ _ _ _ h
 |_=>exact h.elim
theorem Ce{ops:Array Tx}{Q:Ex->Act->View->Prop}{l2:List Nat}:∀(l1:List Nat)(a:Act)(V:View),dq lv P r ops (Ex.then (dq lv P r ops Q l2) Q) l1 a V->dq lv P r ops Q (l1++l2) a V
 |[],a,V,h=>h
 |i::l1,a,V,h=>by
  simp only[Vs,dq]at h⊢;cases ho:ops[i]?with
  |none=>rw[ho]at h;exact Ce l1 a V h
  |some o=>
   rw[ho]at h;dsimp only at h⊢;split at h
   ·rename_i hw;rw[if_pos hw];rcases h with h|h
    rotate_left
    ·exact .inr (h.mono λa V h=>Ce l1 a V h)
    obtain⟨h1,h2⟩:=h;exact .inl ⟨h1,h2.mono (λnx V' h=>mP.mono (λa V h=>Ce l1 a V h) (λ_ _ _ h=>h) h) λ_ _ h=>h⟩
   ·rename_i hw;rw[if_neg hw];exact Ce l1 _ V h
def xQ (E:Env):List (AV×List AV)->List U8->Prop
 |[],[]=>True
 |c::ds,d::l=>Aa E c d/\xQ E ds l
 |_,_=>False
theorem xQ.mono{E E':Env}(h:E.Le E'):∀{ds:List (AV×List AV)}{l:List U8},xQ E ds l->xQ E' ds l
 |[],[],_=>trivial
 |_::_,_::_,k=>⟨k.1.mono h,xQ.mono h k.2⟩
 |[],_::_,k=>k.elim
 |_::_,[],k=>k.elim
structure rz (E E':Env)(V V':View)(a a':Act):Prop where
 le:E.Le E'
 size:a'.tmps.size=a.tmps.size
 role:V'.role=V.role
 deaf:V'.deaf=V.deaf
theorem rz.trans{E E' bY:Env}{V V' aU:View}{a a' cu:Act}(h:rz E E' V V' a a')(k:rz E' bY V' aU a' cu):rz E bY V aU a cu:=⟨h.le.trans k.le,k.size.trans h.size,k.role.trans h.role,k.deaf.trans h.deaf⟩
theorem Kept.d{E E':Env}{V V':View}{a a':Act}(h:Kept E E' V V' a a'):rz E E' V V' a a':=⟨h.le,h.size,h.role,h.deaf⟩
def Ci (lv:Bool)(P:SI)(nt:Nat)(c:Uc)(s:AS)(ds:List (AV×List AV))(Φ:an->AS->List (AV×List AV)->Prop):Prop:=
 ∀(E:Env)(V:View)(a:Act)(Q:Ex->Act->View->Prop),At E V s a nt->xQ E ds a.defers->(∀ae e E' V' a' s' nI,rz E E' V V' a a'->At E' V' s' a' nt->xQ E' nI a'.defers->qh E' ae e->Φ ae s' nI->Q e a' V')->WP lv P none c Q a V
def an.xJ (next:AS->List (AV×List AV)->Prop)(Φ:an->AS->List (AV×List AV)->Prop):an->AS->List (AV×List AV)->Prop
 |.normal,s,ds=>next s ds
 |e,s,ds=>Φ e s ds
theorem ag0{nt id n:Nat}{ops:Array Tx}{o:Tx}{c:Xy}{x:Tl}{ds:List (AV×List AV)}{Φ:an->AS->List (AV×List AV)->Prop}(hn:ops.size=n+1)(ho:ops[n]?=some o)(hg:o.guard=none)(ay:o.op=.defer c)(a_:c.callee=.value x)
  (du:(ops.all λo=>o.dst.all (·<nt))=true)
  (h:iF lv P ops (ops.toList.take n) s (λs'=>ao (s'.ev x) λf=>ao (fq s' c.args.toList) λaG=>(∃g first cU,f=.fn (.func g) first cU)/\Φ .normal (s'.put o.dst (.val undef)) ((f,aG)::ds)) (λpv s'=>Φ (.panic pv) s' ds)):Ci lv P nt (.region id ops false) s ds Φ:=by
 intro E V a Q ai hd hQ;refine wp_region ?_;have hr:SR ops.size=Ub 0 n++[n]:=by
  have:=Zi (s:=0) (m:=n) (n:=1);rw[Vx,hn,<- this];simp
 rw[hr];have aaO:∀o∈ops,∀d,o.dst=some d->d<nt:=λo ho d e=>by
  have:=(UQ.1 du) o ho;rw[e]at this;simpa using this
 refine Ce _ _ _ (IA (r:=none) (Φ:=λe s'=>match e with
  |.normal=>ao (s'.ev x) λf=>ao (fq s' c.args.toList) λaG=>(∃g first cU,f=.fn (.func g) first cU)/\Φ .normal (s'.put o.dst (.val undef)) ((f,aG)::ds)
  |e=>Φ e s' ds) aaO rfl n 0 s (by omega) (by simpa using h) E V a _ ai λae e E' V' a' s' hk aV he hΦ=> ?_)
 cases ae<;>cases e<;>first
  |exact he.elim
  |exact hQ _ _ E' V' a' s' ds hk.d aV (by rw[hk.defers];exact hd.mono hk.le) he hΦ
  |skip
 obtain⟨f,h1,hA⟩:=ao.out hΦ;obtain⟨aG,h2,⟨g,first,cU,rfl⟩,hB⟩:=hA.out;simp only[Ex.then,dq,ho];rw[if_pos (by unfold Tj;rw[hg])];refine .inl ⟨.inl rfl,?_⟩;unfold execOp;rw[ay];dsimp only;unfold resolve;rw[a_];dsimp only;have bC:=ap.ev aV.tok h1;generalize cm:a'.eval x=cv at bC;cases bC with
 |fn dT fZ q1 q2=>
  rename_i fa ca;unfold Ve;refine aA (au (au ?_));refine⟨rfl,?_⟩;have fK:o∈ops:=Xa ho;have e:c.args.map a'.eval=(c.args.toList.map a'.eval).toArray:=by apply VJ;simp
  refine hQ .normal .normal E' V' _ (s'.put o.dst (.val undef)) ((.fn (.func g) first cU,aG)::ds) ⟨hk.le,(eg _ _ _).trans hk.size,hk.role,hk.deaf⟩ ⟨by rw[ft];exact aV.bz,aV.tok.ie (a:={a' with defers:=⟨.fn (.func g) ca,fa++c.args.map a'.eval⟩::a'.defers}) (λd e=>by rw[aV.size];exact aaO o fK d e) (.val _),(eg _ _ _).trans aV.size⟩ ?_ trivial hB;rw[put_defers];refine⟨⟨g,first,cU,fa,ca,_,rfl,rfl,⟨dT,q1⟩,⟨fZ,q2⟩,?_⟩,by rw[hk.defers];exact hd.mono hk.le⟩;rw[e];exact AF aV.tok h2
theorem QI{nt id n:Nat}{ops:Array Tx}{o:Tx}{c:Xy}{x:Tl}{ds:List (AV×List AV)}{Φ:an->AS->List (AV×List AV)->Prop}(hn:ops.size=n+1)(ho:ops[n]?=some o)(hg:o.guard=none)(bi:o.dst=none)(ay:o.op=.defer c)(a_:c.callee=.value x)
  (du:(ops.all λo=>o.dst.all (·<nt))=true)
  (h:iF lv P ops (ops.toList.take n) s (λs'=>ao (s'.ev x) λf=>ao (fq s' c.args.toList) λaG=>(∃g first cU,f=.fn (.func g) first cU)/\Φ .normal s' ((f,aG)::ds)) (λpv s'=>Φ (.panic pv) s' ds)):Ci lv P nt (.region id ops false) s ds Φ:=by
 refine ag0 hn ho hg ay a_ du ?_;rw[bi];exact h
end
section
variable {lv:Bool}{P:SI}
theorem adn{rs:List UU}{fn:YL}{n nt:Nat}{k kp:AV->List aa->Prop}{E E':Env}{V V':View}{s':AS}{a':Act}(hr:fn.results=rs.toArray)(ai:At E' V' s' a' nt)(hle:E.Le E')(hn:E.n=n)(cq:V'.role=V.role)(fg:V'.deaf=V.deaf)(hΦ:ao (ig P s' rs) λl=>cH n s'.H (jc l) k):
  ∃v,aS P V' (results fn a'.tmps) (λx aU=>x=v/\aU=V') (λ_ _=>False)/\gU E V k kp (.ret v) V':=by
 obtain⟨l,h1,h2⟩:=hΦ.out;have gw:∃v,ap E' (jc l) v/\aS P V' (results fn a'.tmps) (λx aU=>x=v/\aU=V') (λ_ _=>False):=by
  obtain⟨vs,hl,l6,y9⟩:=IS ai rs l h1;refine⟨if h:vs.length=1 then vs[0]else .tuple vs.toArray,?_,?_⟩
  ·match l,vs,hl,l6 with
   |[x],[v],_,l6=>exact l6 0 x rfl
   |[],[],_,l6=>exact .aQ rfl (by simp)
   |x::y::l,v::w::vs,hl,l6=>exact .aQ (by simpa using hl) (λi z hz=>by simpa[SH,SE]using l6 i z hz)
  ·unfold results;rw[hr,Yc];refine aA ?_;refine aA (y9 ?_);refine au (au ⟨?_,rfl⟩);simp
 obtain⟨v,bx,qS⟩:=gw;obtain⟨b,bY,H',q1,q2,q3,q4⟩:=yl h2 ai.bz bx hle hn;exact⟨v,qS,b,bY,H',q1,cq,fg,q2,q3,q4⟩
def Af (lv:Bool)(P:SI)(rs:List UU)(n:Nat)(k kp:AV->List aa->Prop):an->AS->List (AV×List AV)->Prop
 |.normal,s,[]|.ret,s,[]=>ao (ig P s rs) λl=>cH n s.H (jc l) k
 |.panic pv,s,[]=>cH n s.H pv kp
 |.normal,s,[c]|.ret,s,[c]=>rq lv P c s.H none (λH'=>ao (ig P ⟨s.T,H'⟩ rs) λl=>cH n H' (jc l) k) (λ_=>False)
 |.panic pv,s,[c]=>rq lv P c s.H (some pv) (λH'=>ao (ig P ⟨s.T,H'⟩ rs) λl=>cH n H' (jc l) k) (λH'=>cH n H' pv kp)
 |_,_,_=>False
theorem Ab.mono{g:TY}{args:Array SP}{md:Vk}{V:View}{R R':Vk->View->Prop}(h:Ab lv P g args md V R)(hr:∀m V,R m V->R' m V):Ab lv P g args md V R':=λmain J C fr cs hm hR=>h main J C fr cs hm λoh V' r=>hR oh V' (hr _ _ r)
@[congr] theorem auX {nt : Nat} {c : Uc} {s s' : AS} {ds nI : List (AV × List AV)} {Φ : an -> AS -> List (AV × List AV) -> Prop} (h : s = s') (hd : ds = nI) : Ci lv P nt c s ds Φ = Ci lv P nt c s' nI Φ := by rw [h, hd]
theorem atk(K:AS->List (AV×List AV)->Prop)(Φ:an->AS->List (AV×List AV)->Prop)(s:AS)(ds:List (AV×List AV)):an.xJ K Φ .normal s ds=K s ds:=by rw[an.xJ]
theorem atm(K:AS->List (AV×List AV)->Prop)(Φ:an->AS->List (AV×List AV)->Prop)(s:AS)(ds:List (AV×List AV)):an.xJ K Φ .ret s ds=Φ .ret s ds:=by rw[an.xJ];simp
theorem atl(K:AS->List (AV×List AV)->Prop)(Φ:an->AS->List (AV×List AV)->Prop)(a:AV)(s:AS)(ds:List (AV×List AV)):an.xJ K Φ (.panic a) s ds=Φ (.panic a) s ds:=by rw[an.xJ];simp
@[congr] theorem avJ {K : AS -> List (AV × List AV) -> Prop} {Φ : an -> AS -> List (AV × List AV) -> Prop} {e e' : an} {s s' : AS} {ds nI : List (AV × List AV)} (he : e = e') (h : s = s') (hd : ds = nI) : an.xJ K Φ e s ds = an.xJ K Φ e' s' nI := by rw [he, h, hd]
@[congr] theorem ava {rs : List UU} {n : Nat} {k kp : AV -> List aa -> Prop} {e e' : an} {s s' : AS} {ds nI : List (AV × List AV)} (he : e = e') (h : s = s') (hd : ds = nI) : Af lv P rs n k kp e s ds = Af lv P rs n k kp e' s' nI := by rw [he, h, hd]
theorem akw(rs:List UU)(n:Nat)(k kp:AV->List aa->Prop)(s:AS):Af lv P rs n k kp .ret s []=ao (ig P s rs) λl=>cH n s.H (jc l) k:=by rw[Af]
theorem akv(rs:List UU)(n:Nat)(k kp:AV->List aa->Prop)(s:AS)(pv:AV):Af lv P rs n k kp (.panic pv) s []=cH n s.H pv kp:=by rw[Af]
attribute [seval] atk atm atl akw akv
end
section
variable {P:SI}
theorem aem{ι:Type}{body:ι->PUnit->Sem (ForInStep PUnit)}:∀(l:List ι),(∀i∈l,cM P (body i ⟨⟩) (.yield ⟨⟩))->cM P (forIn l ⟨⟩ body) ⟨⟩
 |[],_=>by simpa using iM PUnit.unit
 |i::l,h=>by
  rw[W9];exact lI (h i (TF ..)) (aem l λj hj=>h j (Td _ hj))
theorem as5{t:TypeId}{k0 k:T8}{d:Nat}{b:Bool}{x:Int}(h:P.underlying t=some (.int k0)):cM P (Vo b (d+1) t (.int k x)) ():=by
 rw[Vo];exact zV h (iM _)
theorem ael{t e:TypeId}{k0 k:T8}{n d:Nat}{i:Wo}{b:Bool}{xs:List Int}(ht:P.underlying t=some (.array n e))(he:P.underlying e=some (.int k0))(hi:P.info? e=some i)(hs:i.size=1)(hx:xs.length=n):
  cM P (Vo b (d+2) t (.agg (xs.map (SF k)).toArray)) ():=by
 rw[Vo];refine zV ht ?_;dsimp only;simp only[WA,XB];refine lI (a:=⟨⟩) ?_ (iM _);refine aem _ λj hj=> ?_;have hn:(n-0+1-1)/1=n:=by simp
 have lS:j<n:=by rw[hn]at hj;simp[Yb]at hj;omega
 have gx:xs[j]?=some (xs[j]'(by omega)):=SY _;refine Pv hi ?_;rw[hs,Y9];refine Fs he rfl (v:=.int k (xs[j]'(by omega))) (by simp[gx]) ?_;exact lI (as5 he) (iM _)
def eG (x:List Int×Nat):Wp:={key:=.agg (x.1.map (SF .i64)).toArray,val:=.bool true,born:=x.2}
def qz (x:List Int):List (List Int×Nat)->Nat->Option (Nat×SP)
 |[],_=>none
 |y::ts,i=>if x==y.1 then some (i,.bool true)else qz x ts (i+1)
theorem aeo{t e:TypeId}{k0:T8}{n:Nat}{i:Wo}{x:List Int}(ht:P.underlying t=some (.array n e))(he:P.underlying e=some (.int k0))(hi:P.info? e=some i)(hs:i.size=1)(hx:x.length=n):∀(ts:List (List Int×Nat))(j:Nat),(∀y∈ts,y.1.length=n)->
  cM P (XQ t (.agg (x.map (SF .i64)).toArray) (ts.map eG) j) (qz x ts j)
 |[],j,_=>by rw[ZU,XQ,qz];exact iM _
 |y::ts,j,h=>by
  rw[U0,XQ,qz];refine lI (aen ht he hi hs hx (h y (TF ..))) ?_;by_cases xi:(x==y.1)=true
  ·rw[if_pos xi,if_pos xi];exact iM _
  ·rw[if_neg xi,if_neg xi];exact aeo ht he hi hs hx ts (j+1) λz hz=>h z (Td _ hz)
theorem aep{t e:TypeId}{k0:T8}{n:Nat}{i:Wo}{x:List Int}(ht:P.underlying t=some (.array n e))(he:P.underlying e=some (.int k0))(hi:P.info? e=some i)(hs:i.size=1)(hx:x.length=n){ts:List (List Int×Nat)}(h:∀y∈ts,y.1.length=n):
  cM P (VT t (.agg (x.map (SF .i64)).toArray) (ts.map eG)) (qz x ts 0):=by
 unfold VT;refine zV ht ?_;cases ts with
 |nil=>exact iM _
 |cons y ts=>
  have e1:Instr.findNow (.array n e) (.agg (x.map (SF .i64)).toArray) ((y::ts).map eG) 0=none:=rfl;rw[e1];exact aeo ht he hi hs hx (y::ts) 0 h
theorem Sn{x:List Int}:∀{ts:List (List Int×Nat)}{j i:Nat}{v:SP},qz x ts j=some (i,v)->∃b,j<=i/\ts[i-j]?=some (x,b)/\v=.bool true
 |y::ts,j,i,v,h=>by
  rw[qz]at h;split at h
  ·rename_i xi;cases h;obtain⟨y1,b⟩:=y;have:x=y1:=(by simpa using xi);subst this;exact⟨b,SO _,by simp,rfl⟩
  ·obtain⟨b,h1,h2,h3⟩:=Sn h;refine⟨b,by omega,?_,h3⟩;have:i-j=(i-(j+1))+1:=(by omega);rw[this,UR];exact h2
theorem Sm{x:List Int}:∀{ts:List (List Int×Nat)}{j:Nat},qz x ts j=none->∀y∈ts,y.1≠x
 |y::ts,j,h,z,hz=>by
  rw[qz]at h;split at h
  ·cases h
  ·rename_i xi;rcases SK.1 hz with rfl|hz
   ·intro e;exact xi (by simp[e])
   ·exact Sm h z hz
end
theorem arI(xs:List Int):WF 10000 (.agg (xs.map (SF .i64)).toArray) (.agg (xs.map (SF .i64)).toArray)=true:=by
 show WF (9999+1) _ _=true;rw[WF];simp only[beq_self_eq_true,UP,Tu]
 rintro⟨a,b⟩ h
 have:a=b/\a∈xs.map (SF .i64):=by
  have key:∀l:List SP,(a,b)∈l.zip l->a=b/\a∈l:=by
   intro l;induction l with
   |nil=>intro h;cases h
   |cons x l ih=>
    intro h;rw[List.zip_cons_cons]at h;rcases SK.1 h with h|h
    ·cases h;exact⟨rfl,TF ..⟩
    ·exact⟨(ih h).1,Td _ (ih h).2⟩
  exact key _ h
 obtain⟨rfl,hm⟩:=this;obtain⟨x,_,rfl⟩:=Tf.1 hm;simp[WF]
theorem ade(ts:List (List Int×Nat))(ck:Nat)(x:List Int):xC (ts.map eG).toArray ck (.agg (x.map (SF .i64)).toArray) (.bool true) none=.map ((ts++[(x,ck)]).map eG).toArray (ck+1):=by
 simp[xC,eG]
theorem aqo{ts:List (List Int×Nat)}{ck i b:Nat}{x:List Int}{v:SP}(h:ts[i]?=some (x,b)):xC (ts.map eG).toArray ck (.agg (x.map (SF .i64)).toArray) (.bool true) (some (i,v))=.map (ts.map eG).toArray ck:=by
 simp only[xC];congr 1;apply Array.ext_getElem?;intro j;rw[Wn];by_cases hj:i=j
 ·subst hj;rw[if_pos rfl];simp[h,eG]
 ·rw[if_neg hj]
theorem apu(xs:List Int):AV.of (.agg (xs.map (SF .i64)).toArray)=.agg (xs.map iv):=by
 simp only[AV.of,WS];congr 1
theorem QT(ts:List (List Int×Nat))(ck:Nat)(h:∀y∈ts,y.2<ck):((ts.map eG).toArray.all (λe=>decide (e.born>=ck))=false\/(ts.map eG).toArray.isEmpty=true):=by
 cases ts with
 |nil=>right;rfl
 |cons y ts=>
  left;have:=h y (TF ..);simp[eG];omega
theorem ER{α β:Type}(f:α->β):∀{l:List α},(l.map f).Nodup->l.Nodup
 |[],_=>WR
 |x::l,h=>by
  rw[U0,VX]at h;exact VX.2 ⟨λhm=>h.1 (Tf.2 ⟨x,hm,rfl⟩),ER f h.2⟩
theorem ady{ts vs:List (List Int×Nat)}(hv:(vs.map (·.2)).Nodup)(ht:(ts.map (·.2)).Nodup)(lY:∀y∈vs,y∈ts)(eN:∀y∈ts,y.2∈vs.map (·.2)):vs.Perm ts:=by
 have zg:vs.Nodup:=ER _ hv;have my:ts.Nodup:=ER _ ht;refine(List.perm_ext_iff_of_nodup zg my).2 λy=>⟨lY y,λhy=> ?_⟩;obtain⟨z,hz,e⟩:=Tf.1 (eN y hy);have NB:=lY z hz;have:∀(l:List (List Int×Nat)),(l.map (·.2)).Nodup->z∈l->y∈l->z=y:=by
  intro l;induction l with
  |nil=>intro _ h;cases h
  |cons x l ih=>
   intro hn h1 h2;rw[U0,VX]at hn;rcases SK.1 h1 with e1|Lq
   ·rcases SK.1 h2 with e2|AR
    ·rw[e1,e2]
    ·exact absurd (show x.2∈l.map (·.2)from Tf.2 ⟨y,AR,by rw[<- e1];exact e.symm⟩) hn.1
   ·rcases SK.1 h2 with e2|AR
    ·exact absurd (show x.2∈l.map (·.2)from Tf.2 ⟨z,Lq,by rw[<- e2];exact e⟩) hn.1
    ·exact ih hn.2 Lq AR
 rw[<- this ts ht NB hy];exact hz
theorem Sp{y:List Int×Nat}:∀{ts:List (List Int×Nat)},(ts.map (·.2)).Nodup->y∈ts->(ts.map eG).toArray.find? (λe=>e.born==y.2)=some (eG y):=by
 intro ts hn hy;rw[List.find?_toArray];induction ts with
 |nil=>cases hy
 |cons z ts ih=>
  rw[U0,VX]at hn;rw[U0];by_cases h:z.2=y.2
  ·rw[List.find?_cons_of_pos (by simp[eG,h])];rcases SK.1 hy with e|pZ
   ·rw[e]
   ·exact absurd (show z.2∈ts.map (·.2)from Tf.2 ⟨y,pZ,h.symm⟩) hn.1
  ·rw[List.find?_cons_of_neg (by simp[eG,h])];rcases SK.1 hy with e|pZ
   ·exact absurd (by rw[e]) h
   ·exact ih hn.2 pZ
theorem acR(y:List Int×Nat):AV.of (eG y).key=.agg (y.1.map iv):=apu y.1
section
variable {lv:Bool}{P:SI}
theorem arO{l:Nat}{r:avU}{V:View}(ho:V.own l=some (.loop r))(hs:r.state=.ready)(hc:V.role.chan≠some l):aS P V (do XR l;pure Next.skip) (λnx V'=>nx=.skip/\V'=V.upd l (.loop {r with state:=.busy})) (λ_ _=>False):=by
 unfold XR WN;refine aA (aA (aA ?_));unfold getObj;refine ou ho rfl rfl hc (cJ ?_);dsimp only;refine au ?_;refine aA ?_;unfold setObj;refine zM ho rfl rfl hc (cJ ?_);rw[hs];exact au (au ⟨rfl,rfl⟩)
theorem arS{l:Nat}{r:avU}{V:View}(p7:Option Uc)(ho:V.own l=some (.loop r))(hc:V.role.chan≠some l):aS P V (Xd l p7) (λv V'=>v=.bool p7.isNone/\V'=V.upd l (.loop {r with state:=if p7.isNone then .ready else .done,pending:=p7})) (λ_ _=>False):=by
 unfold Xd WN;refine aA (aA ?_);unfold getObj;refine ou ho rfl rfl hc (cJ ?_);dsimp only;refine au ?_;refine aA ?_;unfold setObj;refine zM ho rfl rfl hc (cJ ?_);exact au ⟨rfl,rfl⟩
theorem arR{l:Nat}{r:avU}{V:View}(ho:V.own l=some (.loop r))(hs:r.state≠ .busy)(hc:V.role.chan≠some l):aS P V (ZZ l) (λv V'=>v=r.pending/\V'=V.upd l (.loop {r with state:=.exhausted})) (λ_ _=>False):=by
 unfold ZZ WN;refine aA (aA ?_);unfold getObj;refine ou ho rfl rfl hc (cJ ?_);dsimp only;refine au ?_;have:(r.state==avT)=false:=by simpa using hs
 rw[if_neg (by rw[this];simp)];refine aA ?_;unfold setObj;refine zM ho rfl rfl hc (cJ ?_);exact au ⟨rfl,rfl⟩
theorem arT{fn:TY}{tmps:Array SP}{ps:Array Tmp}{bS body:Uc}{V:View}:aS P V (W6 fn tmps ps bS body none) (λx V1=>∃d l,V.fresh d/\(V.upd d (.deferred (some []))).fresh l/\x=(l,[{target:=.collected d,args:=#[]}])/\
  V1=(V.upd d (.deferred (some []))).upd l (.loop {state:=.ready,pending:=none,fn,tmps,params:=ps,assign:=bS,body,defers:=d})) (λ_ _=>False):=by
 unfold W6;dsimp only;refine aA ?_;unfold newObj;refine pc λd hd=>cJ ?_;refine aA (au ?_);dsimp only;refine aA (pc λl hl=>cJ (au ?_));exact⟨d,l,hd,hl,rfl,rfl⟩
theorem Pf{d:Nat}{V:View}(ho:V.own d=some (.deferred (some [])))(hc:V.role.chan≠some d):aS P V (Ze d) (λv V'=>v=[]/\V'=V.upd d (.deferred none)) (λ_ _=>False):=by
 unfold Ze;refine aA ?_;unfold getObj;refine ou ho rfl rfl hc (cJ ?_);dsimp only;refine aA ?_;unfold setObj;refine zM ho rfl rfl hc (cJ ?_);exact au ⟨rfl,rfl⟩
def afh (l:Nat)(R:Out->View->Prop):Ex->Act->View->Prop
 |.normal,_,V=>∃r,V.own l=some (.loop r)/\V.role.chan≠some l/\R (.ret (.bool true)) (V.upd l (.loop {r with state:=.ready,pending:=none}))
 |.ret,_,V=>∃r,V.own l=some (.loop r)/\V.role.chan≠some l/\R (.ret (.bool false)) (V.upd l (.loop {r with state:=.done,pending:=some .ret}))
 |.exit i,_,V=>∃r,V.own l=some (.loop r)/\V.role.chan≠some l/\R (.ret (.bool false)) (V.upd l (.loop {r with state:=.done,pending:=some (.exit i)}))
 |.goto i,_,V=>∃r,V.own l=some (.loop r)/\V.role.chan≠some l/\R (.ret (.bool false)) (V.upd l (.loop {r with state:=.done,pending:=some (.goto i)}))
 |.panic ch,a,V=>a.defers=[]/\R (.panic ch) V
def aff (lv:Bool)(P:SI)(l:Nat)(body:Uc)(R:Out->View->Prop):Ex->Act->View->Prop
 |.normal,a,V=>∃r,V.own l=some (.loop r)/\V.role.chan≠some l/\r.state=.ready/\WP lv P (some l) body (afh l R) a (V.upd l (.loop {r with state:=.busy}))
 |_,_,_=>False
theorem art{l f:Nat}{tmps:Array SP}{bS body:Uc}{V:View}{R:Out->View->Prop}(h:WP lv P (some l) bS (aff lv P l body R) {tmps,defers:=[]} V):nq lv P (Xh l f tmps bS body .normal) V R:=by
 intro main J C c cs h1 h2;let b:Ug:={(default:Ug)with fn:=f,kind:=.normal,roundOf:=some l};have amW:Xh l f tmps bS body .normal=on b {tmps,defers:=[]} [.code bS,.beginRound,.code body]:=rfl;rw[amW];have leave:∀(a:Act)(V':View)(r:avU)(p7:Option Uc)(todo:List W1),V'.own l=some (.loop r)->V'.role.chan≠some l->R (.ret (.bool p7.isNone)) (V'.upd l (.loop {r with state:=if p7.isNone then .ready else .done,pending:=p7}))->
   (∀w,stepG P main (G (on b a todo) (c::cs)) w=T_ (seen P b.fn ((Xd l p7).runT P w #[]).2) (match((Xd l p7).runT P w #[]).1 with
    |.ok v w=>doReturn P main (on b a todo) (c::cs) none v w
    | .halt _ w => .ended (.stuck "range over a function: no such loop" ((on b a todo).pos P)) w)) -> J V' (G (on b a todo) (c :: cs)) := by
  intro a V' r p7 todo ho ff hR aP;refine C.step _ _ rfl λw fB=> ?_;obtain⟨es,w',aU,k1,k2,k3⟩:=(arS (P:=P) p7 ho ff).runs fB;rcases k3 with⟨v,k3,rfl,rfl⟩|⟨_,_,hx⟩
  ·refine⟨G (c.finish (.bool p7.isNone)) cs,w',seen P b.fn es,_,?_,k1.seen P b.fn,h1 _ _ hR⟩;rw[aP w];simp[TE,k3,k2,doReturn,T_,on,b,G]
  ·exact hx.elim
 refine h main J C b [.beginRound,.code body] (c::cs) (by show Zg≠Vg;decide) rfl λe a' V' q=> ?_;cases e with
 |normal=>
  obtain⟨r,ho,ff,hs,hw⟩:=q;refine C.step _ _ rfl λw fB=> ?_;obtain⟨es,w',aU,k1,k2,k3⟩:=(arO (P:=P) ho hs ff).runs fB;rcases k3 with⟨nx,k3,rfl,rfl⟩|⟨_,_,hx⟩
  ·refine⟨G (on b a' [.code body]) (c::cs),w',seen P b.fn es,_,?_,k1.seen P b.fn,?_⟩
   ·have:stepG P main (G (on b a' [.beginRound,.code body]) (c::cs)) w=stepG.apply P true (on b a' [.beginRound,.code body]) (c::cs) none (do XR l;pure Next.skip) w:=by
     simp[G,stepG,Uj,on,b]
    rw[this];have jX:((on b a' [.beginRound,.code body]).kind==Vg)=false:=(by simp[on,b]);simp only[stepG.apply,TE,if_true,k3,k2,jX,T_];rfl
   ·refine hw main J C b [] (c::cs) (by show Zg≠Vg;decide) rfl λe cu aU q=> ?_;cases e with
    |normal=>
     obtain⟨r',bm,nP,hR⟩:=q;refine leave cu aU r' none [] bm nP hR λw=> ?_;simp[G,stepG,Uj,on,b];rfl
    |ret=>
     obtain⟨r',bm,nP,hR⟩:=q;intro k;refine leave cu aU r' (some .ret) _ bm nP hR λw=> ?_;simp[G,stepG,Uj,on,b];rfl
    |exit i=>
     obtain⟨r',bm,nP,hR⟩:=q;refine .inr ⟨rfl,λk2 cI=> ?_⟩;refine leave cu aU r' (some (.exit i)) _ bm nP hR λw=> ?_;simp[G,stepG,Uj,on,b,cI];rfl
    |goto i=>
     obtain⟨r',bm,nP,hR⟩:=q;refine .inr ⟨rfl,λk2 cI=> ?_⟩;refine leave cu aU r' (some (.goto i)) _ bm nP hR λw=> ?_;simp[G,stepG,Uj,on,b,cI];rfl
    |panic ch=>
     obtain⟨hd,hR⟩:=q;intro todo anc;refine C.idle rfl (λw=> ?_) (h2 _ _ hR);have alq:Z7 P {on b cu todo with mode:=.panicking ch}=false:=by
      unfold Z7
      match todo,anc with
      |.call .. ::_,h=>cases h
      |[],_=>split<;>simp_all[on]
      |x::k,_=>cases x<;>(split<;>simp_all[on,acz])
     have bC:({on b cu todo with mode:=.panicking ch}:Ug).defers=[]:=hd;simp only[G,stepG,unwind,bC,alq];simp
  ·exact hx.elim
 |_=>exact q.elim
def mark (a:Act)(d:Nat):Act:={a with defers:={target:=.collected d,args:=#[]}::a.defers}
def xX (l:Nat)(Q:Ex->Act->View->Prop)(a:Act):Out->View->Prop
 |.ret _,V=>∃r,V.own l=some (.loop r)/\V.role.chan≠some l/\r.state≠ .busy/\(match r.pending with
  |none=>Q .normal a (V.upd l (.loop {r with state:=.exhausted}))
  |some .ret=>Q .ret a (V.upd l (.loop {r with state:=.exhausted}))
  |some (.exit i)=>Q (.exit i) a (V.upd l (.loop {r with state:=.exhausted}))
  |some (.goto i)=>Q (.goto i) a (V.upd l (.loop {r with state:=.exhausted}))
  |_=>False)
 |.panic ch,V=>Q (.panic ch) a V
abbrev FX (l d:Nat)(Q:Ex->Act->View->Prop)(a:Act):Out->View->Prop:=xX l Q (mark a d)
theorem adk{rr:Option Nat}{f:Tl}{ps:Array Tmp}{bS body:Uc}{Q:Ex->Act->View->Prop}{a a1:Act}{V1:View}{l:Nat}{main:Bool}{J:View->SG->Prop}(C:Closed lv P main J){b:Ug}{k:List W1}{cs:List Ug}(hb:b.kind≠ .early)(hr:b.roundOf=rr)(hL:∀e a' V',Q e a' V'->wm J b k cs e a' V'){w w1:Tq}{es:Array Uu}{V:View}
  (h:aS P V1 (do let dd<- Ve (a.eval f) #[.func (.yield l) #[] #[]];invoke dd.target dd.args) (λnx V'=>Nx lv P (xX l Q a1) nx V') (λv V'=>xX l Q a1 (.panic [{v,recovered:=false}]) V'))
  (s1:di V w V1 w1 (fM es)) (aP:stepG P main (G (on b a (.code (.rangeFunc f ps bS body)::k)) cs) w=T_ (seen P b.fn es) (stepG.apply P true (on b a1 (.inRangeFunc l::k)) cs none (do let dd<- Ve (a.eval f) #[.func (.yield l) #[] #[]];invoke dd.target dd.args) w1)):
  ∃g' w' es V',stepG P main (G (on b a (.code (.rangeFunc f ps bS body)::k)) cs) w=.go g' w' es/\di V w V' w' es/\J V' g':=by
 have fin:∀(v:SP)(V':View),xX l Q a1 (.ret v) V'->J V' (G (on b a1 (.endRangeFunc l::k)) cs):=by
  intro v V' ⟨r,ho,ff,hs,hq⟩;refine C.step _ _ rfl λw fB=> ?_;obtain⟨es,w',aU,k1,k2,k3⟩:=(arR (P:=P) ho hs ff).runs fB;rcases k3 with⟨x,k3,rfl,rfl⟩|⟨_,_,hx⟩
  ·refine⟨G (on b a1 ((r.pending.map Item.code).toList++k)) cs,w',seen P b.fn es,_,?_,k1.seen P b.fn,?_⟩
   ·simp[G,stepG,Uj,on,TE,k3,k2,T_]
   ·generalize r.pending=pe at hq⊢
    match pe,hq with
    |none,hq=>exact hL _ _ _ hq
    |some .ret,hq=>exact hL _ _ _ hq _
    |some (.exit i),hq=>exact abQ C (hL _ _ _ hq)
    |some (.goto i),hq=>exact anA C (hL _ _ _ hq)
  ·exact hx.elim
 obtain⟨nJ,w2,V2,t1,t2,t3⟩:=h.runs s1.sat;have jX:((on b a1 (.inRangeFunc l::k)).kind==Vg)=false:=by simpa[on]using hb
 rw[aP];rcases t3 with⟨nx,t3,hU⟩|⟨v,t3,hU⟩
 ·cases nx with
  |value v=>exact⟨_,w2,seen P b.fn es++seen P b.fn nJ,V2,by simp only[stepG.apply,TE,if_true,t3,t2,jX,T_];rfl,(s1.seen P _).trans (t1.seen P _),fin v _ hU⟩
  |skip=>exact⟨_,w2,seen P b.fn es++seen P b.fn nJ,V2,by simp only[stepG.apply,TE,if_true,t3,t2,jX,T_];rfl,(s1.seen P _).trans (t1.seen P _),fin undef _ hU⟩
  |enter g args=>
   refine⟨G (Frame.enter P g args .normal) (on b a1 (.inRangeFunc l::k)::cs),w2,seen P b.fn es++seen P b.fn nJ,V2,by simp only[stepG.apply,TE,if_true,t3,t2,jX,T_];rfl,(s1.seen P _).trans (t1.seen P _),?_⟩;refine Body.runs hU main J C _ cs (λv aU hR=> ?_) (λch aU hR=> ?_)
   ·exact fin v _ hR
   ·exact hL _ _ _ hR _ rfl
  |round l2 f2 atz as2 b2=>
   refine⟨G (Xh l2 f2 atz as2 b2 .normal) (on b a1 (.inRangeFunc l::k)::cs),w2,seen P b.fn es++seen P b.fn nJ,V2,by simp only[stepG.apply,TE,if_true,t3,t2,jX,T_];rfl,(s1.seen P _).trans (t1.seen P _),?_⟩;refine hU main J C _ cs (λv aU hR=> ?_) (λch aU hR=> ?_)
   ·exact fin v _ hR
   ·exact hL _ _ _ hR _ rfl
  |_=>exact hU.elim
 ·exact⟨_,w2,seen P b.fn es++seen P b.fn nJ,V2,by simp only[stepG.apply,TE,if_true,t3,t2,jX,T_];rfl,(s1.seen P _).trans (t1.seen P _),hL _ _ _ hU _ rfl⟩
theorem ae0{f:Tl}{ps:Array Tmp}{bS body:Uc}{Q:Ex->Act->View->Prop}{a:Act}{V:View}
  (h:∀(fn d l:Nat),V.fresh d->(V.upd d (.deferred (some []))).fresh l->aS P ((V.upd d (.deferred (some []))).upd l (.loop {state:=.ready,pending:=none,fn,tmps:=a.tmps,params:=ps,assign:=bS,body,defers:=d}))
   (do let dd<- Ve (a.eval f) #[.func (.yield l) #[] #[]];invoke dd.target dd.args) (λnx V'=>Nx lv P (FX l d Q a) nx V') (λv V'=>FX l d Q a (.panic [{v,recovered:=false}]) V')):WP lv P none (.rangeFunc f ps bS body) Q a V:=by
 intro main J C b k cs hb hr hL;refine C.step _ _ rfl λw fB=> ?_;obtain⟨es,w1,V1,s1,s2,s3⟩:=(arT (P:=P) (fn:=b.fn) (tmps:=a.tmps) (ps:=ps) (bS:=bS) (body:=body)).runs fB;rcases s3 with⟨x,s3,d,l,hd,hl,rfl,rfl⟩|⟨_,_,hx⟩
 ·refine adk C hb hr hL (h b.fn d l hd hl) s1 ?_;have cm:∀(todo:List W1)(x:Tl),(on b (mark a d) todo).eval x=a.eval x:=λtodo x=>by rw[Iz];cases x<;>rfl
  have e:=cm (.inRangeFunc l::k) f;have e2:=cm (.inRangeFunc l::k) (.const (.func (.yield l) #[] #[]));simp only[on,mark]at e e2;simp[G,stepG,Uj,on,TE,s3,s2,hr,mark,resolve];rw[hr]at e;rw[e];rfl
 ·exact hx.elim
theorem arU{fn:TY}{tmps:Array SP}{ps:Array Tmp}{bS body:Uc}{V:View}{l0:Nat}{r0:avU}(ho:V.own l0=some (.loop r0))(hc:V.role.chan≠some l0):aS P V (W6 fn tmps ps bS body (some l0)) (λx V1=>∃l,V.fresh l/\x=(l,[])/\
  V1=V.upd l (.loop {state:=.ready,pending:=none,fn,tmps,params:=ps,assign:=bS,body,defers:=r0.defers})) (λ_ _=>False):=by
 unfold W6 WN;dsimp only;refine aA (aA ?_);unfold getObj;refine ou ho rfl rfl hc (cJ ?_);dsimp only;refine au (aA (au ?_));dsimp only;refine aA ?_;unfold newObj;refine pc λl hl=>cJ (au ?_);exact⟨l,hl,rfl,rfl⟩
theorem aue{f:Tl}{ps:Array Tmp}{bS body:Uc}{Q:Ex->Act->View->Prop}{a:Act}{V:View}{l0:Nat}{r0:avU}(ho:V.own l0=some (.loop r0))(hc:V.role.chan≠some l0)
  (h:∀(fn l:Nat),V.fresh l->aS P (V.upd l (.loop {state:=.ready,pending:=none,fn,tmps:=a.tmps,params:=ps,assign:=bS,body,defers:=r0.defers}))
   (do let dd<- Ve (a.eval f) #[.func (.yield l) #[] #[]];invoke dd.target dd.args) (λnx V'=>Nx lv P (xX l Q a) nx V') (λv V'=>xX l Q a (.panic [{v,recovered:=false}]) V')):WP lv P (some l0) (.rangeFunc f ps bS body) Q a V:=by
 intro main J C b k cs hb hr hL;refine C.step _ _ rfl λw fB=> ?_;obtain⟨es,w1,V1,s1,s2,s3⟩:=(arU (P:=P) (fn:=b.fn) (tmps:=a.tmps) (ps:=ps) (bS:=bS) (body:=body) ho hc).runs fB;rcases s3 with⟨x,s3,l,hl,rfl,rfl⟩|⟨_,_,hx⟩
 ·refine adk C hb hr hL (h b.fn l hl) s1 ?_;have e:=Iz b a (.inRangeFunc l::k) f;simp only[on]at e;simp[G,stepG,Uj,on,TE,s3,s2,hr,resolve];rw[hr]at e;rw[e];rfl
 ·exact hx.elim
theorem Conc.zO{E:Env}{V:View}{H:List aa}(hc:Conc E V H){id r fn nt df:Nat}{st:af'}{pe:Option Uc}{T:List (Nat×AV)}{ps:Array Tmp}{bS body:Uc}(hk:H[id]?=some (.loop r st pe fn T nt ps bS body df)):
  E.blk id=r/\V.role.chan≠some r/\∃tmps,V.own r=some (.loop {state:=st,pending:=pe,fn,tmps,params:=ps,assign:=bS,body,defers:=E.blk df})/\tmps.size=nt/\cr E T tmps/\
   ∀st' xB,Conc E (V.upd r (.loop {state:=st',pending:=xB,fn,tmps,params:=ps,assign:=bS,body,defers:=E.blk df})) (H.set id (.loop r st' xB fn T nt ps bS body df)):=by
 obtain⟨⟨tmps,p1,p2,p3⟩,p4,p5,p6⟩:=hc.obj id _ hk;have ff:=(hc.jq hk (b:=E.blk id) rfl).2;subst p6;refine⟨rfl,ff,tmps,p1,p2,p3,λst' xB=> ?_⟩;refine hc.iO id (.loop (E.blk id) st' xB fn T nt ps bS body df) (Env.Le.refl E) hc.I (by simpa using hc.n) lD rfl (λ_ _ _=>rfl) (λb z hb hz=>⟨?_,λ_=>rfl⟩) ⟨⟨tmps,by simp[View.upd],p2,p3⟩,p4,p5,rfl⟩ (λb h=> .inl ⟨_,hk,h⟩);have:b≠E.blk id:=λe=>hb _ hk (by rw[e];rfl);simpa[View.upd,this]using hz
theorem Conc.Fi{E:Env}{V:View}{H:List aa}(hc:Conc E V H){id:Nat}(x:aa)(hk:H[id]?=some x)(y:Obj){b:Nat}(hb:bT E id x=some b):Conc E (V.upd b y) (H.set id .gone):=by
 refine hc.iO id .gone (Env.Le.refl E) hc.I (by simpa using hc.n) lD rfl (λ_ _ _=>rfl) (λb' z dG hz=>⟨?_,λ_=>rfl⟩) trivial (λb h=>by cases h);have:b'≠b:=λe=>dG _ hk (by rw[e];exact hb);simpa[View.upd,this]using hz
def sR:List Nat->List AV->List (Nat×AV)->List (Nat×AV)
 |t::ts,a::aG,T=>sR ts aG ((t,a)::T)
 |_,_,T=>T
theorem ae5{E:Env}{nt:Nat}:∀(ts:List Nat)(aG:List AV)(vs:List SP)(T:List (Nat×AV))(tmps:Array SP),vs.length=aG.length->(∀(i:Nat) a,aG[i]?=some a->ap E a (vs.getD i undef))->(∀t∈ts,t<nt)->tmps.size=nt->cr E T tmps->
  cr E (sR ts aG T) ((ts.zip vs).foldl (λtmps (x:Nat×SP)=>tmps.setIfInBounds x.1 x.2) tmps)/\((ts.zip vs).foldl (λtmps (x:Nat×SP)=>tmps.setIfInBounds x.1 x.2) tmps).size=nt
 |[],aG,vs,T,tmps,_,_,_,hs,hT=>by cases aG<;>cases vs<;>exact⟨hT,hs⟩
 |t::ts,[],[],T,tmps,_,_,_,hs,hT=>⟨hT,hs⟩
 |t::ts,[],_::_,T,tmps,h,_,_,hs,hT=>by cases h
 |t::ts,_::_,[],T,tmps,h,_,_,hs,hT=>by cases h
 |t::ts,a::aG,v::vs,T,tmps,hl,hd,ht,hs,hT=>by
  have h0:ap E a v:=by simpa using hd 0 a rfl
  have h1:t<tmps.size:=by rw[hs];exact ht t (by simp)
  exact ae5 ts aG vs ((t,a)::T) (tmps.setIfInBounds t v) (by simpa using hl) (λi x hx=>by simpa using hd (i+1) x (by simpa using hx)) (λx hx=>ht x (by simp[hx])) (by simpa using hs) (hT.put h1 h0)
def pu (id n:Nat)(k:AV->List aa->Prop)(st':af')(xB:Option Uc)(b:Bool)(s:AS):Prop:=∃r st pe fn T nt ps bS body df,s.H[id]?=some (.loop r st pe fn T nt ps bS body df)/\cH n (s.H.set id (.loop r st' xB fn T nt ps bS body df)) (.val (.bool b)) k
def afg (id n:Nat)(k kp:AV->List aa->Prop):an->AS->Prop
 |.normal,s=>pu id n k .ready none true s
 |.ret,s=>pu id n k .done (some .ret) false s
 |.exit i,s=>pu id n k .done (some (.exit i)) false s
 |.goto i,s=>pu id n k .done (some (.goto i)) false s
 |.panic pv,s=>cH n s.H pv kp
def uG (lv:Bool)(P:SI)(l nt id n:Nat)(body:Uc)(k kp:AV->List aa->Prop):an->AS->Prop
 |.normal,s=>∃pe fn T jr ps bS fw df,s.H[id]?=some (.loop l .ready pe fn T jr ps bS fw df)/\aR lv P (some l) nt body ⟨s.T,s.H.set id (.loop l .busy pe fn T jr ps bS fw df)⟩ (afg id n k kp)
 |_,_=>False
theorem wC{l id fn nt df:Nat}{pe:Option Uc}{T:List (Nat×AV)}{ps:Array Tmp}{bS body:Uc}{H:List aa}{args:List AV}{k kp:AV->List aa->Prop}(cg:H[id]?=some (.loop l .ready pe fn T nt ps bS body df))(hlen:args.length=ps.size)(oY:ps.all (·<nt)=true)
  (h:bJ H->(∀a∈args,Lt H.length a)->aR lv P (some l) nt bS ⟨sR ps.toList args T,H⟩ (uG lv P l nt id H.length body k kp)):je lv P (.fn (.yield l) [] []) H args k kp:=by
 intro E V cv vs hc hd pI;cases hd with
 |fn dT fZ h1 h2=>
  rename_i fa ca;have e1:fa=#[]:=by apply VJ;simpa using dT
  subst e1;have hlt:∀a∈args,Lt H.length a:=λa ha=>by
   obtain⟨i,hi⟩:=p9 ha;rw[<- hc.n];exact(pI.2 i a hi).lt
  obtain⟨hb,ff,tmps,ho,aY,hT,_⟩:=hc.zO cg;unfold Ve;refine aA (au ?_);unfold invoke;dsimp only;unfold Instr.yield WN;refine aA (aA ?_);unfold getObj;refine ou ho rfl rfl ff (cJ ?_);dsimp only;refine au ?_;have l6:(#[]++vs).size=ps.size:=by simp[pI.1,hlen]
  rw[if_neg (by simp[pI.1,hlen])];refine au ?_;show nq lv P _ V (gU E V k kp);have hz:=ae5 (nt:=nt) ps.toList args vs.toList T tmps (by simpa using pI.1) (λi a e=>by
   have:=pI.2 i a e;simpa[SH,SE]using this) (λt ht=>by
    have:=(UQ.1 oY) t (by simpa using ht);simpa using this) aY hT
  have aiA:(ps.zip (#[]++vs)).foldl (λtmps (x:Nat×SP)=>tmps.setIfInBounds x.1 x.2) tmps=(ps.toList.zip vs.toList).foldl (λtmps (x:Nat×SP)=>tmps.setIfInBounds x.1 x.2) tmps:=by
   rw[<- Array.foldl_toList,Array.toList_zip];simp
  have aiB:Array.foldl (λtmps x=>match x with|(t,a)=>tmps.setIfInBounds t a) tmps (ps.zip (#[]++vs))=(ps.toList.zip vs.toList).foldl (λtmps (x:Nat×SP)=>tmps.setIfInBounds x.1 x.2) tmps:=aiA;rw[aiB];refine art ?_;refine h hc.aq hlt E V _ _ ⟨hc,hz.1,hz.2⟩ λae e E' V' a' s' hk aV he hΦ=> ?_;cases ae<;>cases e<;>first
   |exact he.elim
   |exact hΦ.elim
   |skip
  obtain⟨xB,fG,T',jr,gA,gh,fw,gk,alZ,hw⟩:=hΦ;obtain⟨dG,nP,rj,bm,Nd,tH,uc⟩:=aV.bz.zO alZ;refine⟨_,bm,nP,rfl,?_⟩;refine hw E' _ a' _ ⟨uc .busy xB,aV.tok,aV.size⟩ λae e bY aU cu dp cI dj DM HV=> ?_;have fin:∀(st':af')(IK:Option Uc)(b:Bool),(∃r st pe fn T nt ps bS body df,dp.H[id]?=some (.loop r st pe fn T nt ps bS body df)/\cH H.length (dp.H.set id (.loop r st' IK fn T nt ps bS body df)) (.val (.bool b)) k)->
    ∃r,aU.own l=some (.loop r)/\aU.role.chan≠some l/\gU E V k kp (.ret (.bool b)) (aU.upd l (.loop {r with state:=st',pending:=IK})):=by
   intro st' IK b ⟨r,st,pe3,fn3,T3,nt3,O3,auT,au2,df3,al0,tP⟩;obtain⟨GV,alu,avN,MQ,avw,hT3,am3⟩:=dj.bz.zO al0;have hlt:id<E.n:=(by rw[hc.n];exact(SL.1 cg).1);have hle:E.Le bY:=hk.le.trans cI.le;have hr:r=l:=(by rw[<- GV,<- hb];exact hle.blk id hlt);subst hr;obtain⟨x,E4,H4,q1,q2,q3,q4⟩:=yl tP (am3 st' IK) (.val _) hle hc.n;exact⟨_,MQ,alu,x,E4,H4,q1,cI.role.trans hk.role,cI.deaf.trans hk.deaf,q2,q3,q4⟩
  cases ae<;>cases e<;>first
   |exact DM.elim
   |exact fin .ready none true HV
   |exact fin .done (some .ret) false HV
   |(have e:_=_:=DM
     subst e;exact fin .done _ false HV)
   |skip
  obtain⟨v,alt,bx⟩:=DM;subst alt;obtain⟨x,E4,H4,q1,q2,q3,q4⟩:=yl HV dj.bz bx (hk.le.trans cI.le) hc.n;refine⟨by rw[cI.defers,hk.defers],x,v,E4,H4,rfl,q1,cI.role.trans hk.role,cI.deaf.trans hk.deaf,q2,q3,q4⟩
def Marks (E:Env)(ms:List Nat)(l:List U8):Prop:=l=ms.map (λi=>({target:=.collected (E.blk i),args:=#[]}:U8))/\∀i∈ms,i<E.n
theorem Marks.mono{E E':Env}(h:E.Le E'){ms:List Nat}{l:List U8}(k:Marks E ms l):Marks E' ms l:=
 ⟨by rw[k.1];exact VH λi hi=>by rw[h.blk i (k.2 i hi)],λi hi=>Tg (k.2 i hi) h.n⟩
def mL (lv:Bool)(P:SI)(nt:Nat)(c:Uc)(s:AS)(ms:List Nat)(Φ:an->AS->List Nat->Prop):Prop:=
 ∀(E:Env)(V:View)(a:Act)(Q:Ex->Act->View->Prop),At E V s a nt->Marks E ms a.defers->(∀ae e E' V' a' s' cF,rz E E' V V' a a'->At E' V' s' a' nt->Marks E' cF a'.defers->qh E' ae e->Φ ae s' cF->Q e a' V')->WP lv P none c Q a V
variable {s:AS}{ms:List Nat}{nt:Nat}
theorem J3{c:Uc}{Φ:an->AS->List Nat->Prop}(h:aR lv P none nt c s λe s'=>Φ e s' ms):mL lv P nt c s ms Φ:=λE V a Q ai hd hQ=>
 h E V a Q ai λae e E' V' a' s' hk aV he hΦ=>hQ ae e E' V' a' s' ms hk.d aV (by rw[hk.defers];exact hd.mono hk.le) he hΦ
def an.sM (next:AS->List Nat->Prop)(Φ:an->AS->List Nat->Prop):an->AS->List Nat->Prop
 |.normal,s,ms=>next s ms
 |e,s,ms=>Φ e s ms
theorem J4{x y:Uc}{Φ:an->AS->List Nat->Prop}(h:mL lv P nt x s ms (an.sM (λs' cF=>mL lv P nt y s' cF Φ) Φ)):mL lv P nt (.seq x y) s ms Φ:=by
 intro E V a Q ai hd hQ;refine wp_seq (h E V a _ ai hd λae e E' V' a' s' cF hk aV cD he hΦ=> ?_);cases ae<;>cases e<;>first
  |exact he.elim
  |exact hΦ E' V' a' Q aV cD λae e bY aU cu dp EO aJ dj A5 ku uf=>hQ ae e bY aU cu dp EO (hk.trans aJ) dj A5 ku uf
  |exact hQ _ _ E' V' a' s' cF hk aV cD he hΦ
theorem nE{x y:Uc}{Φ:an->AS->List Nat->Prop}(h:aR lv P none nt x s (an.then (λs'=>mL lv P nt y s' ms Φ) λe s'=>Φ e s' ms)):mL lv P nt (.seq x y) s ms Φ:=by
 refine J4 (J3 (h.mono λe s' hs=> ?_));cases e<;>exact hs
def s7 (Φ:an->AS->List Nat->Prop)(s:AS)(ms:List Nat):Option Uc->Prop
 |none=>Φ .normal s ms
 |some .ret=>Φ .ret s ms
 |some (.exit i)=>Φ (.exit i) s ms
 |some (.goto i)=>Φ (.goto i) s ms
 |_=>False
theorem ag3{f:Tl}{ps:Array Tmp}{bS body:Uc}{fv:AV}{Φ:an->AS->List Nat->Prop}(hf:s.ev f=some fv)
  (h:∀l fn:Nat,je lv P fv (s.H++[.obj (.deferred (some [])),.loop l .ready none fn s.T nt ps bS body s.H.length]) [.fn (.yield l) [] []]
   (λ_ H'=>∃st pe fG T' jr gA gh fw gk,H'[s.H.length+1]?=some (.loop l st pe fG T' jr gA gh fw gk)/\st≠ .busy/\s7 Φ ⟨s.T,H'.set (s.H.length+1) .gone⟩ (s.H.length::ms) pe)
   (λpv H'=>Φ (.panic pv) ⟨s.T,H'⟩ (s.H.length::ms))):mL lv P nt (.rangeFunc f ps bS body) s ms Φ:=by
 intro E V a Q ai hm hQ;refine ae0 λfn d l hd hl=> ?_;have hc:=ai.bz;have dt:Conc (E.add d V.ah) (V.upd d (.deferred (some []))) (s.H++[.obj (.deferred (some []))]):=by
  refine hc.add hd _ ⟨?_,rfl,rfl,λo=> ?_⟩ (λb e=> ?_)
  ·rw[Env.dO];simp[View.upd]
  ·rw[Env.dO];exact hd.2 o
  ·simp only[bT,Env.dO,Tm]at e;exact e.symm
 have DY:E.Le (E.add d V.ah):=E.qX d (λb o v h=>by rw[<- hc.I];exact h);have Dy:(E.add d V.ah).blk s.H.length=d:=by rw[<- hc.n];exact E.dO d _
 let E1:=E.add d V.ah;let V1:=V.upd d (.deferred (some []));have nW:E1.n=s.H.length+1:=by rw[dt.n];simp
 have qK:E1.Le (E1.add l V1.ah):=E1.qX l (λb o v h=>by rw[<- dt.I];exact h);have b_:Conc (E1.add l V1.ah) (V1.upd l (.loop {state:=.ready,pending:=none,fn,tmps:=a.tmps,params:=ps,assign:=bS,body,defers:=d})) ((s.H++[.obj (.deferred (some []))])++[.loop l .ready none fn s.T nt ps bS body s.H.length]):=by
  refine dt.add hl _ ⟨⟨a.tmps,?_,ai.size,(ai.tok.mono DY).mono qK⟩,?_,λo=> ?_,?_⟩ (λb e=> ?_)
  ·have e:(E1.add l V1.ah).blk s.H.length=d:=(by rw[qK.blk s.H.length (by rw[nW];omega)];exact Dy);rw[e,Env.dO];simp[View.upd]
  ·show s.H.length<E1.n+1;omega
  ·rw[Env.dO];exact hl.2 o
  ·exact Env.dO _ _ _
  ·simp only[bT,Env.dO,Tm]at e;exact e.symm
 have hle:E.Le (E1.add l V1.ah):=DY.trans qK;have cO:(E1.add l V1.ah).blk (s.H.length+1)=l:=by rw[<- nW];exact E1.dO l _
 have LW:(E1.add l V1.ah).blk s.H.length=d:=by rw[qK.blk s.H.length (by rw[nW];omega)];exact Dy
 rw[SC]at b_;have r_:∀E',(E1.add l V1.ah).Le E'->Marks E' (s.H.length::ms) (mark a d).defers:=λE' hE=>by
  refine Marks.mono hE ⟨?_,λi hi=> ?_⟩
  ·have:=(hm.mono hle).1;simp only[mark,U0,LW];rw[<- this]
  ·rcases SK.1 hi with rfl|hi
   ·show _<E1.n+1;omega
   ·exact Tg (hm.2 i hi) hle.n
 have bC:=ap.ev ai.tok hf;have DE:=h l fn (E1.add l V1.ah) (V1.upd l (.loop {state:=.ready,pending:=none,fn,tmps:=a.tmps,params:=ps,assign:=bS,body,defers:=d})) (a.eval f) #[.func (.yield l) #[] #[]] b_ (bC.mono hle) ⟨rfl,λi x hx=>by
  match i,hx with
  |0,hx=>cases hx;exact .fn rfl rfl (by simp) (by simp)⟩
 have key:∀o V',gU (E1.add l V1.ah) (V1.upd l (.loop {state:=.ready,pending:=none,fn,tmps:=a.tmps,params:=ps,assign:=bS,body,defers:=d}))
   (λ_ H'=>∃st pe fG T' jr gA gh fw gk,H'[s.H.length+1]?=some (.loop l st pe fG T' jr gA gh fw gk)/\st≠ .busy/\s7 Φ ⟨s.T,H'.set (s.H.length+1) .gone⟩ (s.H.length::ms) pe)
   (λpv H'=>Φ (.panic pv) ⟨s.T,H'⟩ (s.H.length::ms)) o V'->FX l d Q a o V':=by
  intro o V' hr;cases o with
  |ret v=>
   obtain⟨av,E',H',hE,cq,fg,_,bu,st,pe,fG,T',jr,gA,gh,fw,gk,cg,aP,hp⟩:=hr;obtain⟨dG,nP,rj,bm,Nd,tH,uc⟩:=bu.zO cg;refine⟨_,bm,nP,aP,?_⟩;have hg:Conc E' (V'.upd l (.loop {state:=.exhausted,pending:=pe,fn:=fG,tmps:=rj,params:=gA,assign:=gh,body:=fw,defers:=E'.blk gk})) (H'.set (s.H.length+1) .gone):=bu.Fi _ cg _ (by simp only[bT,dG]);have aV:At E' (V'.upd l (.loop {state:=.exhausted,pending:=pe,fn:=fG,tmps:=rj,params:=gA,assign:=gh,body:=fw,defers:=E'.blk gk})) ⟨s.T,H'.set (s.H.length+1) .gone⟩ (mark a d) nt:=⟨hg,ai.tok.mono (hle.trans hE),ai.size⟩;have eE:rz E E' V (V'.upd l (.loop {state:=.exhausted,pending:=pe,fn:=fG,tmps:=rj,params:=gA,assign:=gh,body:=fw,defers:=E'.blk gk})) a (mark a d):=⟨hle.trans hE,rfl,cq,fg⟩;dsimp only
   match pe,hp,aV,eE with
   |none,hp,aV,eE=>exact hQ .normal .normal E' _ _ _ _ eE aV (r_ E' hE) trivial hp
   |some .ret,hp,aV,eE=>exact hQ .ret .ret E' _ _ _ _ eE aV (r_ E' hE) trivial hp
   |some (.exit i),hp,aV,eE=>exact hQ (.exit i) (.exit i) E' _ _ _ _ eE aV (r_ E' hE) rfl hp
   |some (.goto i),hp,aV,eE=>exact hQ (.goto i) (.goto i) E' _ _ _ _ eE aV (r_ E' hE) rfl hp
  |panic ch=>
   obtain⟨pv,v,E',H',rfl,hE,cq,fg,bx,bu,hp⟩:=hr;exact hQ (.panic pv) (.panic _) E' V' (mark a d) ⟨s.T,H'⟩ _ ⟨hle.trans hE,rfl,cq,fg⟩ ⟨bu,ai.tok.mono (hle.trans hE),ai.size⟩ (r_ E' hE) ⟨v,rfl,bx⟩ hp
 exact DE.mono (λnx V' hn=>Nx.mono key hn) (λv V' hr=>key _ _ hr)
def uF (Φ:an->AS->Prop)(s:AS):Option Uc->Prop
 |none=>Φ .normal s
 |some .ret=>Φ .ret s
 |some (.exit i)=>Φ (.exit i) s
 |some (.goto i)=>Φ (.goto i) s
 |_=>False
theorem agS{f:Tl}{ps:Array Tmp}{bS body:Uc}{fv:AV}{Φ:an->AS->Prop}{l0 HX Lh Ov df:Nat}{Pq:af'}{OJ:Option Uc}{T0:List (Nat×AV)}{O2:Array Tmp}{JV J_:Uc}(hf:s.ev f=some fv)(h0:s.H[HX]?=some (.loop l0 Pq OJ Lh T0 Ov O2 JV J_ df))
  (h:∀l fn:Nat,je lv P fv (s.H++[.loop l .ready none fn s.T nt ps bS body df]) [.fn (.yield l) [] []]
   (λ_ H'=>∃st pe fG T' jr gA gh fw gk,H'[s.H.length]?=some (.loop l st pe fG T' jr gA gh fw gk)/\st≠ .busy/\uF Φ ⟨s.T,H'.set s.H.length .gone⟩ pe)
   (λpv H'=>Φ (.panic pv) ⟨s.T,H'⟩)):aR lv P (some l0) nt (.rangeFunc f ps bS body) s Φ:=by
 intro E V a Q ai hQ;have hc:=ai.bz;obtain⟨qF,als,avM,ho0,Nf,hT0,_⟩:=hc.zO h0;obtain⟨_,bC,_⟩:=hc.obj HX _ h0;refine aue ho0 als λfn l hl=> ?_;have hle:E.Le (E.add l V.ah):=E.qX l (λb o v h=>by rw[<- hc.I];exact h);have cO:(E.add l V.ah).blk s.H.length=l:=by rw[<- hc.n];exact E.dO l _
 have b_:Conc (E.add l V.ah) (V.upd l (.loop {state:=.ready,pending:=none,fn,tmps:=a.tmps,params:=ps,assign:=bS,body,defers:=E.blk df})) (s.H++[.loop l .ready none fn s.T nt ps bS body df]):=by
  refine hc.add hl _ ⟨⟨a.tmps,?_,ai.size,ai.tok.mono hle⟩,?_,λo=> ?_,?_⟩ (λb e=> ?_)
  ·rw[Env.dO,hle.blk df bC];simp[View.upd]
  ·show df<E.n+1;omega
  ·rw[Env.dO];exact hl.2 o
  ·exact Env.dO _ _ _
  ·simp only[bT,Env.dO,Tm]at e;exact e.symm
 have alL:=ap.ev ai.tok hf;have DE:=h l fn (E.add l V.ah) (V.upd l (.loop {state:=.ready,pending:=none,fn,tmps:=a.tmps,params:=ps,assign:=bS,body,defers:=E.blk df})) (a.eval f) #[.func (.yield l) #[] #[]] b_ (alL.mono hle) ⟨rfl,λi x hx=>by
  match i,hx with
  |0,hx=>cases hx;exact .fn rfl rfl (by simp) (by simp)⟩
 have key:∀o V',gU (E.add l V.ah) (V.upd l (.loop {state:=.ready,pending:=none,fn,tmps:=a.tmps,params:=ps,assign:=bS,body,defers:=E.blk df}))
   (λ_ H'=>∃st pe fG T' jr gA gh fw gk,H'[s.H.length]?=some (.loop l st pe fG T' jr gA gh fw gk)/\st≠ .busy/\uF Φ ⟨s.T,H'.set s.H.length .gone⟩ pe)
   (λpv H'=>Φ (.panic pv) ⟨s.T,H'⟩) o V'->xX l Q a o V':=by
  intro o V' hr;cases o with
  |ret v=>
   obtain⟨av,E',H',hE,cq,fg,_,bu,st,pe,fG,T',jr,gA,gh,fw,gk,cg,aP,hp⟩:=hr;obtain⟨dG,nP,rj,bm,Nd,tH,uc⟩:=bu.zO cg;refine⟨_,bm,nP,aP,?_⟩;have hg:Conc E' (V'.upd l (.loop {state:=.exhausted,pending:=pe,fn:=fG,tmps:=rj,params:=gA,assign:=gh,body:=fw,defers:=E'.blk gk})) (H'.set s.H.length .gone):=bu.Fi _ cg _ (by simp only[bT,dG]);have aV:At E' (V'.upd l (.loop {state:=.exhausted,pending:=pe,fn:=fG,tmps:=rj,params:=gA,assign:=gh,body:=fw,defers:=E'.blk gk})) ⟨s.T,H'.set s.H.length .gone⟩ a nt:=⟨hg,ai.tok.mono (hle.trans hE),ai.size⟩;have eE:Kept E E' V (V'.upd l (.loop {state:=.exhausted,pending:=pe,fn:=fG,tmps:=rj,params:=gA,assign:=gh,body:=fw,defers:=E'.blk gk})) a a:=⟨hle.trans hE,rfl,rfl,cq,fg⟩;dsimp only
   match pe,hp,aV,eE with
   |none,hp,aV,eE=>exact hQ .normal .normal E' _ _ _ eE aV trivial hp
   |some .ret,hp,aV,eE=>exact hQ .ret .ret E' _ _ _ eE aV trivial hp
   |some (.exit i),hp,aV,eE=>exact hQ (.exit i) (.exit i) E' _ _ _ eE aV rfl hp
   |some (.goto i),hp,aV,eE=>exact hQ (.goto i) (.goto i) E' _ _ _ eE aV rfl hp
  |panic ch=>
   obtain⟨pv,v,E',H',rfl,hE,cq,fg,bx,bu,hp⟩:=hr;exact hQ (.panic pv) (.panic _) E' V' a ⟨s.T,H'⟩ ⟨hle.trans hE,rfl,rfl,cq,fg⟩ ⟨bu,ai.tok.mono (hle.trans hE),ai.size⟩ ⟨v,rfl,bx⟩ hp
 exact DE.mono (λnx V' hn=>Nx.mono key hn) (λv V' hr=>key _ _ hr)
def x8 (P:SI)(fn:YL)(R:Out->View->Prop):List U8->Vk->Array SP->View->Prop
 |[],.returning,tmps,V=>∃v,aS P V (results fn tmps) (λx V'=>x=v/\V'=V) (λ_ _=>False)/\R (.ret v) V
 |[],.panicking ch,_,V=>R (.panic ch) V
 |d::ds,md,tmps,V=>(md matches .run)=false/\∃b,d={target:=.collected b,args:=#[]}/\V.own b=some (.deferred (some []))/\V.role.chan≠some b/\x8 P fn R ds md tmps (V.upd b (.deferred none))
 |[],.run,_,_=>False
theorem Jd{f:TY}{fn:YL}{kd:Xm}{R:Out->View->Prop}(hf:P.funcs[f]?=some fn){main:Bool}{J:View->SG->Prop}(C:Closed lv P main J){cs:List Ug}(hR:∀o V' Db,R o V'->Leaves P Db f kd o V'->J V' (G Db cs)):∀(ds:List U8)(md:Vk)(V:View)(fr:Ug),fr.fn=f->fr.kind=kd->fr.mode=md->fr.defers=ds->x8 P fn R ds md fr.tmps V->J V (G fr cs)
 |[],.returning,V,fr,h1,h2,h3,h4,h=>by
  obtain⟨v,hs,hr⟩:=h;exact hR _ _ _ hr ⟨h1,h4,h2,fn,hf,h3,hs⟩
 |[],.panicking ch,V,fr,h1,h2,h3,h4,h=>hR _ _ _ h ⟨h1,h4,h2,fn,hf,h3⟩
 |[],.run,_,_,_,_,_,_,h=>h.elim
 |d::ds,md,V,fr,h1,h2,h3,h4,h=>by
  obtain⟨hm,b,rfl,ho,ff,hu⟩:=h;refine C.step _ _ rfl λw hw=> ?_;obtain⟨es,w',V',k1,k2,k3⟩:=(Pf (P:=P) ho ff).runs hw;rcases k3 with⟨x,k3,rfl,rfl⟩|⟨_,_,hx⟩
  ·refine⟨G {fr with defers:=ds} cs,w',seen P fr.fn es,_,?_,k1.seen P fr.fn,?_⟩
   ·have e:∀main,stepG P main (G fr cs) w=unwind P main fr cs none w:=λmain=>by
     cases md with
     |run=>cases hm
     |returning=>simp[G,stepG,h3]
     |panicking ch=>simp[G,stepG,h3]
    rw[e];simp only[unwind,h4];simp[TE,k3,k2,T_,G]
   ·exact Jd hf C hR ds md _ {fr with defers:=ds} h1 h2 h3 rfl hu
  ·exact hx.elim
def afa (P:SI)(fn:YL)(R:Out->View->Prop):Ex->Act->View->Prop
 |.normal,a,V|.ret,a,V=>x8 P fn R a.defers .returning a.tmps V
 |.panic ch,a,V=>x8 P fn R a.defers (.panicking ch) a.tmps V
 |_,_,_=>False
theorem ahA{f:TY}{fn:YL}{c:Uc}{args:Array SP}{kd:Xm}{V:View}{R:Out->View->Prop}(hk:kd≠ .early)(hf:P.funcs[f]?=some fn)(hb:fn.body=some c)
  (h:WP lv P none c (afa P fn R) {tmps:=args++TS (fn.ntmps-args.size) undef,defers:=[]} V):Body lv P f args kd V R:=by
 intro main J C cs hR;let b:Ug:={(default:Ug)with fn:=f,kind:=kd,roundOf:=none};have vc:Frame.enter P f args kd=on b {tmps:=args++TS (fn.ntmps-args.size) undef,defers:=[]} [.code c]:=by
  simp[Frame.enter,on,hf,hb,b]
 rw[vc];refine h main J C b [] cs hk rfl λe a' V' q=> ?_;cases e with
 |normal=>exact C.idle rfl (λw=>Fe rfl) (Jd hf C hR _ _ _ _ rfl rfl rfl rfl q)
 |ret=>intro k;exact C.idle rfl (λw=>Ff rfl) (Jd hf C hR _ _ _ _ rfl rfl rfl rfl q)
 |panic ch=>intro todo _;exact Jd hf C hR _ _ _ _ rfl rfl rfl rfl q
 |exit id=>exact q.elim
 |goto l=>exact q.elim
def iS:List Nat->List aa->Option (List aa)
 |[],H=>some H
 |i::ms,H=>match H[i]?with
  |some (.obj (.deferred (some [])))=>iS ms (H.set i .gone)
  |_=>none
def sW (P:SI)(rs:List UU)(n:Nat)(k kp:AV->List aa->Prop):an->AS->List Nat->Prop
 |.normal,s,ms|.ret,s,ms=>ao (iS ms s.H) λH'=>ao (ig P ⟨s.T,H'⟩ rs) λl=>cH n H' (jc l) k
 |.panic pv,s,ms=>ao (iS ms s.H) λH'=>cH n H' pv kp
 |_,_,_=>False
theorem PG{fn:YL}{R:Out->View->Prop}{tmps:Array SP}{md:Vk}(hm:(md matches .run)=false):∀(ms:List Nat)(H H':List aa)(E:Env)(V:View)(l:List U8),iS ms H=some H'->Conc E V H->Marks E ms l->(∀V',V'.role=V.role->V'.deaf=V.deaf->Conc E V' H'->x8 P fn R [] md tmps V')->x8 P fn R l md tmps V
 |[],H,H',E,V,l,hg,hc,mu,hk=>by
  cases hg;have:l=[]:=mu.1;subst this;exact hk V rfl rfl hc
 |i::ms,H,H',E,V,l,hg,hc,mu,hk=>by
  simp only[iS]at hg;split at hg
  ·rename_i hi;obtain⟨e,hlt⟩:=mu;simp only[U0]at e;subst e;obtain⟨p1,p2,p3,p4⟩:=hc.obj i _ hi;exact⟨hm,_,rfl,p1,(hc.jq hi rfl).2,PG hm ms _ H' E _ _ hg (hc.Fi _ hi _ rfl) ⟨rfl,λj hj=>hlt j (by simp[hj])⟩ λV' h1 h2 h3=>hk V' h1 h2 h3⟩
  ·cases hg
theorem Sw{f:TY}{fn:YL}{c:Uc}{rs:List UU}{nt:Nat}{H:List aa}{args:List AV}{k kp:AV->List aa->Prop}(hf:P.funcs[f]?=some fn)(hb:fn.body=some c)(hr:fn.results=rs.toArray)(hn:fn.ntmps=nt)(cN:args.length<=nt)
  (h:bJ H->(∀a∈args,Lt H.length a)->mL lv P nt c ⟨bp 0 args,H⟩ [] (sW P rs H.length k kp)):ba lv P f H args k kp:=by
 intro E V vs hc hd;have hlt:∀a∈args,Lt H.length a:=λa ha=>by
  obtain⟨i,hi⟩:=p9 ha;rw[<- hc.n];exact(hd.2 i a hi).lt
 have ai:=CR (nt:=nt) hc hd cN;refine ahA (by simp) hf hb ?_;rw[hn];refine h hc.aq hlt E V _ _ ai ⟨rfl,by simp⟩ λae e E' V' a' s' cF hk aV fY he hΦ=> ?_;have fin:sW P rs H.length k kp .ret s' cF->x8 P fn (gU E V k kp) a'.defers .returning a'.tmps V':=λhΦ=>by
  obtain⟨H',hg,hΦ⟩:=ao.out hΦ;exact PG rfl cF _ H' E' V' _ hg aV.bz fY λaU h1 h2 h3=>adn (s':=⟨s'.T,H'⟩) (a':=a') hr ⟨h3,aV.tok,aV.size⟩ hk.le hc.n (h1.trans hk.role) (h2.trans hk.deaf) hΦ
 cases ae<;>cases e<;>first
  |exact he.elim
  |exact fin hΦ
  |exact hΦ.elim
  |skip
 rename_i pv ch;obtain⟨v,ff,bx⟩:∃v,ch=[{v,recovered:=false}]/\ap E' pv v:=he;subst ff;obtain⟨H',hg,hΦ⟩:=ao.out hΦ;refine PG rfl cF _ H' E' V' _ hg aV.bz fY λaU h1 h2 h3=> ?_;obtain⟨b,bY,uC,r1,r2,r3,r4⟩:=yl hΦ h3 bx hk.le hc.n;exact⟨b,v,bY,uC,rfl,r1,h1.trans hk.role,h2.trans hk.deaf,r2,r3,r4⟩
end
def Env.frame (E:Env)(f:Nat->Option Obj):Env:={E with fr:=f}
theorem ap.frame{E:Env}{a:AV}{v:SP}(h:ap E a v)(f:Nat->Option Obj):ap (E.frame f) a v:=by
 induction h with
 |val x=>exact .val x
 |agg hs _ ih=>exact .agg hs ih
 |aQ hs _ ih=>exact .aQ hs ih
 |sl b o cap g hc he h1 _ ih=>exact .sl b o cap g hc (by cases ku:‹End›<;>(subst ku;exact he)) h1 ih
 |nil he=>exact .nil (by cases ku:‹End›<;>(subst ku;exact he))
 |bA hi dR=>exact .bA (E:=E.frame f) hi dR
 |rp b o g h1 _ ih=>exact .rp b o g h1 ih
 |op hi=>exact .op (E:=E.frame f) hi
 |fn dT fZ _ _ m_ lB=>exact .fn dT fZ m_ lB
 |cZ _ ih=>exact .cZ ih
 |mp hi=>exact .mp (E:=E.frame f) hi
theorem cK.frame{E:Env}{l:List AV}{cs:Array SP}(h:cK E l cs)(f:Nat->Option Obj):cK (E.frame f) l cs:=⟨h.1,λi a e=>(h.2 i a e).frame f⟩
theorem j8.frame{E:Env}{l:List AV}{cs:Array SP}(h:j8 E l cs)(f:Nat->Option Obj):j8 (E.frame f) l cs:=⟨h.1,λi a e=>(h.2 i a e).frame f⟩
theorem cr.frame{E:Env}{T:List (Nat×AV)}{tmps:Array SP}(h:cr E T tmps)(f:Nat->Option Obj):cr (E.frame f) T tmps:=λt a e=>⟨(h t a e).1,(h t a e).2.frame f⟩
theorem wy(E:Env)(f:Nat->Option Obj)(k:Nat)(x:aa):bT (E.frame f) k x=bT E k x:=by cases x<;>rfl
theorem fS.frame{E:Env}{V:View}{k:Nat}{x:aa}(h:fS E V k x)(f:Nat->Option Obj):fS (E.frame f) V k x:=by
 cases x with
 |cells l el=>obtain⟨⟨cs,h1,h2⟩,h3⟩:=h;exact⟨⟨cs,h1,h2.frame f⟩,h3⟩
 |part p l el=>obtain⟨⟨cs,h1,h2,h4⟩,h3⟩:=h;exact⟨⟨cs,h1,h2.frame f,h4⟩,h3⟩
 |own sz l el=>obtain⟨⟨cs,h1,h2,h4⟩,h3⟩:=h;exact⟨⟨cs,h1,h2.frame f,h4⟩,h3⟩
 |tail n sz el=>exact h
 |obj x=>exact h
 |iter=>exact h
 |loop=>obtain⟨⟨tmps,h1,h2,h3⟩,h4,h5⟩:=h;exact⟨⟨tmps,h1,h2,h3.frame f⟩,h4,h5⟩
 |gone=>trivial
 |main=>exact h
theorem Conc.zJ{E:Env}{V V':View}{H:List aa}(h:Conc E V H)(f:Nat->Option Obj)(hI:V'.ah=V.ah)
  (ho:∀b x k y,H[k]?=some y->bT E k y=some b->V.own b=some x->V'.own b=some x)
  (hg:∀g,V'.role.group=some g->V'.own g≠none/\(∀o,V'.ah g o=none)/\∀(k:Nat) x,H[k]?=some x->bT E k x≠some g)
  (hc:∀g,V'.role.chan=some g->V'.own g≠none/\(∀o,V'.ah g o=none)/\∀(k:Nat) x,H[k]?=some x->bT E k x≠some g)
  (ht:E.main=true->V'.role=.plain/\V'.deaf=0) (hf:∀b y,f b=some y->V'.own b=some y/\(∀o,V'.ah b o=none)/\∀(k:Nat) x,H[k]?=some x->bT E k x≠some b):Conc (E.frame f) V' H:=by
 have hlt:∀(k:Nat) y,H[k]?=some y->k<E.n:=λk y e=>by rw[h.n];exact(SL.1 e).1
 refine⟨by rw[hI];exact h.I,h.n,λk x e=>fS.frame ((h.obj k x e).mono (Env.Le.refl E) (hlt k x e) rfl (λb y hb hy=>ho b y k x e hb hy) (λb _ o=>by rw[hI])) f,λi j x y b h1 h2 h3 h4=> ?_,λg e=> ?_,λg e=> ?_,ht,λb y e=> ?_⟩
 ·rw[wy]at h3 h4;exact h.inj i j x y b h1 h2 h3 h4
 ·obtain⟨a,b,c⟩:=hg g e;exact⟨a,b,λk x e=>by rw[wy];exact c k x e⟩
 ·obtain⟨a,b,c⟩:=hc g e;exact⟨a,b,λk x e=>by rw[wy];exact c k x e⟩
 ·obtain⟨a,b',c⟩:=hf b y e;exact⟨a,b',λk x e=>by rw[wy];exact c k x e⟩
theorem Conc.ES{E:Env}{V:View}{H:List aa}(h:Conc E V H){b:Nat}{x:Obj}(hb:E.fr b=some x){k:Nat}{y:aa}(hk:H[k]?=some y){b':Nat}(dG:bT E k y=some b'):b'≠b:=λe=>by subst e;exact(h.fr _ x hb).2.2 k y hk dG
theorem Conc.akK{E:Env}{V:View}{H:List aa}(h:Conc E V H){b:Nat}{x:Obj}(hb:E.fr b=some x)(y:Obj):Conc (E.frame λb'=>if b'=b then some y else E.fr b') (V.upd b y) H:=by
 obtain⟨p1,p2,p3⟩:=h.fr b x hb;refine h.zJ _ rfl (λb' z k w hk kH hz=> ?_) (λg hg=> ?_) (λg hg=> ?_) h.top (λb' z hz=> ?_)
 ·have:b'≠b:=h.ES hb hk kH;simpa[View.upd,this]using hz
 ·obtain⟨q1,q2,q3⟩:=h.group g hg;refine⟨?_,q2,q3⟩;simp only[View.upd];split
  ·simp
  ·exact q1
 ·obtain⟨q1,q2,q3⟩:=h.chan g hg;refine⟨?_,q2,q3⟩;simp only[View.upd];split
  ·simp
  ·exact q1
 ·by_cases e:b'=b
  ·subst e;rw[if_pos rfl]at hz;cases hz;exact⟨by simp[View.upd],p2,p3⟩
  ·rw[if_neg e]at hz;obtain⟨q1,q2,q3⟩:=h.fr b' z hz;exact⟨by simpa[View.upd,e]using q1,q2,q3⟩
theorem Conc.akI{E:Env}{V:View}{H:List aa}(h:Conc E V H){b:Nat}(hb:V.fresh b)(y:Obj):Conc (E.frame λb'=>if b'=b then some y else E.fr b') (V.upd b y) H:=by
 have aH:∀(k:Nat) x,H[k]?=some x->bT E k x≠some b:=λk x hk e=>by
  obtain⟨z,hz⟩:=(h.obj k x hk).CX e;rw[hb.1]at hz;cases hz
 refine h.zJ _ rfl (λb' z k w hk kH hz=> ?_) (λg hg=> ?_) (λg hg=> ?_) h.top (λb' z hz=> ?_)
 ·have:b'≠b:=λe=>by subst e;exact aH k w hk kH
  simpa[View.upd,this]using hz
 ·obtain⟨q1,q2,q3⟩:=h.group g hg;refine⟨?_,q2,q3⟩;simp only[View.upd];split
  ·simp
  ·exact q1
 ·obtain⟨q1,q2,q3⟩:=h.chan g hg;refine⟨?_,q2,q3⟩;simp only[View.upd];split
  ·simp
  ·exact q1
 ·by_cases e:b'=b
  ·subst e;rw[if_pos rfl]at hz;cases hz;exact⟨by simp[View.upd],hb.2,aH⟩
  ·rw[if_neg e]at hz;obtain⟨q1,q2,q3⟩:=h.fr b' z hz;exact⟨by simpa[View.upd,e]using q1,q2,q3⟩
theorem Conc.akJ{E:Env}{V:View}{H:List aa}(h:Conc E V H){id:Nat}{l:List AV}{el:TypeId}(hk:H[id]?=some (.cells l el)):∃cs,cK E l cs/\V.own (E.blk id)=some (.cells cs el (0,0))/\(∀o,V.ah (E.blk id) o=none)/\
  Conc (E.frame λb'=>if b'=E.blk id then some (.cells cs el (0,0))else E.fr b') V (H.set id .gone):=by
 obtain⟨⟨cs,h1,h2⟩,h3⟩:=h.obj id _ hk;refine⟨cs,h2,h1,h3,?_⟩;have hg:Conc E V (H.set id .gone):=by
  refine h.iO id .gone (Env.Le.refl E) h.I (by simpa using h.n) lD rfl (λ_ _ _=>rfl) (λb y _ hy=>⟨hy,λ_=>rfl⟩) trivial (λb e=>by cases e)
 have aH:∀(k:Nat) x,(H.set id .gone)[k]?=some x->bT E k x≠some (E.blk id):=λk x hx e=>by
  rcases lD k x hx with⟨rfl,rfl⟩|⟨aH,hx⟩
  ·cases e
  ·exact aH (h.inj k id x _ _ hx hk e rfl)
 refine hg.zJ _ rfl (λ_ _ _ _ _ _ hz=>hz) hg.group hg.chan h.top (λb' z hz=> ?_);by_cases e:b'=E.blk id
 ·subst e;rw[if_pos rfl]at hz;cases hz;exact⟨h1,h3,aH⟩
 ·rw[if_neg e]at hz;exact hg.fr b' z hz
theorem Conc.IP{E:Env}{V:View}{H:List aa}(h:Conc E V H){id:Nat}{l:List AV}{el:TypeId}(hk:H[id]?=some (.cells l el))(p:Nat)(hp:p<=l.length):∃V',dY V V'/\V'.own=V.own/\V'.role=V.role/\V'.deaf=V.deaf/\E.Le {E with I:=V'.ah}/\Conc {E with I:=V'.ah} V' (H.set id (.part p l el))/\
  ap {E with I:=V'.ah} (.rp (l.take p)) (.pointer (some ⟨E.blk id,0,none⟩)):=by
 obtain⟨⟨cs,h1,h2⟩,h3⟩:=h.obj id _ hk;let V':=V.eP (E.blk id) cs λo=>decide (o<p);have lr:∀b o,b≠E.blk id->V'.ah b o=V.ah b o:=λb o hb=>by simp[V',View.eP,hb]
 have cw:∀o,o<p->V'.ah (E.blk id) o=cs[o]?:=λo ho=>by simp[V',View.eP,ho]
 have amv:∀o,p<=o->V'.ah (E.blk id) o=none:=λo ho=>by simp[V',View.eP,Nat.not_lt.2 ho,h3]
 have hle:E.Le {E with I:=V'.ah}:=⟨λb o v e=>by
  rw[h.I]at e;have hb:b≠E.blk id:=λhb=>by subst hb;rw[h3]at e;cases e
  show V'.ah b o=some v;rw[lr b o hb];exact e,SO _,λ_ _=>rfl,λ_ _=>SO _,λ_ _ _ _=>rfl,rfl,rfl⟩
 refine⟨V',yx h1 (λo _=>h3 o),rfl,rfl,rfl,hle,?_,?_⟩
 ·refine h.iO (E':={E with I:=V'.ah}) id (.part p l el) hle rfl (by simpa using h.n) lD rfl (λ_ _ _=>rfl) (λb y hb hy=>⟨hy,λo=>lr b o λe=>hb _ hk (by rw[e];rfl)⟩) ⟨⟨cs,h1,(h2.mono hle).p,cw⟩,amv⟩ (λb e=> .inl ⟨_,hk,e⟩)
 ·refine .rp (E.blk id) 0 (λi=>cs.getD i undef) (λi hi=> ?_) λi x hx=> ?_
  ·have cE:i<p:=(by simp at hi;omega);rw[Wv];show V'.ah (E.blk id) i=_;rw[cw i cE];have:i<cs.size:=(by have:=h2.1;omega);simp[SH,SJ this]
  ·rw[Ui]at hx;split at hx
   ·exact(h2.2 i x hx).mono hle
   ·cases hx
theorem Conc.aoc{E:Env}{V V':View}{H:List aa}(h:Conc E V H)(ho:V'.own=V.own)(lr:∀b o v,V.ah b o=some v->V'.ah b o=some v)(eF:∀b o,V.own b≠none->V.ah b o=none->V'.ah b o=none)
  (hg:V'.role.group=none) (hc:V'.role.chan=none) (ht:E.main=true->V'.role=.plain/\V'.deaf=0):E.Le {E with I:=V'.ah}/\Conc {E with I:=V'.ah} V' H:=by
 have hle:E.Le {E with I:=V'.ah}:=⟨λb o v e=>by rw[h.I]at e;exact lr b o v e,SO _,λ_ _=>rfl,λ_ _=>SO _,λ_ _ _ _=>rfl,rfl,rfl⟩;have hlt:∀(k:Nat) y,H[k]?=some y->k<E.n:=λk y e=>by rw[h.n];exact(SL.1 e).1
 have key:∀b o,V.own b≠none->V'.ah b o=V.ah b o:=λb o hb=>by
  cases e:V.ah b o with
  |none=>exact eF b o hb e
  |some v=>exact lr b o v e
 refine⟨hle,rfl,h.n,λk x e=>(h.obj k x e).mono hle (hlt k x e) rfl (λb y _ hy=>by rw[ho];exact hy) (λb hb o=> ?_),h.inj,λg e=>(by rw[hg]at e;cases e),λg e=>(by rw[hc]at e;cases e),ht,λb y e=> ?_⟩
 ·obtain⟨y,hy⟩:=(h.obj k x e).CX hb;exact key b o (by rw[hy];simp)
 ·obtain⟨q1,q2,q3⟩:=h.fr b y e;exact⟨by rw[ho];exact q1,λo=>by rw[key b o (by rw[q1];simp)];exact q2 o,q3⟩
section
variable {lv:Bool}{P:SI}{nt id:Nat}{ops:Array Tx}{s:AS}{E:Env}{V:View}{a:Act}{Q:Ex->Act->View->Prop}{K:AS->Prop}
theorem Jk(n m:Nat)(hn:ops.size=n+m)(du:jT nt ops=true)(ai:At E V s a nt)(h:iF lv P ops (ops.toList.take n) s K (λ_ _=>False))
  (hk:∀E' V' a' s',Kept E E' V V' a a'->At E' V' s' a' nt->K s'->dq lv P none ops Q (Ub n m) a' V'):WP lv P none (.region id ops false) Q a V:=by
 refine wp_region ?_;have hr:SR ops.size=Ub 0 n++Ub n m:=by
  have:=Zi (s:=0) (m:=n) (n:=m);rw[Vx,hn,<- this];simp
 rw[hr];refine Ce _ _ _ (IA (r:=none) (Φ:=λe s'=>match e with
  |.normal=>K s'
  |_=>False) (λo ho d e=>(jT.out du ho).1 d e) rfl n 0 s (by omega) (by simpa using h) E V a _ ai λae e E' V' a' s' aJ aV he hΦ=> ?_)
 cases ae<;>cases e<;>first
  |exact he.elim
  |exact hΦ.elim
  |exact hk E' V' a' s' aJ aV hΦ
theorem PQ{n:Nat}{o:Tx}(ho:ops[n]?=some o)(hg:o.guard=none)(h:wq lv P o a V λa' V'=>Q .normal a' V'):dq lv P none ops Q (Ub n 1) a V:=by
 simp only[List.range'_one,dq,ho];rw[if_pos (by unfold Tj;rw[hg])];exact .inr h
end
section
variable {lv main:Bool}{P:SI}{J:View->SG->Prop}
theorem aeR(C:Closed lv P main J){V:View}{fr:Ug}{cs:List Ug}{g:TY}{ca aG:Array SP}{ds:List U8}(hd:fr.defers=⟨.fn (.func g) ca,aG⟩::ds)(hm:(fr.mode matches .run)=false)(hg:rn P g=true)
  (h:J V (G (Frame.enter P g (aG++ca) .deferred) ({fr with defers:=ds}::cs))):J V (G fr cs):=by
 refine C.step _ _ rfl λw hw=> ?_;have hs:aS P V (invoke (.fn (.func g) ca) aG) (λnx V'=>nx=.enter g (aG++ca)/\V'=V) (λ_ _=>False):=by
  unfold invoke;exact Pb hg ⟨rfl,rfl⟩
 obtain⟨es,w',V',k1,k2,k3⟩:=hs.runs hw;rcases k3 with⟨nx,k3,rfl,rfl⟩|⟨_,_,h⟩
 ·refine⟨G (Frame.enter P g (aG++ca) .deferred) ({fr with defers:=ds}::cs),w',seen P fr.fn es,V',?_,k1.seen P fr.fn,h⟩;have e:stepG P main (G fr cs) w=unwind P main fr cs none w:=by
   obtain⟨fn,tmps,todo,defers,mode,kind,ro⟩:=fr;cases mode with
   |run=>cases hm
   |returning=>simp[G,stepG]
   |panicking ch=>simp[G,stepG]
  rw[e];simp only[unwind,hd];simp[callDeferred,TE,k3,k2,T_,G]
 ·exact h.elim
theorem aiF(C:Closed lv P main J){f:TY}{fn:YL}{c:Uc}{args:Array SP}{kd:Xm}{V:View}{cs:List Ug}{Q:Act->View->Prop}(hk:kd≠ .early)(hf:P.funcs[f]?=some fn)(hb:fn.body=some c)
  (h:WP lv P none c (λe a V=>(match e with|.normal|.ret=>True|_=>False)/\Q a V) {tmps:=args++TS (fn.ntmps-args.size) undef,defers:=[]} V)
  (hQ:∀a V todo,Q a V->J V (G {fn:=f,tmps:=a.tmps,todo,defers:=a.defers,mode:=.returning,kind:=kd,roundOf:=none} cs)):J V (G (Frame.enter P f args kd) cs):=by
 let b:Ug:={(default:Ug)with fn:=f,kind:=kd,roundOf:=none};have vc:Frame.enter P f args kd=on b {tmps:=args++TS (fn.ntmps-args.size) undef,defers:=[]} [.code c]:=by
  simp[Frame.enter,on,hf,hb,b]
 rw[vc];refine h main J C b [] cs hk rfl λe a' V' q=> ?_;cases e with
 |normal=>exact C.idle rfl (λw=>Fe rfl) (hQ a' V' [] q.2)
 |ret=>intro k;exact C.idle rfl (λw=>Ff rfl) (hQ a' V' (.code .ret::k) q.2)
 |panic ch=>exact q.1.elim
 |exit id=>exact q.1.elim
 |goto l=>exact q.1.elim
end
def Env.fu (E:Env)(m:Bool):Env:={E with main:=m}
theorem ap.fu{E:Env}{a:AV}{v:SP}(h:ap E a v)(m:Bool):ap (E.fu m) a v:=by
 induction h with
 |val x=>exact .val x
 |agg hs _ ih=>exact .agg hs ih
 |aQ hs _ ih=>exact .aQ hs ih
 |sl b o cap g hc he h1 _ ih=>exact .sl b o cap g hc (by cases ku:‹End›<;>(subst ku;exact he)) h1 ih
 |nil he=>exact .nil (by cases ku:‹End›<;>(subst ku;exact he))
 |bA hi dR=>exact .bA (E:=E.fu m) hi dR
 |rp b o g h1 _ ih=>exact .rp b o g h1 ih
 |op hi=>exact .op (E:=E.fu m) hi
 |fn dT fZ _ _ m_ lB=>exact .fn dT fZ m_ lB
 |cZ _ ih=>exact .cZ ih
 |mp hi=>exact .mp (E:=E.fu m) hi
theorem cK.fu{E:Env}{l:List AV}{cs:Array SP}(h:cK E l cs)(m:Bool):cK (E.fu m) l cs:=⟨h.1,λi a e=>(h.2 i a e).fu m⟩
theorem j8.fu{E:Env}{l:List AV}{cs:Array SP}(h:j8 E l cs)(m:Bool):j8 (E.fu m) l cs:=⟨h.1,λi a e=>(h.2 i a e).fu m⟩
theorem cr.fu{E:Env}{T:List (Nat×AV)}{tmps:Array SP}(h:cr E T tmps)(m:Bool):cr (E.fu m) T tmps:=λt a e=>⟨(h t a e).1,(h t a e).2.fu m⟩
theorem wz(E:Env)(m:Bool)(k:Nat)(x:aa):bT (E.fu m) k x=bT E k x:=by cases x<;>rfl
theorem fS.fu{E:Env}{V:View}{k:Nat}{x:aa}(h:fS E V k x)(m:Bool)(hm:x=.main->m=true):fS (E.fu m) V k x:=by
 cases x with
 |cells l el=>obtain⟨⟨cs,h1,h2⟩,h3⟩:=h;exact⟨⟨cs,h1,h2.fu m⟩,h3⟩
 |part p l el=>obtain⟨⟨cs,h1,h2,h4⟩,h3⟩:=h;exact⟨⟨cs,h1,h2.fu m,h4⟩,h3⟩
 |own sz l el=>obtain⟨⟨cs,h1,h2,h4⟩,h3⟩:=h;exact⟨⟨cs,h1,h2.fu m,h4⟩,h3⟩
 |tail n sz el=>exact h
 |obj x=>exact h
 |iter=>exact h
 |loop=>obtain⟨⟨tmps,h1,h2,h3⟩,h4,h5⟩:=h;exact⟨⟨tmps,h1,h2,h3.fu m⟩,h4,h5⟩
 |gone=>trivial
 |main=>exact hm rfl
def strip:aa->aa
 |.main=> .gone
 |x=>x
theorem uL(E:Env)(k:Nat)(x:aa):bT E k (strip x)=bT E k x:=by cases x<;>rfl
theorem Conc.ah7{E:Env}{V:View}{H:List aa}(h:Conc E V H):Conc (E.fu false) V (H.map strip):=by
 have get:∀(k:Nat) y,(H.map strip)[k]?=some y->∃x,H[k]?=some x/\strip x=y:=λk y e=>by
  rw[Tp]at e;obtain⟨x,e1,e2⟩:=Ts.1 e;exact⟨x,e1,e2⟩
 refine⟨h.I,by rw[Ta];exact h.n,λk y e=> ?_,λi j x y b h1 h2 h3 h4=> ?_,λg hg=> ?_,λg hg=> ?_,(λe=>by cases e),λb y e=> ?_⟩
 ·obtain⟨x,hx,rfl⟩:=get k y e;have lU:=h.obj k x hx;cases x<;>first
   |exact fS.fu lU false (λe=>by cases e)
   |exact True.intro
 ·obtain⟨x',hx,rfl⟩:=get i x h1;obtain⟨y',hy,rfl⟩:=get j y h2;rw[wz,uL]at h3 h4;exact h.inj i j x' y' b hx hy h3 h4
 ·obtain⟨a,b,c⟩:=h.group g hg;exact⟨a,b,λk y e=>by obtain⟨x,hx,rfl⟩:=get k y e;rw[wz,uL];exact c k x hx⟩
 ·obtain⟨a,b,c⟩:=h.chan g hg;exact⟨a,b,λk y e=>by obtain⟨x,hx,rfl⟩:=get k y e;rw[wz,uL];exact c k x hx⟩
 ·obtain⟨a,b',c⟩:=h.fr b y e;exact⟨a,b',λk y e=>by obtain⟨x,hx,rfl⟩:=get k y e;rw[wz,uL];exact c k x hx⟩
theorem Conc.aq8{E:Env}{V:View}{H:List aa}(h:Conc E V (H.map strip))(m:Bool)(f:Nat->Option Obj)(hm:∀(k:Nat),H[k]?=some aa.main->m=true)(ht:m=true->V.role=.plain/\V.deaf=0)(hf:∀b y,f b=some y->E.fr b=some y):Conc ((E.fu m).frame f) V H:=by
 have get:∀(k:Nat) x,H[k]?=some x->(H.map strip)[k]?=some (strip x):=λk x e=>by rw[Tp,e];rfl
 refine⟨h.I,h.n.trans (by rw[Ta]),λk x e=>fS.frame ?_ f,λi j x y b h1 h2 h3 h4=> ?_,λg hg=> ?_,λg hg=> ?_,ht,λb y e=> ?_⟩
 ·have lU:=h.obj k _ (get k x e);cases x<;>first
   |exact fS.fu lU m (λe=>by cases e)
   |exact hm k e
 ·rw[wy,wz]at h3 h4;exact h.inj i j _ _ b (get i x h1) (get j y h2) (by rw[uL];exact h3) (by rw[uL];exact h4)
 ·obtain⟨a,b,c⟩:=h.group g hg;exact⟨a,b,λk x e=>by rw[wy,wz,<- uL];exact c k _ (get k x e)⟩
 ·obtain⟨a,b,c⟩:=h.chan g hg;exact⟨a,b,λk x e=>by rw[wy,wz,<- uL];exact c k _ (get k x e)⟩
 ·obtain⟨a,b',c⟩:=h.fr b y (hf b y e);exact⟨a,b',λk x e=>by rw[wy,wz,<- uL];exact c k _ (get k x e)⟩
section
variable {lv:Bool}{P:SI}{nt id:Nat}{ops:Array Tx}{s:AS}{E:Env}{V:View}{a:Act}{Q:Ex->Act->View->Prop}{N:Act->View->Prop}{o:Tx}
theorem ae1(ho:ops[0]?=some o)(hg:o.guard=none)(h:Cy lv P none o a V (dq lv P none ops Q (Ub 1 (ops.size-1))) Q):WP lv P none (.region id ops false) Q a V:=by
 refine wp_region ?_;have aY:0<ops.size:=(SS.1 ho).1;have M3:SR ops.size=0::Ub 1 (ops.size-1):=by
  rw[Vx];obtain⟨n,hn⟩:∃n,ops.size=n+1:=⟨ops.size-1,by omega⟩;rw[hn,VW];rfl
 rw[M3];simp only[dq,ho];rw[if_pos (by unfold Tj;rw[hg])];exact h
theorem aug{k n:Nat}(ho:ops[k]?=some o)(hg:o.guard=none)(h:Cy lv P none o a V (dq lv P none ops Q (Ub (k+1) n)) Q):dq lv P none ops Q (Ub k (n+1)) a V:=by
 rw[VW];simp only[dq,ho];rw[if_pos (by unfold Tj;rw[hg])];exact h
theorem auh{k:Nat}(h:Q .normal a V):dq lv P none ops Q (Ub k 0) a V:=h
theorem PR{k n:Nat}(s3:AS)(hk:k+n=ops.size)(du:jT nt ops=true)(ai:At E V s a nt)(h:iF lv P ops (ops.toList.drop k) s (λs'=>s'.Sub s3) (λ_ _=>False))(hQ:∀E' V' a',Kept E E' V V' a a'->At E' V' s3 a' nt->Q .normal a' V'):dq lv P none ops Q (Ub k n) a V:=by
 refine BM (r:=none) (Φ:=λe s'=>match e with
  |.normal=>s'.Sub s3
  |_=>False) (λo ho d e=>(jT.out du ho).1 d e) (λ_ _=> .inl rfl) n k s hk h E V a Q ai λae e E' V' a' s' aJ aV he hΦ=> ?_
 cases ae<;>cases e<;>first
  |exact he.elim
  |exact hΦ.elim
  |exact hQ E' V' a' aJ (aV.sub hΦ)
theorem apD{c:Xy}{f:TY}(ay:o.op=.call c)(a_:c.callee=.value (.func f))(hf:rn P f=true)(h:Body lv P f (c.args.map a.eval) .normal V (fun
  |.ret v,V'=>N (a.put o.dst v) V'
  |.panic _,_=>False)):Cy lv P none o a V N Q:=by
 refine .inl ⟨.inl rfl,?_⟩;unfold execOp;rw[ay];dsimp only;unfold resolve;rw[a_];dsimp only;have e:a.eval (.func f)=.func (.func f) #[] #[]:=rfl;rw[e];unfold Ve;refine aA (au ?_);unfold invoke;dsimp only;refine Pb hf ?_;have e2:#[]++c.args.map a.eval++#[]=c.args.map a.eval:=by simp
 rw[e2];exact h.mono λo V' hx=>by
  cases o with
  |ret v=>exact hx
  |panic ch=>exact hx.elim
theorem apE{t el:TypeId}{d:ChanDir}{i:Wo}(ay:o.op=.makeChan t (.const (.int .i64 0)))(h1:P.underlying t=some (.chan d el))(h2:P.info? el=some i)(h:∀c,V.fresh c->N (a.put o.dst (.chan (some c))) (V.upd c (.chan 0 #[] false 0 0 false))):Cy lv P none o a V N Q:=by
 refine .inl ⟨.inl rfl,?_⟩;unfold execOp;rw[ay];dsimp only;have e:a.eval (.const (.int .i64 0))=.int .i64 0:=rfl;rw[e];unfold Instr.makeChan;refine aA (aA ?_);unfold asInt;refine au ?_;refine ey h1 ?_;dsimp only;refine zN h2 ?_;rw[if_neg (by simp[IntKind.max,av4,av3])];refine aA ?_;unfold newObj;exact pc λc hf=>cJ (au (au (h c hf)))
end
theorem auf{lv:Bool}{P:SI}{r:Option Nat}{code:Uc}{Q:Ex->Act->View->Prop}{a:Act}{V:View}{c Wg:Nat}(tT:lv=true)(hr:V.role=.plain)(aH:c≠Wg)(hc:V.own c=some (.chan 0 #[] false 0 0 false)) (hW:V.own Wg≠none) (oM:∀o,V.ah Wg o=none)
  (h:WP lv P r code Q a {V with role:=.fork c Wg []}):WP lv P r code Q a V:=λmain J C b k cs hb cq hL=>
 (C.more tT).start _ _ c Wg hr aH hc hW oM (h main J C b k cs hb cq hL)
structure Env.Lo (E E':Env):Prop where
 I:∀b o v,E.I b o=some v->E'.I b o=some v
 n:E.n<=E'.n
 blk:∀k,k<E.n->E'.blk k=E.blk k
 fF:∀k,k<E.n->E.fF k<=E'.fF k
 room:∀k v,k<E.n->v<=E.fF k->E'.room k v=E.room k v
theorem Env.Le.lo{E E':Env}(h:E.Le E'):E.Lo E':=⟨h.I,h.n,h.blk,h.fF,h.room⟩
theorem Env.Lo.refl(E:Env):E.Lo E:=(Env.Le.refl E).lo
theorem Env.Lo.trans{E E' bY:Env}(h:E.Lo E')(k:E'.Lo bY):E.Lo bY:=
 ⟨λb o v e=>k.I b o v (h.I b o v e),TL h.n k.n,λi hi=>(k.blk i (Tg hi h.n)).trans (h.blk i hi),λi hi=>TL (h.fF i hi) (k.fF i (Tg hi h.n)),
  λi v hi hv=>(k.room i v (Tg hi h.n) (TL hv (h.fF i hi))).trans (h.room i v hi hv)⟩
theorem Env.Lo.le{E E':Env}(h:E.Lo E'):E.Le ((E'.fu E.main).frame E.fr):=⟨h.I,h.n,h.blk,h.fF,h.room,rfl,rfl⟩
theorem ap.lo{E E':Env}(h:E.Lo E'){a:AV}{v:SP}(d:ap E a v):ap E' a v:=by
 have:=((d.mono h.le).fu E'.main).frame E'.fr;exact this
theorem Env.Ie(E:Env)(f:Nat->Option Obj):E.Lo (E.frame f):=⟨λ_ _ _ h=>h,SO _,λ_ _=>rfl,λ_ _=>SO _,λ_ _ _ _=>rfl⟩
theorem Env.aou(E:Env)(m:Bool):E.Lo (E.fu m):=⟨λ_ _ _ h=>h,SO _,λ_ _=>rfl,λ_ _=>SO _,λ_ _ _ _=>rfl⟩
theorem Env.Lo.cut{E E':Env}(h:E.Lo E'){n:Nat}(hn:E.n<=n):E.Lo {E' with n:=n}:=⟨h.I,hn,h.blk,h.fF,h.room⟩
def Env.bare (E:Env):Env:=((({E with n:=0}:Env).fu false).frame λ_=>none)
theorem ap.bare{E:Env}{a:AV}{v:SP}(h:ap E a v)(hl:Lt 0 a):ap E.bare a v:=((h.trim hl).fu false).frame _
theorem ahW{E:Env}{I:cC}{ro:nm}(hI:E.I=I)(hg:ro.group=none)(hc:ro.chan=none):Conc E.bare {ah:=I,own:=λ_=>none,deaf:=0,role:=ro} []:=
 ⟨hI,rfl,λk x e=>(by cases e),λi j x y b h1=>(by cases h1),λg e=>(by rw[hg]at e;cases e),λg e=>(by rw[hc]at e;cases e),λe=>(by cases e),λb y e=>(by cases e)⟩
theorem At.at1{E:Env}{V:View}{s:AS}{a:Act}{nt t id off:Nat}(h:At E V s a nt)(hl:look s.T t=some (.op id off)):a.eval (.tmp t)=.pointer (some ⟨E.blk id,off,none⟩):=by
 have hd:=(h.tok t _ hl).2;show a.tmps.getD t undef=_;generalize a.tmps.getD t undef=v at hd;cases hd;rfl
section
variable {lv:Bool}{P:SI}{s:AS}{ms:List Nat}{nt:Nat}
def an.qw (id:Nat)(Φ:an->AS->List Nat->Prop):an->AS->List Nat->Prop
 |.exit i,s,ms=>if i=id then Φ .normal s ms else Φ (.exit i) s ms
 |e,s,ms=>Φ e s ms
theorem ag1{id:Nat}{c:Uc}{Φ:an->AS->List Nat->Prop}(h:mL lv P nt c s ms (an.qw id Φ)):mL lv P nt (.block id c) s ms Φ:=by
 intro E V a Q ai hd hQ;refine wp_block (h E V a _ ai hd λae e E' V' a' s' cF hk aV cD he hΦ=> ?_);cases ae<;>cases e<;>first
  |exact he.elim
  |skip
 ·exact hQ .normal .normal E' V' a' s' cF hk aV cD trivial hΦ
 ·rename_i i j;have e:i=j:=he;subst e;by_cases cg:i=id
  ·simp only[Ex.inBlock,cg,if_true];simp only[an.qw,cg,if_true]at hΦ;exact hQ .normal _ E' V' a' s' cF hk aV cD trivial hΦ
  ·simp only[Ex.inBlock,cg,if_false];simp only[an.qw,cg,if_false]at hΦ;exact hQ (.exit i) _ E' V' a' s' cF hk aV cD rfl hΦ
 ·exact hQ _ _ E' V' a' s' cF hk aV cD he hΦ
 ·exact hQ _ _ E' V' a' s' cF hk aV cD he hΦ
 ·exact hQ _ _ E' V' a' s' cF hk aV cD he hΦ
def an.v8 (Φ:an->AS->List Nat->Prop):an->AS->List Nat->Prop
 |.goto _,_,_=>False
 |e,s,ms=>Φ e s ms
theorem ag5{c:Uc}{Φ:an->AS->List Nat->Prop}(h:mL lv P nt c s ms (an.v8 Φ)):mL lv P nt (.scope c) s ms Φ:=by
 intro E V a Q ai hd hQ;refine ae2 (λ_ _ _ _=>False) ⟨0,h E V a _ ai hd λae e E' V' a' s' cF hk aV cD he hΦ=> ?_⟩ λ_ _ _ _ _ _ hf=>hf.elim;cases ae<;>cases e<;>first
  |exact he.elim
  |exact hΦ.elim
  |exact hQ _ _ E' V' a' s' cF hk aV cD he hΦ
theorem aho(id:Nat)(Φ:an->AS->List Nat->Prop)(s:AS)(ms:List Nat):an.qw id Φ .normal s ms=Φ .normal s ms:=by rw[an.qw];simp
theorem asz(Φ:an->AS->List Nat->Prop)(s:AS)(ms:List Nat):an.v8 Φ .normal s ms=Φ .normal s ms:=by rw[an.v8];simp
theorem asB(Φ:an->AS->List Nat->Prop)(s:AS)(ms:List Nat):an.v8 Φ .ret s ms=Φ .ret s ms:=by rw[an.v8];simp
theorem atn(K:AS->List Nat->Prop)(Φ:an->AS->List Nat->Prop)(s:AS)(ms:List Nat):an.sM K Φ .normal s ms=K s ms:=by rw[an.sM]
theorem atp(K:AS->List Nat->Prop)(Φ:an->AS->List Nat->Prop)(s:AS)(ms:List Nat):an.sM K Φ .ret s ms=Φ .ret s ms:=by rw[an.sM];simp
@[congr] theorem auY {c : Uc} {s s' : AS} {ms cF : List Nat} {Φ : an -> AS -> List Nat -> Prop} (h : s = s') (hd : ms = cF) : mL lv P nt c s ms Φ = mL lv P nt c s' cF Φ := by rw [h, hd]
@[congr] theorem avK {K : AS -> List Nat -> Prop} {Φ : an -> AS -> List Nat -> Prop} {e e' : an} {s s' : AS} {ms cF : List Nat} (he : e = e') (h : s = s') (hd : ms = cF) : an.sM K Φ e s ms = an.sM K Φ e' s' cF := by rw [he, h, hd]
@[congr] theorem avH {Φ : an -> AS -> List Nat -> Prop} {e e' : an} {s s' : AS} {ms cF : List Nat} (he : e = e') (h : s = s') (hd : ms = cF) : an.v8 Φ e s ms = an.v8 Φ e' s' cF := by rw [he, h, hd]
@[congr] theorem avb {rs : List UU} {n : Nat} {k kp : AV -> List aa -> Prop} {e e' : an} {s s' : AS} {ms cF : List Nat} (he : e = e') (h : s = s') (hd : ms = cF) : sW P rs n k kp e s ms = sW P rs n k kp e' s' cF := by rw [he, h, hd]
theorem akz(rs:List UU)(n:Nat)(k kp:AV->List aa->Prop)(s:AS)(ms:List Nat):sW P rs n k kp .ret s ms=ao (iS ms s.H) λH'=>ao (ig P ⟨s.T,H'⟩ rs) λl=>cH n H' (jc l) k:=by rw[sW]
theorem AP(H:List aa):iS [] H=some H:=by rw[iS]
theorem AN{i:Nat}{ms:List Nat}{H:List aa}(h:H[i]?=some (.obj (.deferred (some [])))):iS (i::ms) H=iS ms (H.set i .gone):=by rw[iS];rw[h]
attribute [seval] aho asz asB atn atp akz AP
end
section
variable {lv:Bool}{P:SI}{r:Option Nat}{s:AS}
theorem Ro{E:Env}{I:cC}(hI:∀b o v,E.I b o=some v->I b o=some v){n:Nat}{l:List AV}{v:SP}(h:ap E (.sl n l .exact) v):∃a,ap (E.tok I (a,n) n) (.sl n l (.opn E.n)) v:=by
 cases h with
 |sl b o cap f dR he q1 q2=>
  have GZ:cap=n:=he;subst GZ;refine⟨some ⟨b,o,none⟩,?_⟩;have hle:=E.N7 (I:=I) hI (some ⟨b,o,none⟩,cap) cap;exact .sl b o cap f dR ⟨by simp[Env.tok],by simp[Env.tok],by simp[Env.tok]⟩ (λi hi=>hle.I _ _ _ (q1 i hi)) (λi x hx=>(q2 i x hx).mono hle)
 |nil he=>exact⟨_,.nil ⟨by simp[Env.tok],by simp[Env.tok],by simp[Env.tok];rfl⟩⟩
theorem nC{nt t n sz:Nat}{c:Uc}{l:List AV}{el:TypeId}{Φ:an->AS->Prop}(ht:look s.T t=some (.sl n l .exact))(h:aR lv P r nt c ⟨(t,.sl n l (.opn s.H.length))::s.T,s.H++[.tail n sz el]⟩ Φ):aR lv P r nt c s Φ:=λE V a Q ai hQ=>by
 obtain⟨hlt,hd⟩:=ai.tok t _ ht;obtain⟨ad,cD⟩:=Ro (I:=V.ah) (λb o v h=>by rw[<- ai.bz.I];exact h) hd;obtain⟨hc,hle⟩:=ai.bz.Py (n:=n) sz el ad;refine h _ V a Q ⟨hc,λt' x hx=> ?_,ai.size⟩ λae e E' V' a' s' hk=>hQ ae e E' V' a' s' ((⟨hle,rfl,rfl,rfl,rfl⟩:Kept E _ V V a a).trans hk);simp only[look]at hx;split at hx
 ·rename_i e;subst e;cases hx;rw[<- ai.bz.n];exact⟨hlt,cD⟩
 ·exact⟨(ai.tok t' x hx).1,(ai.tok t' x hx).2.mono hle⟩
theorem Rp{E:Env}{l:List AV}{cs:Array SP}{j:Nat}{a b:AV}(h:cK E l cs)(hj:l[j]?=some a)(hb:∀v,ap E a v->ap E b v):cK E (l.set j b) cs:=by
 refine⟨by rw[TK];exact h.1,λi x hx=> ?_⟩;by_cases e:i=j
 ·subst e;rw[Xg (SL.1 hj).1]at hx;cases hx;exact hb _ (h.2 i a hj)
 ·rw[Ud (Ne.symm e)]at hx;exact h.2 i x hx
theorem agX{nt id j n sz:Nat}{c:Uc}{l l':List AV}{el gV:TypeId}{Φ:an->AS->Prop}(cg:s.H[id]?=some (.cells l el))(hj:l[j]?=some (.sl n l' .exact))(h:aR lv P r nt c ⟨s.T,s.H.set id (.cells (l.set j (.sl n l' (.opn s.H.length))) el)++[aa.tail n sz gV]⟩ Φ):aR lv P r nt c s Φ:=λE V a Q ai hQ=>by
 have hc:=ai.bz;obtain⟨⟨cs,eF,hd⟩,lr⟩:=hc.obj id _ cg;obtain⟨ad,cD⟩:=Ro (I:=V.ah) (λb o v h=>by rw[<- hc.I];exact h) (hd.2 j _ hj);obtain⟨bu,hle⟩:=hc.Py (n:=n) sz gV ad;have hlt:=(SL.1 cg).1;have hn:(E.tok V.ah (ad,n) n).n=s.H.length+1:=by simp[Env.tok,hc.n]
 have e:s.H.set id (.cells (l.set j (.sl n l' (.opn s.H.length))) el)++[aa.tail n sz gV]=(s.H++[aa.tail n sz gV]).set id (.cells (l.set j (.sl n l' (.opn s.H.length))) el):=(U1 _ _ hlt).symm;rw[e]at h;have G5:cK (E.tok V.ah (ad,n) n) (l.set j (.sl n l' (.opn s.H.length))) cs:=by
  have h0:=hd.mono hle;refine⟨by rw[TK];exact h0.1,λi x hx=> ?_⟩;by_cases ei:i=j
  ·subst ei;rw[Xg (SL.1 hj).1]at hx;cases hx;rw[<- hc.n];exact cD
  ·rw[Ud (Ne.symm ei)]at hx;exact h0.2 i x hx
 have hb:(E.tok V.ah (ad,n) n).blk id=E.blk id:=hle.blk id (by rw[hc.n];exact hlt);have b_:Conc (E.tok V.ah (ad,n) n) V ((s.H++[aa.tail n sz gV]).set id (.cells (l.set j (.sl n l' (.opn s.H.length))) el)):=by
  have cY:(s.H++[aa.tail n sz gV])[id]?=some (.cells l el):=by rw[S0 hlt];exact cg
  refine bu.iO id _ (Env.Le.refl _) bu.I (by rw[bu.n,TK]) lD rfl (λ_ _ _=>rfl) (λb y _ hy=>⟨hy,λ_=>rfl⟩) ⟨⟨cs,by rw[hb];exact eF,G5⟩,λo=>by rw[hb];exact lr o⟩ (λb dG=> .inl ⟨_,cY,dG⟩)
 refine h _ V a Q ⟨b_,ai.tok.mono hle,ai.size⟩ λae e E' V' a' s' hk=>hQ ae e E' V' a' s' ((⟨hle,rfl,rfl,rfl,rfl⟩:Kept E _ V V a a).trans hk)
theorem agZ{nt id j:Nat}{c:Uc}{l:List AV}{x y:AV}{el:TypeId}{Φ:an->AS->Prop}(cg:s.H[id]?=some (.cells l el))(hj:l[j]?=some x)(hw:Wk x y)(h:aR lv P r nt c ⟨s.T,s.H.set id (.cells (l.set j y) el)⟩ Φ):aR lv P r nt c s Φ:=λE V a Q ai hQ=>by
 have hc:=ai.bz;obtain⟨⟨cs,eF,hd⟩,lr⟩:=hc.obj id _ cg;have b_:Conc E V (s.H.set id (.cells (l.set j y) el)):=
  hc.iO id _ (Env.Le.refl _) hc.I (by rw[hc.n,TK]) lD rfl (λ_ _ _=>rfl) (λb y _ hy=>⟨hy,λ_=>rfl⟩) ⟨⟨cs,eF,Rp hd hj (hw E)⟩,lr⟩ (λb dG=> .inl ⟨_,cg,dG⟩)
 exact h E V a Q ⟨b_,ai.tok,ai.size⟩ hQ
end
structure xT (X Y Z:Prop):Type where
 n:Nat
def UG (a:AV)(cp:Bool)(X Y Z:Prop)(_t:xT X Y Z):Prop:=(∃b,a=.val (.bool b)/\(b=cp->X)/\(b= !cp->Y))\/(a=.val undef/\Z)
theorem Jc{b cp:Bool}{X Y Z:Prop}{t:xT X Y Z}:UG (.val (.bool b)) cp X Y Z t=((b=cp->X)/\(b= !cp->Y)):=by
 unfold UG;refine propext ⟨λh=> ?_,λh=> .inl ⟨b,rfl,h⟩⟩;rcases h with⟨b',e,h⟩|⟨e,_⟩
 ·cases e;exact h
 ·cases e
theorem atV(X Y Z:Prop)(t:xT X Y Z):UG (.val (.bool true)) true X Y Z t=X:=by rw[Jc];simp
theorem atU(X Y Z:Prop)(t:xT X Y Z):UG (.val (.bool true)) false X Y Z t=Y:=by rw[Jc];simp
theorem atT(X Y Z:Prop)(t:xT X Y Z):UG (.val (.bool false)) true X Y Z t=Y:=by rw[Jc];simp
theorem atS(X Y Z:Prop)(t:xT X Y Z):UG (.val (.bool false)) false X Y Z t=X:=by rw[Jc];simp
theorem atW(cp:Bool)(X Y Z:Prop)(t:xT X Y Z):UG (.val undef) cp X Y Z t=Z:=by
 unfold UG;refine propext ⟨λh=> ?_,λh=> .inr ⟨rfl,h⟩⟩;rcases h with⟨b',e,_⟩|⟨_,h⟩
 ·cases e
 ·exact h
section
variable (lv:Bool)(P:SI)
def oA (all:Array Tx):List Tx->AS->(AS->Prop)->(AV->AS->Prop)->Prop
 |[],s,next,_=>next s
 |o::rest,s,next,bad=>match o.guard with
  |none=>mK lv P s o (λs'=>oA all rest s' next bad) bad
  |some (j,cp)=>ao ((all[j]?).bind (·.dst)) λd=>ao (look s.T d) λa=>UG a cp (mK lv P ⟨(d,.val (.bool cp))::s.T,s.H⟩ o (λs'=>oA all rest s' next bad) bad) (oA all rest ((⟨(d,.val (.bool !cp))::s.T,s.H⟩:AS).put o.dst (.val undef)) next bad) (oA all rest (s.put o.dst (.val undef)) next bad) ⟨0⟩
end
theorem atQ:type_of% @oA.eq_1:=by intros;rw[oA.eq_1]
theorem atP:type_of% @oA.eq_2:=by intros;rw[oA.eq_2]
@[congr] theorem avO {lv : Bool} {P : SI} {s s' : AS} {all : Array Tx} {l : List Tx} {next : AS -> Prop} {bad : AV -> AS -> Prop} (h : s = s') : oA lv P all l s next bad = oA lv P all l s' next bad := by rw [h]
attribute [seval] atQ atP atV atU atT atS atW
section
variable {lv:Bool}{P:SI}{r:Option Nat}{s:AS}
theorem Je{nt:Nat}{all:Array Tx}{Φ:an->AS->Prop}(du:∀o∈all,∀d,o.dst=some d->d<nt)(nQ:∀o∈all,r=none\/mA o.op=false):∀(n k:Nat)(s:AS),k+n=all.size->oA lv P all (all.toList.drop k) s (Φ .normal) (λpv s=>Φ (.panic pv) s)->
  ∀(E:Env)(V:View)(a:Act)(Q:Ex->Act->View->Prop),At E V s a nt->(∀ae e E' V' a' s',Kept E E' V V' a a'->At E' V' s' a' nt->qh E' ae e->Φ ae s'->Q e a' V')->dq lv P r all Q (Ub k n) a V
 |0,k,s,hk,h,E,V,a,Q,ai,hQ=>by
  have:all.toList.drop k=[]:=by simp;omega
  rw[this]at h;exact hQ .normal .normal E V a s (Kept.refl E V a) ai trivial h
 |n+1,k,s,hk,h,E,V,a,Q,ai,hQ=>by
  have hlt:k<all.size:=by omega
  have hd:all.toList.drop k=all[k]::all.toList.drop (k+1):=by
   rw[T4 (by simpa using hlt)];simp
  rw[hd]at h;have fK:all[k]∈all:=X8 hlt;have ho:all[k]?=some all[k]:=SJ hlt;simp only[VW,dq,ho];have go:∀s:AS,At E V s a nt->mK lv P s all[k] (λs'=>oA lv P all (all.toList.drop (k+1)) s' (Φ .normal) (λpv s=>Φ (.panic pv) s)) (λpv s=>Φ (.panic pv) s)->xV lv P r all[k] a V (dq lv P r all Q (Ub (k+1) n)) Q:=λs ai h=>by
   refine h.sound (lv:=lv) (r:=r) E V a _ Q ai.bz ai.tok (λd e=>by rw[ai.size];exact du _ fK d e) (nQ _ fK) (λE' V' a' s' aJ bu my hn=> ?_) (λE' V' s' pv v aJ bu my bx hb=> ?_)
   ·exact Je du nQ n (k+1) s' (by omega) hn E' V' a' Q ⟨bu,my,aJ.size.trans ai.size⟩ (λae e bY aU cu dp fX dj he hΦ=>hQ ae e bY aU cu dp (aJ.trans fX) dj he hΦ)
   ·exact hQ (.panic pv) (.panic _) E' V' a s' aJ ⟨bu,my,ai.size⟩ ⟨v,rfl,bx⟩ hb
  simp only[oA]at h;split at h
  ·rename_i hg;have hw:Tj all[k] (yielded all a.tmps)=true:=(by unfold Tj;rw[hg]);rw[if_pos hw];exact .inl (go s ai h)
  ·rename_i j cp hg;obtain⟨d,fJ,h⟩:=h.out;obtain⟨av,h1,h⟩:=h.out;rcases h with⟨b,rfl,h2,h3⟩|⟨rfl,h3⟩
   case inr=>
    have hv:=(ai.tok d _ h1).2;have hy:yielded all a.tmps j≠some cp:=by
     obtain⟨oj,kL,jl⟩:=Th.1 fJ;generalize hx:a.tmps.getD d undef=x at hv;cases hv;have mr:d<a.tmps.size:=(ai.tok d _ h1).1;rw[SH,SJ mr]at hx;simp only[S8]at hx;simp[yielded,kL,jl,SJ mr,hx,undef]
    have hw:¬Tj all[k] (yielded all a.tmps)=true:=by
     unfold Tj;rw[hg];intro h;exact hy (by simpa using h)
    rw[if_neg hw];exact Je du nQ n (k+1) (s.put all[k].dst (.val undef)) (by omega) h3 E V (a.put all[k].dst undef) Q
     ⟨by rw[ft];exact ai.bz,ai.tok.ie (λd e=>by rw[ai.size];exact du _ fK d e) (.val undef),by rw[eg];exact ai.size⟩
     (λae e bY aU cu dp fX dj he hΦ=>hQ ae e bY aU cu dp ⟨fX.le,fX.size.trans (eg _ _ _),fX.defers.trans (put_defers _ _ _),fX.role,fX.deaf⟩ dj he hΦ)
   have hv:=(ai.tok d _ h1).2;have hy:yielded all a.tmps j=some b:=by
    obtain⟨oj,kL,jl⟩:=Th.1 fJ;generalize hx:a.tmps.getD d undef=x at hv;cases hv;have mr:d<a.tmps.size:=(ai.tok d _ h1).1;rw[SH,SJ mr]at hx;simp only[S8]at hx;simp[yielded,kL,jl,SJ mr,hx]
   have su:∀b',b=b'->At E V ⟨(d,.val (.bool b'))::s.T,s.H⟩ a nt:=λb' dG=>by
    subst dG;refine⟨ai.bz,λt x e=> ?_,ai.size⟩;simp only[look]at e;split at e
    ·rename_i e';subst e';cases e;exact ai.tok d _ h1
    ·exact ai.tok t x e
   by_cases hb:b=cp
   ·have hw:Tj all[k] (yielded all a.tmps)=true:=(by unfold Tj;rw[hg];simp[hy,hb]);rw[if_pos hw];exact .inl (go _ (su cp hb) (h2 hb))
   ·have hw:¬Tj all[k] (yielded all a.tmps)=true:=(by unfold Tj;rw[hg];simp[hy,hb]);rw[if_neg hw];have dG:b= !cp:=(by cases b<;>cases cp<;>simp_all);have wK:=h3 dG;have ai:=su _ dG;exact Je du nQ n (k+1) ((⟨(d,.val (.bool !cp))::s.T,s.H⟩:AS).put all[k].dst (.val undef)) (by omega) wK E V (a.put all[k].dst undef) Q
     ⟨by rw[ft];exact ai.bz,ai.tok.ie (λd e=>by rw[ai.size];exact du _ fK d e) (.val undef),by rw[eg];exact ai.size⟩
     (λae e bY aU cu dp fX dj he hΦ=>hQ ae e bY aU cu dp ⟨fX.le,fX.size.trans (eg _ _ _),fX.defers.trans (put_defers _ _ _),fX.role,fX.deaf⟩ dj he hΦ)
theorem Ao{nt id:Nat}{ops:Array Tx}{Φ:an->AS->Prop}(hd:jT nt ops=true)(h:oA lv P ops ops.toList s (Φ .normal) (λpv s=>Φ (.panic pv) s)):aR lv P r nt (.region id ops false) s Φ:=by
 intro E V a Q ai hQ;refine wp_region ?_;rw[Vx];exact Je (Φ:=Φ) (λo ho d e=>(jT.out hd ho).1 d e) (λo ho=> .inr (jT.out hd ho).2) ops.size 0 s (by omega) (by simpa using h) E V a Q ai hQ
end
section
variable (lv:Bool)(P:SI)
def s8 (all:Array Tx):List Tx->AS->(AS->Prop)->Prop
 |[],s,K=>K s
 |o::rest,s,K=>match o.guard with
  |none=>AQ lv P s o λav=>s8 all rest (s.put o.dst av) K
  |some (j,cp)=>ao ((all[j]?).bind (·.dst)) λd=>ao (look s.T d) λa=>UG a cp (AQ lv P ⟨(d,.val (.bool cp))::s.T,s.H⟩ o λav=>s8 all rest ((⟨(d,.val (.bool cp))::s.T,s.H⟩:AS).put o.dst av) K) (s8 all rest ((⟨(d,.val (.bool !cp))::s.T,s.H⟩:AS).put o.dst (.val undef)) K) (s8 all rest (s.put o.dst (.val undef)) K) ⟨0⟩
end
theorem aq2:type_of% @s8.eq_1:=by intros;rw[s8.eq_1]
theorem aq1:type_of% @s8.eq_2:=by intros;rw[s8.eq_2]
@[congr] theorem avF {lv : Bool} {P : SI} {s s' : AS} {all : Array Tx} {l l' : List Tx} {K : AS -> Prop} (hl : l = l') (h : s = s') : s8 lv P all l s K = s8 lv P all l' s' K := by rw [hl, h]
attribute [seval] aq2 aq1
section
variable {lv:Bool}{P:SI}{r:Option Nat}{s:AS}{ops:Array Tx}{nt p:Nat}
end
section
variable {P:SI}
def FN (P:SI)(d:Nat)(t:TypeId):Prop:=(∃u,P.underlying t=some u/\Al u=false)/\∀x y:Int,cM P (VF d t (.int .i64 x) (.int .i64 y)) (x==y)
def FO (P:SI)(d:Nat)(t:TypeId)(n:Nat):Prop:=(∃u,P.underlying t=some u/\Al u=true)/\(∃i,P.info? t=some i/\i.size=n)/\∀xs ys:List Int,xs.length=n->ys.length=n->cM P (VF d t (.agg (xs.map (SF .i64)).toArray) (.agg (ys.map (SF .i64)).toArray)) (xs==ys)
inductive sV (P:SI)(d:Nat):Nat->List Y5->Nat->Prop
 |nil (o:Nat):sV P d o [] o
 | one {o n : Nat} {f : Y5} {fs : List Y5} (hn : f.name ≠ "_") (ho : f.offset = o) (h : FN P d f.type) (t : sV P d (o + 1) fs n) : sV P d o (f :: fs) n
 | sub {o m n : Nat} {f : Y5} {fs : List Y5} (hn : f.name ≠ "_") (ho : f.offset = o) (h : FO P d f.type m) (t : sV P d (o + m) fs n) : sV P d o (f :: fs) n
theorem sV.le{d o n:Nat}{fs:List Y5}(h:sV P d o fs n):o<=n:=by
 induction h with
 |nil=>exact SO _
 |one _ _ _ _ ih=>omega
 |sub _ _ _ _ ih=>omega
theorem RX(xs:List Int)(o m:Nat):(xs.map (SF .i64)).toArray.extract o (o+m)=(((xs.drop o).take m).map (SF .i64)).toArray:=by
 simp[List.extract_eq_take_drop,Wa,an_]
theorem as0 {d n N : Nat} {xs ys : List Int} {body : Y5 -> Option Bool × Unit -> Sem (ForInStep (Option Bool × Unit))} (hx : xs.length = N) (hy : ys.length = N) (hb : ∀ f s, body f s = (if f.name ≠ "_" then (do
   let a<- part f.type (xs.map (SF .i64)).toArray f.offset;let b<- part f.type (ys.map (SF .i64)).toArray f.offset;let r<- VF d f.type a b
   if(!r)=true then pure (.done (some false,()))else pure (.yield (none,())))else pure (.yield (none,())))):
  ∀{o:Nat}{fs:List Y5},sV P d o fs n->n<=N->cM P (forIn fs (none,()) body) (if(xs.drop o).take (n-o)==(ys.drop o).take (n-o)then(none,())else(some false,())):=by
 intro o fs h hn;induction h with
 |nil o=>simpa using iM (none,())
 |@one o n f fs ML ho h t ih=>
  have hle:=t.le;have hox:o<xs.length:=by omega
  have hoy:o<ys.length:=by omega
  obtain⟨⟨u,hu,Ep⟩,he⟩:=h;rw[W9,hb,if_pos ML,ho];refine lI (a:=if xs[o]==ys[o]then .yield (none,())else .done (some false,())) ?_ ?_
  ·refine Fs hu Ep (v:=.int .i64 xs[o]) (by simp[hox]) ?_;refine Fs hu Ep (v:=.int .i64 ys[o]) (by simp[hoy]) ?_;refine lI (he _ _) ?_;cases hq:xs[o]==ys[o]<;>exact iM _
  ·have e:((xs.drop o).take (n-o)==(ys.drop o).take (n-o))=((xs[o]==ys[o])&&((xs.drop (o+1)).take (n-(o+1))==(ys.drop (o+1)).take (n-(o+1)))):=by
    rw[T4 hox,T4 hoy,show n-o=(n-(o+1))+1 by omega,VZ,VZ];rfl
   rw[e];cases hq:xs[o]==ys[o]with
   |true=>simp only[if_true,UP];exact ih hn
   |false=>simp only[TV,if_false,Vt];exact iM _
 |@sub o m n f fs ML ho h t ih=>
  have hle:=t.le;obtain⟨⟨u,hu,Ep⟩,⟨i,hi,dl⟩,he⟩:=h;rw[W9,hb,if_pos ML,ho];refine lI (a:=if(xs.drop o).take m==(ys.drop o).take m then .yield (none,())else .done (some false,())) ?_ ?_
  ·refine aes hu Ep hi ?_;refine aes hu Ep hi ?_;rw[dl,RX,RX];refine lI (he _ _ (by rw[TC,Ur];omega) (by rw[TC,Ur];omega)) ?_;cases hq:(xs.drop o).take m==(ys.drop o).take m<;>exact iM _
  ·have e:((xs.drop o).take (n-o)==(ys.drop o).take (n-o))=(((xs.drop o).take m==(ys.drop o).take m)&&((xs.drop (o+m)).take (n-(o+m))==(ys.drop (o+m)).take (n-(o+m)))):=by
    have hs:∀zs:List Int,(zs.drop o).take (n-o)=(zs.drop o).take m++(zs.drop (o+m)).take (n-(o+m)):=λzs=>by
     rw[show n-o=m+(n-(o+m)) by omega,List.take_add,ar_]
    rw[hs,hs,U9,Te,beq_iff_eq,beq_iff_eq,beq_iff_eq];exact⟨λh=>List.append_inj h (by simp[TC,Ur];omega),λh=>by rw[h.1,h.2]⟩
   rw[e];cases hq:(xs.drop o).take m==(ys.drop o).take m with
   |true=>simp only[if_true,UP];exact ih hn
   |false=>simp only[TV,if_false,Vt];exact iM _
theorem aiH{t:TypeId}{fs:Array Y5}{d n:Nat}{i:Wo}(ht:P.underlying t=some (.struct fs))(hs:P.stoodInHeld t=false)(hi:P.info? t=some i)(dl:i.size=n)(hf:sV P d 0 fs.toList n):FO P (d+1) t n:=by
 refine ⟨⟨_, ht, rfl⟩, ⟨i, hi, dl⟩, λxs ys hx hy => ?_⟩;rw [VF];refine zV ht ?_;dsimp only;refine Pu ?_;rw [hs];simp only [TV, if_false];rw [<- Array.forIn_toList];refine lI (a := if (xs == ys) then (none, ()) else (some false, ())) ?_ (by cases xs == ys <;> exact iM _);have := as0 (body := λf (_ : Option Bool × Unit) => if f.name ≠ "_" then (do
   let a<- part f.type (xs.map (SF .i64)).toArray f.offset;let b<- part f.type (ys.map (SF .i64)).toArray f.offset;let r<- VF d f.type a b
   if(!r)=true then pure (ForInStep.done (some false,()))else pure (Y7 (none,())))else pure (Y7 (none,()))) hx hy (λf s=>rfl) hf (SO _)
 simp only[XJ,Z']at this;rw[SW (by omega),SW (by omega)]at this;exact this
theorem aiG{t:TypeId}{k0:T8}{d:Nat}(ht:P.underlying t=some (.int k0)):FN P (d+1) t:=⟨⟨_,ht,rfl⟩,λ_ _=>aeq ht⟩
def Da (g:TypeId->Option (Option Nat)):List Y5->Nat->Option Nat
 |[],o=>some o
 | f :: fs, o => if f.name ≠ "_" /\ f.offset = o then (match g f.type with
  |some none=>Da g fs (o+1)
  |some (some m)=>Da g fs (o+m)
  |none=>none)else none
def yp (P:SI):Nat->TypeId->Option (Option Nat)
 |0,_=>none
 |d+1,t=>match P.underlying t with
  |some (.int _)=>some none
  |some (.struct fs)=>if P.stoodInHeld t then none else(match Da (yp P d) fs.toList 0,P.info? t with
   |some n,some i=>if i.size=n then some (some n)else none
   |_,_=>none)
  |_=>none
theorem K9{d n:Nat}{g:TypeId->Option (Option Nat)}(h1:∀t,g t=some none->FN P d t)(h2:∀t m,g t=some (some m)->FO P d t m):∀(fs:List Y5)(o:Nat),Da g fs o=some n->sV P d o fs n
 |[],o,h=>by cases h;exact .nil _
 |f::fs,o,h=>by
  rw[Da]at h;split at h
  ·rename_i hc;split at h
   ·rename_i hg;exact .one hc.1 hc.2 (h1 _ hg) (K9 h1 h2 fs _ h)
   ·rename_i m hg;exact .sub hc.1 hc.2 (h2 _ _ hg) (K9 h1 h2 fs _ h)
   ·cases h
  ·cases h
theorem Sr:∀(d:Nat)(t:TypeId),(yp P d t=some none->FN P d t)/\∀n,yp P d t=some (some n)->FO P d t n
 |0,t=>⟨λh=>by simp[yp]at h,λn h=>by simp[yp]at h⟩
 |d+1,t=>by
  have ih:=λt=>Sr d t;rw[yp];split
  ·rename_i k0 hu;exact⟨λ_=>aiG hu,λn h=>by cases h⟩
  ·rename_i fs hu;split
   ·exact⟨λh=>(by cases h),λn h=>by cases h⟩
   ·rename_i hs;split
    ·rename_i n i hf hi;split
     ·rename_i dl;refine⟨λh=>(by cases h),λm h=> ?_⟩;cases h;exact aiH hu (by simpa using hs) hi dl (K9 (λt=>(ih t).1) (λt=>(ih t).2) _ _ hf)
     ·exact⟨λh=>(by cases h),λn h=>by cases h⟩
    ·exact⟨λh=>(by cases h),λn h=>by cases h⟩
  ·exact⟨λh=>(by cases h),λn h=>by cases h⟩
theorem afY{t:TypeId}{n:Nat}{xs ys:List Int}(h:yp P 10000 t=some (some n))(hg:P.eqGuardType P.depth t=false)(hx:xs.length=n)(hy:ys.length=n)(k:AV->Prop):dK P .eql t (.agg (xs.map iv)) (.agg (ys.map iv)) k=k (bv (xs==ys)):=by
 have El:cM P (Xx t (.agg (xs.map (SF .i64)).toArray) (.agg (ys.map (SF .i64)).toArray)) (xs==ys):=((Sr 10000 t).2 n h).2.2 xs ys hx hy;have e:dK P .eql t (.agg (xs.map iv)) (.agg (ys.map iv)) k=((XS=.eql\/XS=.neq)/\ao (AV.raw (.agg (xs.map iv))) λX=>ao (AV.raw (.agg (ys.map iv))) λY=>AC X Y=true/\P.eqGuardType P.depth t=false/\∃e,cM P (Xx t X Y) e/\k (.val (.bool (if XS== .neq then !e else e)))):=rfl;rw[e,zI,zI,BL,BL];apply propext;constructor
 ·rintro⟨_,_,_,b,h1,h2⟩
  rw[El.uniq h1];exact h2
 ·intro h;exact⟨.inl rfl,rfl,hg,_,El,h⟩
end
section
variable {lv:Bool}{P:SI}{s:AS}{ms:List Nat}{bs:List U8}{nt:Nat}
def uD (E:Env)(ms:List Nat)(bs l:List U8):Prop:=l=ms.map (λi=>({target:=.collected (E.blk i),args:=#[]}:U8))++bs/\∀i∈ms,i<E.n
theorem uD.mono{E E':Env}(h:E.Le E'){ms:List Nat}{bs l:List U8}(k:uD E ms bs l):uD E' ms bs l:=
 ⟨by rw[k.1];congr 1;exact VH λi hi=>by rw[h.blk i (k.2 i hi)],λi hi=>Tg (k.2 i hi) h.n⟩
def kB (lv:Bool)(P:SI)(nt:Nat)(bs:List U8)(c:Uc)(s:AS)(ms:List Nat)(Φ:an->AS->List Nat->Prop):Prop:=
 ∀(E:Env)(V:View)(a:Act)(Q:Ex->Act->View->Prop),At E V s a nt->uD E ms bs a.defers->(∀ae e E' V' a' s' cF,rz E E' V V' a a'->At E' V' s' a' nt->uD E' cF bs a'.defers->qh E' ae e->Φ ae s' cF->Q e a' V')->WP lv P none c Q a V
theorem Ga{c:Uc}{Φ:an->AS->List Nat->Prop}(h:aR lv P none nt c s λe s'=>Φ e s' ms):kB lv P nt bs c s ms Φ:=λE V a Q ai hd hQ=>
 h E V a Q ai λae e E' V' a' s' hk aV he hΦ=>hQ ae e E' V' a' s' ms hk.d aV (by rw[hk.defers];exact hd.mono hk.le) he hΦ
theorem kB.mono{c:Uc}{Φ Φ':an->AS->List Nat->Prop}(h:kB lv P nt bs c s ms Φ)(hq:∀e s ms,Φ e s ms->Φ' e s ms):kB lv P nt bs c s ms Φ':=λE V a Q ai hd hQ=>
 h E V a Q ai hd λae e E' V' a' s' cF hk aV cD he hΦ=>hQ ae e E' V' a' s' cF hk aV cD he (hq _ _ _ hΦ)
theorem Gb{x y:Uc}{Φ:an->AS->List Nat->Prop}(h:kB lv P nt bs x s ms (an.sM (λs' cF=>kB lv P nt bs y s' cF Φ) Φ)):kB lv P nt bs (.seq x y) s ms Φ:=by
 intro E V a Q ai hd hQ;refine wp_seq (h E V a _ ai hd λae e E' V' a' s' cF hk aV cD he hΦ=> ?_);cases ae<;>cases e<;>first
  |exact he.elim
  |exact hΦ E' V' a' Q aV cD λae e bY aU cu dp EO aJ dj A5 ku uf=>hQ ae e bY aU cu dp EO (hk.trans aJ) dj A5 ku uf
  |exact hQ _ _ E' V' a' s' cF hk aV cD he hΦ
theorem td{x y:Uc}{Φ:an->AS->List Nat->Prop}(h:aR lv P none nt x s (an.then (λs'=>kB lv P nt bs y s' ms Φ) λe s'=>Φ e s' ms)):kB lv P nt bs (.seq x y) s ms Φ:=by
 refine Gb (Ga (h.mono λe s' hs=> ?_));cases e<;>exact hs
theorem yb{id:Nat}{c:Uc}{Φ:an->AS->List Nat->Prop}(h:kB lv P nt bs c s ms (an.qw id Φ)):kB lv P nt bs (.block id c) s ms Φ:=by
 intro E V a Q ai hd hQ;refine wp_block (h E V a _ ai hd λae e E' V' a' s' cF hk aV cD he hΦ=> ?_);cases ae<;>cases e<;>first
  |exact he.elim
  |skip
 ·exact hQ .normal .normal E' V' a' s' cF hk aV cD trivial hΦ
 ·rename_i i j;have e:i=j:=he;subst e;by_cases cg:i=id
  ·simp only[Ex.inBlock,cg,if_true];simp only[an.qw,cg,if_true]at hΦ;exact hQ .normal _ E' V' a' s' cF hk aV cD trivial hΦ
  ·simp only[Ex.inBlock,cg,if_false];simp only[an.qw,cg,if_false]at hΦ;exact hQ (.exit i) _ E' V' a' s' cF hk aV cD rfl hΦ
 ·exact hQ _ _ E' V' a' s' cF hk aV cD he hΦ
 ·exact hQ _ _ E' V' a' s' cF hk aV cD he hΦ
 ·exact hQ _ _ E' V' a' s' cF hk aV cD he hΦ
theorem QJ{α:Type}{lt:α->α->Prop}(wf:WellFounded lt){c:Uc}{Φ:an->AS->List Nat->Prop}(inv:α->AS)(mk:α->List Nat)(ok:α->Prop)(m:α)(h0:s.Sub (inv m))(vu:ms=mk m)(hm:ok m)
  (h:∀m,ok m->kB lv P nt bs c (inv m) (mk m) (an.sM (λs' cF=>∃m',lt m' m/\ok m'/\s'.Sub (inv m')/\cF=mk m') Φ)):kB lv P nt bs (.loop c) s ms Φ:=by
 subst vu;intro E V a Q ai hd hQ;refine PP wf (I:=λm a' V'=>ok m/\∃E',rz E E' V V' a a'/\At E' V' (inv m) a' nt/\uD E' (mk m) bs a'.defers) m ⟨hm,E,(Kept.refl E V a).d,ai.sub h0,hd⟩ λm a' V' hI=> ?_;obtain⟨aq,E',hk,aV,cD⟩:=hI;refine h m aq E' V' a' _ aV cD λae e bY aU cu dp EO aJ dj A5 he hΦ=> ?_;cases ae<;>cases e<;>first
  |exact he.elim
  |(obtain⟨m',h1,h2,h3,rfl⟩:=hΦ
    exact⟨m',h1,h2,bY,hk.trans aJ,dj.sub h3,A5⟩)
  |exact hQ _ _ bY aU cu dp EO (hk.trans aJ) dj A5 he hΦ
theorem ag7{f:Tl}{ps:Array Tmp}{bS body:Uc}{fv:AV}{Φ:an->AS->List Nat->Prop}(hf:s.ev f=some fv)
  (h:∀l fn:Nat,je lv P fv (s.H++[.obj (.deferred (some [])),.loop l .ready none fn s.T nt ps bS body s.H.length]) [.fn (.yield l) [] []]
   (λ_ H'=>∃st pe fG T' jr gA gh fw gk,H'[s.H.length+1]?=some (.loop l st pe fG T' jr gA gh fw gk)/\st≠ .busy/\s7 Φ ⟨s.T,H'.set (s.H.length+1) .gone⟩ (s.H.length::ms) pe)
   (λpv H'=>Φ (.panic pv) ⟨s.T,H'⟩ (s.H.length::ms))):kB lv P nt bs (.rangeFunc f ps bS body) s ms Φ:=by
 intro E V a Q ai hm hQ;refine ae0 λfn d l hd hl=> ?_;have hc:=ai.bz;have dt:Conc (E.add d V.ah) (V.upd d (.deferred (some []))) (s.H++[.obj (.deferred (some []))]):=by
  refine hc.add hd _ ⟨?_,rfl,rfl,λo=> ?_⟩ (λb e=> ?_)
  ·rw[Env.dO];simp[View.upd]
  ·rw[Env.dO];exact hd.2 o
  ·simp only[bT,Env.dO,Tm]at e;exact e.symm
 have DY:E.Le (E.add d V.ah):=E.qX d (λb o v h=>by rw[<- hc.I];exact h);have Dy:(E.add d V.ah).blk s.H.length=d:=by rw[<- hc.n];exact E.dO d _
 let E1:=E.add d V.ah;let V1:=V.upd d (.deferred (some []));have nW:E1.n=s.H.length+1:=by rw[dt.n];simp
 have qK:E1.Le (E1.add l V1.ah):=E1.qX l (λb o v h=>by rw[<- dt.I];exact h);have b_:Conc (E1.add l V1.ah) (V1.upd l (.loop {state:=.ready,pending:=none,fn,tmps:=a.tmps,params:=ps,assign:=bS,body,defers:=d})) ((s.H++[.obj (.deferred (some []))])++[.loop l .ready none fn s.T nt ps bS body s.H.length]):=by
  refine dt.add hl _ ⟨⟨a.tmps,?_,ai.size,(ai.tok.mono DY).mono qK⟩,?_,λo=> ?_,?_⟩ (λb e=> ?_)
  ·have e:(E1.add l V1.ah).blk s.H.length=d:=(by rw[qK.blk s.H.length (by rw[nW];omega)];exact Dy);rw[e,Env.dO];simp[View.upd]
  ·show s.H.length<E1.n+1;omega
  ·rw[Env.dO];exact hl.2 o
  ·exact Env.dO _ _ _
  ·simp only[bT,Env.dO,Tm]at e;exact e.symm
 have hle:E.Le (E1.add l V1.ah):=DY.trans qK;have LW:(E1.add l V1.ah).blk s.H.length=d:=by rw[qK.blk s.H.length (by rw[nW];omega)];exact Dy
 rw[SC]at b_;have r_:∀E',(E1.add l V1.ah).Le E'->uD E' (s.H.length::ms) bs (mark a d).defers:=λE' hE=>by
  refine uD.mono hE ⟨?_,λi hi=> ?_⟩
  ·have:=(hm.mono hle).1;simp only[mark,U0,LW,Vs];rw[<- this]
  ·rcases SK.1 hi with rfl|hi
   ·show _<E1.n+1;omega
   ·exact Tg (hm.2 i hi) hle.n
 have bC:=ap.ev ai.tok hf;have DE:=h l fn (E1.add l V1.ah) (V1.upd l (.loop {state:=.ready,pending:=none,fn,tmps:=a.tmps,params:=ps,assign:=bS,body,defers:=d})) (a.eval f) #[.func (.yield l) #[] #[]] b_ (bC.mono hle) ⟨rfl,λi x hx=>by
  match i,hx with
  |0,hx=>cases hx;exact .fn rfl rfl (by simp) (by simp)⟩
 have key:∀o V',gU (E1.add l V1.ah) (V1.upd l (.loop {state:=.ready,pending:=none,fn,tmps:=a.tmps,params:=ps,assign:=bS,body,defers:=d}))
   (λ_ H'=>∃st pe fG T' jr gA gh fw gk,H'[s.H.length+1]?=some (.loop l st pe fG T' jr gA gh fw gk)/\st≠ .busy/\s7 Φ ⟨s.T,H'.set (s.H.length+1) .gone⟩ (s.H.length::ms) pe)
   (λpv H'=>Φ (.panic pv) ⟨s.T,H'⟩ (s.H.length::ms)) o V'->FX l d Q a o V':=by
  intro o V' hr;cases o with
  |ret v=>
   obtain⟨av,E',H',hE,cq,fg,_,bu,st,pe,fG,T',jr,gA,gh,fw,gk,cg,aP,hp⟩:=hr;obtain⟨dG,nP,rj,bm,Nd,tH,uc⟩:=bu.zO cg;refine⟨_,bm,nP,aP,?_⟩;have hg:Conc E' (V'.upd l (.loop {state:=.exhausted,pending:=pe,fn:=fG,tmps:=rj,params:=gA,assign:=gh,body:=fw,defers:=E'.blk gk})) (H'.set (s.H.length+1) .gone):=bu.Fi _ cg _ (by simp only[bT,dG]);have aV:At E' (V'.upd l (.loop {state:=.exhausted,pending:=pe,fn:=fG,tmps:=rj,params:=gA,assign:=gh,body:=fw,defers:=E'.blk gk})) ⟨s.T,H'.set (s.H.length+1) .gone⟩ (mark a d) nt:=⟨hg,ai.tok.mono (hle.trans hE),ai.size⟩;have eE:rz E E' V (V'.upd l (.loop {state:=.exhausted,pending:=pe,fn:=fG,tmps:=rj,params:=gA,assign:=gh,body:=fw,defers:=E'.blk gk})) a (mark a d):=⟨hle.trans hE,rfl,cq,fg⟩;dsimp only
   match pe,hp,aV,eE with
   |none,hp,aV,eE=>exact hQ .normal .normal E' _ _ _ _ eE aV (r_ E' hE) trivial hp
   |some .ret,hp,aV,eE=>exact hQ .ret .ret E' _ _ _ _ eE aV (r_ E' hE) trivial hp
   |some (.exit i),hp,aV,eE=>exact hQ (.exit i) (.exit i) E' _ _ _ _ eE aV (r_ E' hE) rfl hp
   |some (.goto i),hp,aV,eE=>exact hQ (.goto i) (.goto i) E' _ _ _ _ eE aV (r_ E' hE) rfl hp
  |panic ch=>
   obtain⟨pv,v,E',H',rfl,hE,cq,fg,bx,bu,hp⟩:=hr;exact hQ (.panic pv) (.panic _) E' V' (mark a d) ⟨s.T,H'⟩ _ ⟨hle.trans hE,rfl,cq,fg⟩ ⟨bu,ai.tok.mono (hle.trans hE),ai.size⟩ (r_ E' hE) ⟨v,rfl,bx⟩ hp
 exact DE.mono (λnx V' hn=>Nx.mono key hn) (λv V' hr=>key _ _ hr)
@[congr] theorem auZ {c : Uc} {s s' : AS} {ms cF : List Nat} {Φ : an -> AS -> List Nat -> Prop} (h : s = s') (hd : ms = cF) : kB lv P nt bs c s ms Φ = kB lv P nt bs c s' cF Φ := by rw [h, hd]
def uH (lv:Bool)(P:SI)(fn:YL)(R:Out->View->Prop):List U8->Vk->Array SP->View->Prop
 |[],.returning,tmps,V=>∃v,aS P V (results fn tmps) (λx V'=>x=v/\V'=V) (λ_ _=>False)/\R (.ret v) V
 |[],.panicking ch,_,V=>R (.panic ch) V
 |d::ds,md,tmps,V=>(md matches .run)=false/\((∃b,d={target:=.collected b,args:=#[]}/\V.own b=some (.deferred (some []))/\V.role.chan≠some b/\uH lv P fn R ds md tmps (V.upd b (.deferred none)))\/
   ((∃f cU,d.target=.fn f cU)/\aS P V (invoke d.target d.args) (λnx V'=>∃g args,nx=.enter g args/\Ab lv P g args md V' λoh aU=>uH lv P fn R ds oh tmps aU) (λ_ _=>False)))
 |[],.run,_,_=>False
theorem Fz{f:TY}{fn:YL}{kd:Xm}{R:Out->View->Prop}(hf:P.funcs[f]?=some fn){main:Bool}{J:View->SG->Prop}(C:Closed lv P main J){cs:List Ug}(hR:∀o V' Db,R o V'->Leaves P Db f kd o V'->J V' (G Db cs)):∀(ds:List U8)(md:Vk)(V:View)(fr:Ug),fr.fn=f->fr.kind=kd->fr.mode=md->fr.defers=ds->uH lv P fn R ds md fr.tmps V->J V (G fr cs)
 |[],.returning,V,fr,h1,h2,h3,h4,h=>by
  obtain⟨v,hs,hr⟩:=h;exact hR _ _ _ hr ⟨h1,h4,h2,fn,hf,h3,hs⟩
 |[],.panicking ch,V,fr,h1,h2,h3,h4,h=>hR _ _ _ h ⟨h1,h4,h2,fn,hf,h3⟩
 |[],.run,_,_,_,_,_,_,h=>h.elim
 |d::ds,md,V,fr,h1,h2,h3,h4,h=>by
  obtain⟨hm,⟨b,rfl,ho,ff,hu⟩|⟨⟨tf,cU,ht⟩,hs⟩⟩:=h
  ·refine C.step _ _ rfl λw hw=> ?_;obtain⟨es,w',V',k1,k2,k3⟩:=(Pf (P:=P) ho ff).runs hw;rcases k3 with⟨x,k3,rfl,rfl⟩|⟨_,_,hx⟩
   ·refine⟨G {fr with defers:=ds} cs,w',seen P fr.fn es,_,?_,k1.seen P fr.fn,?_⟩
    ·have e:∀main,stepG P main (G fr cs) w=unwind P main fr cs none w:=λmain=>by
      cases md with
      |run=>cases hm
      |returning=>simp[G,stepG,h3]
      |panicking ch=>simp[G,stepG,h3]
     rw[e];simp only[unwind,h4];simp[TE,k3,k2,T_,G]
    ·exact Fz hf C hR ds md _ {fr with defers:=ds} h1 h2 h3 rfl hu
   ·exact hx.elim
  ·refine C.step _ _ rfl λw hw=> ?_;obtain⟨es,w',V',k1,k2,k3⟩:=hs.runs hw;rcases k3 with⟨nx,k3,g,args,rfl,hd⟩|⟨_,_,h⟩
   ·refine⟨G (Frame.enter P g args .deferred) ({fr with defers:=ds}::cs),w',seen P fr.fn es,V',?_,k1.seen P fr.fn,?_⟩
    ·have e:∀main,stepG P main (G fr cs) w=unwind P main fr cs none w:=λmain=>by
      cases md with
      |run=>cases hm
      |returning=>simp[G,stepG,h3]
      |panicking ch=>simp[G,stepG,h3]
     rw[e];obtain⟨tgt,ar⟩:=d;simp only at ht k3 k2;subst ht;simp only[unwind,h4];simp[callDeferred,TE,k3,k2,T_,G]
    ·refine hd main J C {fr with defers:=ds} cs h3 λoh aU hU=> ?_;exact Fz hf C hR ds oh aU {fr with defers:=ds,mode:=oh} h1 h2 rfl rfl hU
   ·exact h.elim
def afb (lv:Bool)(P:SI)(fn:YL)(R:Out->View->Prop):Ex->Act->View->Prop
 |.normal,a,V|.ret,a,V=>uH lv P fn R a.defers .returning a.tmps V
 |.panic ch,a,V=>uH lv P fn R a.defers (.panicking ch) a.tmps V
 |_,_,_=>False
theorem ahB{f:TY}{fn:YL}{c:Uc}{args:Array SP}{kd:Xm}{V:View}{R:Out->View->Prop}(hk:kd≠ .early)(hf:P.funcs[f]?=some fn)(hb:fn.body=some c)
  (h:WP lv P none c (afb lv P fn R) {tmps:=args++TS (fn.ntmps-args.size) undef,defers:=[]} V):Body lv P f args kd V R:=by
 intro main J C cs hR;let b:Ug:={(default:Ug)with fn:=f,kind:=kd,roundOf:=none};have vc:Frame.enter P f args kd=on b {tmps:=args++TS (fn.ntmps-args.size) undef,defers:=[]} [.code c]:=by
  simp[Frame.enter,on,hf,hb,b]
 rw[vc];refine h main J C b [] cs hk rfl λe a' V' q=> ?_;cases e with
 |normal=>exact C.idle rfl (λw=>Fe rfl) (Fz hf C hR _ _ _ _ rfl rfl rfl rfl q)
 |ret=>intro k;exact C.idle rfl (λw=>Ff rfl) (Fz hf C hR _ _ _ _ rfl rfl rfl rfl q)
 |panic ch=>intro todo _;exact Fz hf C hR _ _ _ _ rfl rfl rfl rfl q
 |exit id=>exact q.elim
 |goto l=>exact q.elim
theorem aeQ{fn:YL}{R:Out->View->Prop}{tmps:Array SP}{md:Vk}(hm:(md matches .run)=false):∀(ms:List Nat)(H H':List aa)(E:Env)(V:View)(l:List U8),iS ms H=some H'->Conc E V H->uD E ms bs l->(∀V',V'.role=V.role->V'.deaf=V.deaf->Conc E V' H'->uH lv P fn R bs md tmps V')->uH lv P fn R l md tmps V
 |[],H,H',E,V,l,hg,hc,mu,hk=>by
  rw[iS]at hg;cases hg;have:l=bs:=mu.1;subst this;exact hk V rfl rfl hc
 |i::ms,H,H',E,V,l,hg,hc,mu,hk=>by
  simp only[iS]at hg;split at hg
  ·rename_i hi;obtain⟨e,hlt⟩:=mu;simp only[U0,Vs]at e;subst e;obtain⟨p1,p2,p3,p4⟩:=hc.obj i _ hi;exact⟨hm,.inl ⟨_,rfl,p1,(hc.jq hi rfl).2,aeQ hm ms _ H' E _ _ hg (hc.Fi _ hi _ rfl) ⟨rfl,λj hj=>hlt j (by simp[hj])⟩ λV' h1 h2 h3=>hk V' h1 h2 h3⟩⟩
  ·cases hg
def Ag (lv:Bool)(P:SI)(rs:List UU)(n:Nat)(c:AV×List AV)(k kp:AV->List aa->Prop):an->AS->List Nat->Prop
 |.normal,s,ms|.ret,s,ms=>ao (iS ms s.H) λH'=>rq lv P c H' none (λH'=>ao (ig P ⟨s.T,H'⟩ rs) λl=>cH n H' (jc l) k) (λ_=>False)
 |.panic pv,s,ms=>ao (iS ms s.H) λH'=>rq lv P c H' (some pv) (λH'=>ao (ig P ⟨s.T,H'⟩ rs) λl=>cH n H' (jc l) k) (λH'=>cH n H' pv kp)
 |_,_,_=>False
end
end Go.Gg
namespace Go.Gg.Tk
structure iQ where
 min:Int
 max:Int
 deriving DecidableEq
structure aB where
 number:iQ
 hour:iQ
 deriving DecidableEq
structure Seen where
 hour:Int
 next:iQ
 deriving DecidableEq
structure ak where
 first:Int
 hours:Int
 am:Int
 seen:List Seen
 pieces:List aB
 aC:List aB
 deriving DecidableEq
def gQ (b:iQ)(n:Int):Bool:=decide (b.min<=n)&&decide (n<=b.max)
def fE:Nat->List Int->Int->Int
 |i,a::b::l,n=>if a<=n/\n<b then i else fE (i+1) (b::l) n
 |_,_,_=> -1
def jw (h:List Int)(n:Int):Int:=fE 0 h n
def fits (h:List Int)(y:aB)(n:Int):Bool:=decide (0<=jw h n)&&gQ y.number n&&gQ y.hour (jw h n)
def mH (x:ak)(hour:Nat)(n:Int):Bool:=x.seen.all λs=> !decide (s.hour=hour)||gQ s.next n
def jm (x:ak):Nat->List Int->List (List Int)
 |0,pre=>if mH x (pre.length-1) (pre.getLastD 0)then[pre]else[]
 |d+1,pre=>if mH x (pre.length-1) (pre.getLastD 0)then(SR (x.am.toNat+1)).flatMap λn:Nat=>jm x d (pre++[pre.getLastD 0+(n:Int)])else[]
def aL (x:ak):List (List Int):=jm x x.hours.toNat [x.first]
def w7 (x:ak)(t:Nat):List (List Int):=if mH x 0 x.first then jm x (x.hours.toNat-1) [x.first,x.first+t]else[]
def zC (h:List Int):List Int:=(SR (h.getLastD 0-h.headD 0).toNat).map λi:Nat=>h.headD 0+i
def lF (h:List Int):List aB->List Int->List (List Int)
 |[],t=>[t]
 |y::ys,t=>((zC h).filter λn=>fits h y n&& !t.contains n).flatMap λn=>lF h ys (t++[n])
def nc (h:List Int)(ns:List Int):List aB->List Nat->List (List Nat)
 |[],t=>[t]
 |s::ss,t=>((SR ns.length).filter λp=>fits h s (ns.getD p 0)&& !t.contains p).flatMap λp=>nc h ns ss (t++[p])
structure Tr where
 aT:List Int
 az:List Int
 bI:List Nat
 deriving DecidableEq
def sO (x:ak)(h ns:List Int):List Tr:=(nc h ns x.aC []).map λos=>⟨h,ns,os⟩
def gC (x:ak)(h:List Int):List Tr:=(lF h x.pieces []).flatMap (sO x h)
def bM (x:ak):List Tr:=(aL x).flatMap (gC x)
def v9 (x:ak)(h:List Int):List Tr:=(lF h x.pieces []).flatMap λns=>(sO x h ns).take 1
def sN (x:ak)(deep:Int)(h:List Int):List Tr:=if deep=0 then(v9 x h).take 1 else if deep=1 then v9 x h else gC x h
def Jj (x:ak)(deep:Int)(t:Nat):List Tr:=(w7 x t).flatMap (sN x deep)
theorem aeE{i:Nat}:∀{h:List Int}{n:Int},fE i h n<i+h.length:=by
 intro h;induction h generalizing i with
 |nil=>intro n;simp[fE];omega
 |cons a h ih=>
  intro n;cases h with
  |nil=>simp[fE];omega
  |cons b l=>
   simp only[fE];split
   ·simp;omega
   ·have:=ih (i:=i+1) (n:=n);simp at this⊢;omega
theorem PA{i k:Nat}{z:Int}:∀{h:List Int}{n:Int},h.getLastD z=z->h≠[]->fE i (h++TO k z) n=fE i h n:=by
 intro h;induction h generalizing i with
 |nil=>intro n _ h;exact absurd rfl h
 |cons a h ih=>
  intro n hz _;cases h with
  |nil=>
   simp only[ZC,List.getLastD_nil]at hz;subst hz;have:∀(k i:Nat),fE i ([a]++TO k a) n= -1:=by
    intro k;induction k with
    |zero=>intro i;simp[fE]
    |succ k ihk=>
     intro i;rw[Wy,Y'];simp only[fE];rw[if_neg (by omega)];exact ihk (i+1)
   rw[this];simp[fE]
  |cons b l=>
   have:=ih (i:=i+1) (n:=n) (by simpa using hz) (by simp);simp only[Vs,fE]at this⊢;rw[this]
end Go.Gg.Tk
namespace Go.Gg.Tk
inductive dE (S:Type)where
 |go (s:S)
 |stop (s:S)
 |bad (s:S)
def bK {S α:Type}(f:S->α->dE S):List α->S->dE S
 |[],s=> .go s
 |a::l,s=>match f s a with
  |.go s'=>bK f l s'
  |r=>r
theorem re{S α:Type}(f:S->α->dE S):∀(l m:List α)(s:S),bK f (l++m) s=match bK f l s with
  |.go s'=>bK f m s'
  |r=>r
 |[],m,s=>rfl
 |a::l,m,s=>by
  simp only[Vs,bK];cases f s a with
  |go s'=>exact re f l m s'
  |stop s'=>rfl
  |bad s'=>rfl
theorem O_{S α:Type}(f:S->α->dE S)(a:α)(s:S):bK f [a] s=f s a:=by
 simp only[bK];cases f s a<;>rfl
theorem Fc{S α:Type}{f:S->α->dE S}{g:S->α->S}(h:∀s a,f s a=.go (g s a)):∀(l:List α)(s:S),bK f l s=.go (l.foldl g s)
 |[],s=>rfl
 |a::l,s=>by simp only[bK,h,UV];exact Fc h l _
theorem BV{S α:Type}{f:S->α->dE S}{I:S->Prop}{A:α->Prop}(h:∀s a s',I s->A a->f s a=.go s'->I s'):∀(l:List α)(s s':S),(∀a∈l,A a)->I s->bK f l s=.go s'->I s'
 |[],s,s',_,hs,e=>by cases e;exact hs
 |a::l,s,s',ha,hs,e=>by
  simp only[bK]at e;cases hf:f s a with
  |go s1=>rw[hf]at e;exact BV h l s1 s' (λb hb=>ha b (by simp[hb])) (h s a s1 hs (ha a (by simp)) hf) e
  |stop s1=>rw[hf]at e;cases e
  |bad s1=>rw[hf]at e;cases e
def cz (h:List Int):List Int:=h++TO (4-h.length) (h.getLastD 0)
def mY (x:ak)(bt:Nat):Nat->List Int->List (List Int)
 |0,pre=>if mH x (pre.length-1) (pre.getLastD 0)then[cz pre]else[]
 |d+1,pre=>if mH x (pre.length-1) (pre.getLastD 0)then(SR (x.am.toNat+1)).flatMap λn:Nat=>if pre.length=1/\n≠bt then[]else mY x bt d (pre++[pre.getLastD 0+(n:Int)])else[]
def jW (x:ak)(bt:Nat):List (List Int):=mY x bt x.hours.toNat [x.first]
def lM (h:List Int)(y:aB)(n:Nat):Bool:=decide (h.getD 0 0+n<h.getD 3 0)&&gQ y.number (h.getD 0 0+n)&&gQ y.hour (jw h (h.getD 0 0+n))
def jC (p:Nat->Bool):Nat->Nat
 |0=>0
 |n+1=>if p n then jC p n|||2^n else jC p n
theorem CW{p:Nat->Bool}:∀{n i:Nat},(jC p n).testBit i=(decide (i<n)&&p i)
 |0,i=>by simp[jC]
 |n+1,i=>by
  have ih:=CW (p:=p) (n:=n) (i:=i);simp only[jC];by_cases hp:p n=true
  ·rw[if_pos hp,XM,ih,Wc];by_cases hi:n=i
   ·subst hi;simp[hp]
   ·have:(i<n+1)<->i<n:=(by omega);simp[hi,this]
  ·rw[if_neg hp,ih];by_cases hi:i=n
   ·subst hi;simp at hp;simp[hp]
   ·have:(i<n+1)<->i<n:=(by omega);simp[this]
theorem CV{p:Nat->Bool}:∀{n:Nat},jC p n<2^n
 |0=>by simp[jC]
 |n+1=>by
  have ih:=CV (p:=p) (n:=n);have h1:2^n<2^(n+1):=Xi (by omega) (by omega);simp only[jC];split
  ·exact WQ (Wr ih h1) h1
  ·exact Wr ih h1
def bZ (h:List Int)(y:aB):Nat:=jC (lM h y) 9
def kR:List Nat->Nat->List Nat->List (List Nat)
 |[],_,t=>[t]
 |q::qs,used,t=>(SR 9).flatMap λn=>if used.testBit n|| !q.testBit n then[]else kR qs (used|||2^n) (t++[n])
def mG (k:Nat)(ns:List Nat):List Nat->Nat->List Nat->List (List Nat)
 |[],_,o=>[o]
 |q::qs,given,o=>(SR k).flatMap λp=>if given.testBit p|| !q.testBit (ns.getD p 0)then[]else mG k ns qs (given|||2^p) (o++[p])
def lG (k:Nat)(l:List Nat):List Int:=l.map (λn:Nat=>(n:Int))++TO (k-l.length) (-1)
def dX (h:List Int)(ns:List Nat):List Int:=h++lG 4 ns++[-1, -1, -1]
def dC (h:List Int)(ns os:List Nat):List Int:=h++lG 4 ns++lG 3 os
def f_ (x:ak)(h:List Int):List (List Nat):=kR (x.pieces.map (bZ h)) 0 []
def iD (x:ak)(h:List Int)(ns:List Nat):List (List Nat):=mG x.pieces.length ns (x.aC.map (bZ h)) 0 []
def iE (x:ak)(deep:Int)(h:List Int):List (List Int):=
 let all:=(f_ x h).map λns=>(iD x h ns).map λos=>dC h ns os
 if deep=0 then all.flatten.take 1 else if deep=1 then(all.map (·.take 1)).flatten else all.flatten
end Go.Gg.Tk
namespace Go.Gg.Tk
structure Kn where
 has:Bool
 aL:List (List Int)
 az:List Nat
 hours:List Nat
 less:List Nat
 aW:List Nat
 first:List Int
def Kn.zero:Kn:=⟨false,[],[0,0,0,0],[0,0,0,0],[0,0,0,0],[0,0,0],TO 11 0⟩
def pw (l:List Nat)(p n:Nat):List Nat:=l.set p (l.getD p 0|||2^n)
def jN (hs:List (List Int))(h:List Int):List (List Int):=if h∈hs then hs else hs++[h]
def iN (t:List Int)(p:Nat):Nat:=(t.getD (4+p) 0).toNat
def Ft (t:List Int)(p:Nat):Nat:=(jw (t.take 4) (t.getD (4+p) 0+t.getD 0 0)).toNat
def sK (t:List Int)(s:Nat):Nat:=(t.getD (8+s) 0).toNat
def jR (F:Kn)(t:List Int):Kn:=if F.has then F else{F with has:=true,first:=t}
def nd (t:List Int):Nat->List Nat->List Nat
 |0,l=>l
 |s+1,l=>pw (nd t s l) s (sK t s)
def sB (t:List Int):Nat->List Nat->List Nat
 |0,l=>l
 |p+1,l=>pw (sB t p l) p (iN t p)
def xc (t:List Int):Nat->List Nat->List Nat
 |0,l=>l
 |p+1,l=>pw (xc t p l) p (Ft t p)
def xr (t:List Int)(p:Nat):Nat->List Nat->List Nat
 |0,l=>l
 |q+1,l=>if t.getD (4+p) 0<t.getD (4+q) 0 then pw (xr t p q l) p q else xr t p q l
def zt (t:List Int)(k:Nat):Nat->List Nat->List Nat
 |0,l=>l
 |p+1,l=>xr t p k (zt t k p l)
def eK (x:ak)(deep:Int)(F:Kn)(t:List Int):Kn:=
 let F:=jR F t
 if deep=2 then{F with aW:=nd t x.aC.length F.aW}
 else if deep=0 then{F with aL:=jN F.aL (t.take 4)}
 else{F with az:=sB t x.pieces.length F.az,hours:=xc t x.pieces.length F.hours,less:=zt t x.pieces.length x.pieces.length F.less}
def gR (x:ak)(deep:Int)(bt:Nat):Kn:=((jW x bt).flatMap (iE x deep)).foldl (eK x deep) Kn.zero
def l9 (l m:List Nat):List Nat:=(List.zipWith (·|||·) l m)
end Go.Gg.Tk
namespace Go.Gg
open Go.Conc Go.Gg.Tk
theorem Jl{n:Nat}(h:n<65536):S7.wrap (n:Int)=n:=by
 have h1:S7.bits=16:=rfl;have h2:S7.signed=false:=rfl;unfold Xk;rw[h1,h2];simp;omega
theorem C0{n:Nat}(h:n<65536):(Ul S7.bits (n:Int)).toNat=n:=by
 have h1:S7.bits=16:=rfl;rw[h1,BitVec.ofInt_natCast,BitVec.toNat_ofNat];omega
theorem alc{m n:Nat}(hm:m<65536):(S7.wrap (Ul S7.bits ((m:Int).fdiv (2^(min n S7.bits)))&&&Ul S7.bits 1).toNat==1)=m.testBit n:=by
 have h1:S7.bits=16:=rfl;have e:(m:Int).fdiv (2^(min n S7.bits))=((m/2^(min n 16):Nat):Int):=by
  rw[h1,Int.fdiv_eq_ediv_of_nonneg _ (by exact_mod_cast X9 _)];norm_cast
 have hlt:m/2^(min n 16)<65536:=Zs (Nat.div_le_self _ _) hm;rw[e,BitVec.toNat_and,C0 hlt,show (Ul S7.bits 1).toNat=1 from rfl,Jl (Zs Nat.and_le_left hlt)];have hb:m/2^(min n 16)&&&1=(m/2^(min n 16)) % 2:=Nat.and_one_is_mod _;rw[hb];have ht:m.testBit n=decide (m/2^n % 2=1):=Nat.testBit_eq_decide_div_mod_eq;by_cases hn:n<=16
 ·rw[WB hn,ht];by_cases h:m/2^n % 2=1
  ·simp[h]
  ·have:m/2^n % 2=0:=(by omega);simp[this]
 ·rw[Nat.min_eq_right (by omega)];have h0:m/2^16=0:=Nat.div_eq_of_lt (by omega);have h2:m.testBit n=false:=Nat.testBit_lt_two_pow (Tg hm (by calc 65536=2^16:=rfl
   _<=2^n:=UT (by omega) (by omega)))
  rw[h0,h2];rfl
theorem at2{m n:Nat}(hm:m<65536)(hn:n<16):S7.wrap (Ul S7.bits (m:Int)|||Ul S7.bits (S7.wrap (1* 2^(min n S7.bits)))).toNat=((m|||2^n:Nat):Int):=by
 have h1:S7.bits=16:=rfl;have hp:2^n<65536:=by calc 2^n<2^16:=Xi (by omega) hn
  _=65536:=rfl
 have e:S7.wrap (1* 2^(min n S7.bits))=((2^n:Nat):Int):=by
  rw[h1,WB (by omega),Int.one_mul,<- Jl hp];norm_cast
 rw[e,ZA,C0 hm,C0 hp];exact Jl (WQ (n:=16) hm hp)
theorem IF{m n:Nat}(hm:m<65536)(hn:n<65536):S7.wrap (Ul S7.bits (m:Int)|||Ul S7.bits (n:Int)).toNat=((m|||n:Nat):Int):=by
 rw[ZA,C0 hm,C0 hn];exact Jl (WQ (n:=16) hm hn)
theorem qb{m n:Nat}(hm:m<65536)(hn:n<65536):m|||n<65536:=WQ (n:=16) hm hn
theorem xL{n:Nat}(hn:n<16):2^n<65536:=by calc 2^n<2^16:=Xi (by omega) hn
  _=65536:=rfl
abbrev wv (m:Nat):AV:=.val (.int .u16 m)
def cW {S:Type}(Gf:S->List aa)(pv:AV)(k kp:AV->List aa->Prop)(M:List aa):dE S->Prop
 |.go s=>k (.val (.bool true)) (Gf s++M)
 |.stop s=>k (.val (.bool false)) (Gf s++M)
 |.bad s=>kp pv (Gf s++M)
def gg {S:Type}(Gf:S->List aa)(pv:AV)(k kp:AV->List aa->Prop)(M:List aa):dE S->Prop
 |.go s=>k (.aQ []) (Gf s++M)
 |.stop s=>k (.aQ []) (Gf s++M)
 |.bad s=>kp pv (Gf s++M)
structure jQ (lv:Bool)(P:SI)(yv:AV){S:Type}(f:S->List Int->dE S)(Gf:S->List aa)(N:Nat)(I:S->Prop)(A:List Int->Prop)(pv:AV):Prop where
 call:∀(σ:S)(a:List Int)(M:List aa)(k kp:AV->List aa->Prop),I σ->A a->cW Gf pv k kp M (f σ a)->je lv P yv (Gf σ++M) [.agg (a.map λn=> .val (.int .i64 n))] k kp
 inv:∀σ a σ',I σ->A a->f σ a=.go σ'->I σ'
 len:∀σ,(Gf σ).length=N
 ok:∀m σ σ',(∀z∈Gf σ,eZ m z)->∀z∈Gf σ',eZ m z
 sure:yv.sure=true
 parts:yv.parts=some [yv]
 leaf:yv.leaf=true
theorem jQ.get{lv:Bool}{P:SI}{yv:AV}{S:Type}{f:S->List Int->dE S}{Gf:S->List aa}{N:Nat}{I:S->Prop}{A:List Int->Prop}{pv:AV}(h:jQ lv P yv f Gf N I A pv)(σ:S)(L:List aa)(i:Nat):(Gf σ++L)[N+i]?=L[i]?:=by
 rw[<- h.len σ,S_ (by omega)];congr 1;omega
theorem jQ.set{lv:Bool}{P:SI}{yv:AV}{S:Type}{f:S->List Int->dE S}{Gf:S->List aa}{N:Nat}{I:S->Prop}{A:List Int->Prop}{pv:AV}(h:jQ lv P yv f Gf N I A pv)(σ:S)(L:List aa)(i:Nat)(x:aa):(Gf σ++L).set (N+i) x=Gf σ++L.set i x:=by
 rw[<- h.len σ,Ue _ _ (by omega)];congr 2;omega
theorem jQ.aq{lv:Bool}{P:SI}{yv:AV}{S:Type}{f:S->List Int->dE S}{Gf:S->List aa}{N:Nat}{I:S->Prop}{A:List Int->Prop}{pv:AV}(h:jQ lv P yv f Gf N I A pv){σ:S}{M:List aa}(hH:bJ (Gf σ++M))(σ':S):bJ (Gf σ'++M):=λz hz=>by
 have hl:(Gf σ'++M).length=(Gf σ++M).length:=by simp[h.len]
 rw[hl];rcases SV.1 hz with h'|h'
 ·exact h.ok _ σ σ' (λw hw=>hH w (Ti _ hw)) z h'
 ·exact hH z (S5 _ h')
def sY (l:Nat)(S:Nat->AS)(ok:Nat->Prop)(m:Nat)(Φ:an->AS->Prop):an->AS->Prop
 |.goto l',s=>l'=l/\∃m',m'<m/\ok m'/\s.Sub (S m')
 |e,s=>Φ e s
section
variable {lv:Bool}{P:SI}{r:Option Nat}{s:AS}
end
theorem aoq(l:Nat)(S:Nat->AS)(ok:Nat->Prop)(m:Nat)(Φ:an->AS->Prop)(s:AS):sY l S ok m Φ .normal s=Φ .normal s:=by rw[sY];simp
theorem aos(l:Nat)(S:Nat->AS)(ok:Nat->Prop)(m:Nat)(Φ:an->AS->Prop)(s:AS):sY l S ok m Φ .ret s=Φ .ret s:=by rw[sY];simp
theorem aop(l:Nat)(S:Nat->AS)(ok:Nat->Prop)(m:Nat)(Φ:an->AS->Prop)(i:Nat)(s:AS):sY l S ok m Φ (.exit i) s=Φ (.exit i) s:=by rw[sY];simp
theorem aor(l:Nat)(S:Nat->AS)(ok:Nat->Prop)(m:Nat)(Φ:an->AS->Prop)(a:AV)(s:AS):sY l S ok m Φ (.panic a) s=Φ (.panic a) s:=by rw[sY];simp
@[congr] theorem avB {l m : Nat} {S : Nat -> AS} {ok : Nat -> Prop} {s s' : AS} {Φ : an -> AS -> Prop} {e e' : an} (he : e = e') (h : s = s') : sY l S ok m Φ e s = sY l S ok m Φ e' s' := by rw [he, h]
attribute [seval] aoq aos aop aor
open Go.Proofs
namespace Tk
def iQ.l (b:iQ):List AV:=[iv b.min,iv b.max]
def iQ.av (b:iQ):AV:=.agg b.l
def aB.l (y:aB):List AV:=[iv y.number.min,iv y.number.max,iv y.hour.min,iv y.hour.max]
def aB.av (y:aB):AV:=.agg y.l
def Seen.l (s:Seen):List AV:=[iv s.hour,iv s.next.min,iv s.next.max]
def Seen.av (s:Seen):AV:=.agg s.l
def aM (xs:List Int):AV:=.sl xs.length (xs.map iv) .shut
def kX (ls:List (List Int)):AV:=.sl ls.length (ls.map aM) .shut
def aN (xs:List aB):AV:=.sl xs.length (xs.flatMap aB.l) .shut
def c_ (xs:List Seen):AV:=.sl xs.length (xs.flatMap Seen.l) .shut
def ak.l (x:ak):List AV:=[iv x.first,iv x.hours,iv x.am,c_ x.seen,aN x.pieces,aN x.aC]
def ak.av (x:ak):AV:=.agg x.l
theorem aB.len(b:aB):b.l.length=4:=rfl
theorem Seen.len(b:Seen):b.l.length=3:=rfl
end Tk
section
variable {i:Nat}
theorem dN{xs:List Int}{x:Int}(h:xs[i]?=some x):AV.shift i (.rp (xs.map iv))=some (.rp (iv x::(xs.drop (i+1)).map iv)):=by have:=Pl (f:=iv) h;rwa [Y9]at this
theorem v7{xs:List (List Int)}{x:List Int}(h:xs[i]?=some x):AV.shift i (.rp (xs.map aM))=some (.rp (aM x::(xs.drop (i+1)).map aM)):=by have:=Pl (f:=aM) h;rwa [Y9]at this
theorem xG{xs:List aB}{x:aB}(h:xs[i]?=some x):AV.shift (i* 4) (.rp (xs.flatMap aB.l))=some (.rp (iv x.number.min::iv x.number.max::iv x.hour.min::iv x.hour.max::(xs.drop (i+1)).flatMap aB.l)):=Pk aB.len h
theorem Pj{xs:List Seen}{x:Seen}(h:xs[i]?=some x):AV.shift (i* 3) (.rp (xs.flatMap Seen.l))=some (.rp (iv x.hour::iv x.next.min::iv x.next.max::(xs.drop (i+1)).flatMap Seen.l)):=Pk Seen.len h
end
theorem zu(n:Nat)(xs:List Int):Lt n (aM xs)=True:=by simp[aM,p8,dZ]
theorem BD(n:Nat)(xs:List (List Int)):Lt n (kX xs)=True:=by
 simp only[kX,p8,Tf,eq_iff_iff,iff_true]
 rintro a ⟨b,_,rfl⟩
 rw[zu];trivial
theorem Ig(n:Nat)(xs:List aB):Lt n (aN xs)=True:=by
 simp only[aN,p8,S4,eq_iff_iff,iff_true]
 rintro a ⟨b,_,h⟩
 simp only[aB.l,SK,SZ,or_false]at h;rcases h with rfl|rfl|rfl|rfl<;>exact .val _
theorem acj(n:Nat)(xs:List Seen):Lt n (c_ xs)=True:=by
 simp only[c_,p8,S4,eq_iff_iff,iff_true]
 rintro a ⟨b,_,h⟩
 simp only[Seen.l,SK,SZ,or_false]at h;rcases h with rfl|rfl|rfl<;>exact .val _
theorem EM(n:Nat)(x:ak):∀a∈x.l,Lt n a:=by
 intro a ha;simp only[ak.l,SK,SZ,or_false]at ha;rcases ha with rfl|rfl|rfl|rfl|rfl|rfl
 ·exact .val _
 ·exact .val _
 ·exact .val _
 ·rw[acj];trivial
 ·rw[Ig];trivial
 ·rw[Ig];trivial
theorem EL(n:Nat)(x:ak):Lt n x.av=True:=by simp only[ak.av,uk,eq_iff_iff,iff_true];exact EM n x
open Go.Conc Go.Proofs Go.Gg.Tk
namespace Tk
structure mM (h:List Int):Prop where
 len:h.length=4
 lo:∀a∈h,0<=a
 hi:∀a∈h,a<=1000
 span:h.getD 3 0<=h.getD 0 0+9
theorem mM.out{h:List Int}(k:mM h):∃a b c d,h=[a,b,c,d]/\(0<=a/\a<=1000)/\(0<=b/\b<=1000)/\(0<=c/\c<=1000)/\(0<=d/\d<=1000)/\d<=a+9:=by
 match h,k with
 |[a,b,c,d],k=>exact⟨a,b,c,d,rfl,⟨k.lo a (by simp),k.hi a (by simp)⟩,⟨k.lo b (by simp),k.hi b (by simp)⟩,⟨k.lo c (by simp),k.hi c (by simp)⟩,⟨k.lo d (by simp),k.hi d (by simp)⟩,by simpa using k.span⟩
theorem akr{h:List Int}{y:aB}{n:Nat}(hn:(h.getD 3 0-h.getD 0 0).toNat<=n):lM h y n=false:=by
 unfold lM;rw[show decide (h.getD 0 0+(n:Int)<h.getD 3 0)=false from decide_eq_false (by omega)];rfl
theorem aks{h:List Int}{y:aB}(hs:h.getD 3 0<=h.getD 0 0+9):bZ h y=jC (lM h y) (h.getD 3 0-h.getD 0 0).toNat:=by
 apply Nat.eq_of_testBit_eq;intro i;unfold bZ;rw[CW,CW];by_cases hi:i<(h.getD 3 0-h.getD 0 0).toNat
 ·have h9:i<9:=by omega
  rw[decide_eq_true hi,decide_eq_true h9]
 ·rw[akr (by omega)];simp
theorem Sq(h:List Int)(y:aB):bZ h y<512:=CV (n:=9)
end Tk
theorem wG{α:Type}{xs:List α}{i:Nat}{x:α}(h:xs[i]?=some x):xs.drop i=x::xs.drop (i+1):=by
 obtain⟨h1,h2⟩:=SL.1 h;rw[T4 h1,h2]
section
variable {lv:Bool}{H:List aa}{k kp:AV->List aa->Prop}
theorem K0{b:iQ}{n:Int}(hk:k (bv (gQ b n)) H):ba lv SA 88 H [b.av,iv n] k kp:=by
 refine bD (rs:=[.tmp 4]) (nt:=15) Tryz.f88 λhH hA=> ?_;simp only[bp,SU,iQ.av,iQ.l];refine aj ?_;refine aj ?_;refine yy (λh=> ?_) (λh=> ?_)
 ·(try simp only[seval]);refine aX ?_;exact ji hH (by simpa[gQ,h]using hk)
 ·(try simp only[seval]);refine aX ?_;exact ji hH (by simpa[gQ,h]using hk)
theorem Sk{h:List Int}{n:Int}(h4:h.length=4)(hk:k (iv (jw h n)) H):ba lv SA 90 H [.agg (h.map iv),iv n] k kp:=by
 refine bD (rs:=[.tmp 4]) (nt:=24) Tryz.f90 λhH hA=> ?_;simp only[bp,SU];have oU:(h.map iv).length=4:=by simp[h4]
 refine aj ?_;refine aj ?_;refine bP ?_;refine qu 3 (λi:Nat=>[(6,iv i)]) (λ_=>_) (λi=>jw h n=fE i (h.drop i) n) rfl (λbw bG i cw hi R hR=> ?_);refine aj ?_;refine aD ?_;refine⟨λhc=> ?_,λhc=> ?_⟩
 ·
  have qI:i<3:=by omega
  obtain⟨a,ha⟩:=bE (xs:=h) (i:=i) (by omega);obtain⟨b,hb⟩:=bE (xs:=h) (i:=i+1) (by omega);have e4:(0<=(i:Int)/\(i:Int)<4)=True:=by simp;omega
  have RG:(0<=(i:Int)+1/\(i:Int)+1<4)=True:=by simp;omega
  have hw:SD.wrap ((i:Int)+1)=(i:Int)+1:=bc _ (by omega);have nW:((i:Int)+1).toNat=i+1:=by omega
  have lz:fE i (h.drop i) n=if a<=n/\n<b then(i:Int)else fE (i+1) (h.drop (i+1)) n:=by
   rw[wG ha,wG hb];simp only[fE]
  refine aF ?_;refine aj ?_;refine ab ?_;simp only[seval,e4,RG,hw,nW,lc ha,lc hb];refine yy (λh2=> ?_) (λh2=> ?_)
  ·(try simp only[seval,e4,RG,hw,nW,lc ha,lc hb]);refine aD ?_;refine⟨λh3=> ?_,λh3=> ?_⟩
   ·refine aj ?_;refine aX ?_;rw[hi,lz,if_pos ⟨of_decide_eq_true h2,h3⟩]at hk;exact ji hH hk
   ·refine aF ?_;refine ab ?_;simp only[seval,hw];refine hR _ ⟨by omega,?_,bX⟩;rw[hi,lz,if_neg (λq=>h3 q.2)]
  ·(try simp only[seval]);refine aD ?_;refine aF ?_;refine ab ?_;simp only[seval,hw];refine hR _ ⟨by omega,?_,bX⟩;rw[hi,lz,if_neg (λq=>by simp at h2;omega)]
 ·
  have:i=3:=by omega
  subst this;refine bO ?_;refine aj ?_;refine aX ?_;have hm:fE 3 (h.drop 3) n= -1:=by
   match h,h4 with
   |[a,b,c,d],_=>rfl
  rw[hi,hm]at hk;exact ji hH hk
theorem yo{m n:Nat}(hm:m<65536)(hk:k (bv (m.testBit n)) H):ba lv SA 67 H [wv m,iv n] k kp:=by
 refine bD (rs:=[.tmp 4]) (nt:=10) Tryz.f67 λhH hA=> ?_;simp only[bp,SU];refine aj ?_;refine ab ?_;simp only[seval,CK,afQ];refine aX ?_;refine ce ?_;rw[alc hm];exact hk
theorem uU{m n:Nat}(hm:m<65536)(hn:n<16)(hk:k (wv (m|||2^n)) H):ba lv SA 68 H [wv m,iv n] k kp:=by
 refine bD (rs:=[.tmp 4]) (nt:=9) Tryz.f68 λhH hA=> ?_;simp only[bp,SU];refine aj ?_;refine ab ?_;simp only[seval,af0,CJ];refine aX ?_;refine ce ?_;rw[at2 hm hn];exact hk
theorem Gu{h:List Int}{y:aB}(hh:mM h)(hk:k (wv (bZ h y)) H):ba lv SA 65 H [.agg (h.map iv),y.av] k kp:=by
 refine bD (rs:=[.tmp 4]) (nt:=34) Tryz.f65 λhH hA=> ?_;simp only[bp,SU,aB.av,aB.l];obtain⟨a,b,c,d,rfl,ha,hb,hc,hd,hs⟩:=hh.out;have pE:bZ [a,b,c,d] y=jC (lM [a,b,c,d] y) (d-a).toNat:=aks hs;have hz:wv (jC (lM [a,b,c,d] y) 0)=wv 0:=rfl;refine aj ?_;refine aj ?_;refine aj ?_;refine bP ?_;refine ek (d-a).toNat (λi:Nat=>[(6,iv (a+i)),(5,wv (jC (lM [a,b,c,d] y) i))]) (λ_=>_) (λi=>True) (λ_ _=>rfl) (by rw[hz];simp only[seval];simp[bk,Wk.refl];exact Wk.refl _) rfl (λ_ _ _=>rfl) trivial (λbw bG i cw hi R hR=> ?_);refine aj ?_;refine aD ?_;have cO:jC (lM [a,b,c,d] y) i<65536:=Tg CV (TL (UT (by omega) (show i<=16 by omega)) (by decide));refine⟨λhc=> ?_,λhc=> ?_⟩
 ·
  have hlt:i<(d-a).toNat:=by omega
  have hw:SD.wrap (a+(i:Int)+1)=a+((i+1:Nat):Int):=by rw[bc _ (by omega)];push_cast;omega
  have ep:SD.wrap (a+(i:Int)-a)=(i:Int):=by rw[bc _ (by omega)];omega
  have GX:lM [a,b,c,d] y i=(gQ y.number (a+i)&&gQ y.hour (jw [a,b,c,d] (a+i))):=by
   unfold lM;rw[show decide ([a,b,c,d].getD 0 0+(i:Int)<[a,b,c,d].getD 3 0)=true from decide_eq_true (show a+(i:Int)<d by omega),UP];rfl
  refine aF ?_;refine bP ?_;refine ej 12 ?_;simp only[seval];refine gB (bv (gQ y.number (a+i))) (dc (K0 (b:=y.number) ⟨rfl,rfl⟩)) ?_;(try simp only[seval]);refine yy (λh2=> ?_) (λh2=> ?_)
  ·(try simp only[seval]);refine gB (iv (jw [a,b,c,d] (a+i))) (dc (Sk (h:=[a,b,c,d]) rfl ⟨rfl,rfl⟩)) ?_;(try simp only[seval]);refine gB (bv (gQ y.hour (jw [a,b,c,d] (a+i)))) (dc (K0 (b:=y.hour) ⟨rfl,rfl⟩)) ?_;(try simp only[seval]);refine aD ?_;rw[h2,UP]at GX;refine⟨λh3=> ?_,λh3=> ?_⟩
   ·refine ab ?_;simp only[seval,ep];refine aK ((uU cO (show i<16 by omega) ?_));(try simp only[seval]);refine ab ?_;simp only[seval,hw];refine hR _ ⟨by omega,trivial,?_⟩;rw[show jC (lM [a,b,c,d] y) (i+1)=jC (lM [a,b,c,d] y) i|||2^i from by rw[jC,GX,h3];rfl];exact bX
   ·refine aF ?_;refine ab ?_;simp only[seval,hw];refine hR _ ⟨by omega,trivial,?_⟩;rw[show jC (lM [a,b,c,d] y) (i+1)=jC (lM [a,b,c,d] y) i from by rw[jC,GX,h3];rfl];exact bX
  ·(try simp only[seval]);refine aD ?_;refine aF ?_;refine ab ?_;simp only[seval,hw];refine hR _ ⟨by omega,trivial,?_⟩;rw[show jC (lM [a,b,c,d] y) (i+1)=jC (lM [a,b,c,d] y) i from by rw[jC,GX,show gQ y.number (a+i)=false by simpa using h2];rfl];exact bX
 ·have:i=(d-a).toNat:=by omega
  subst this;refine bO ?_;refine aj ?_;refine aX ?_;rw[pE]at hk;exact ji hH hk
end
open Go.Conc Go.Proofs Go.Gg.Tk
namespace Tk
structure sU (b:iQ)(hi:Int):Prop where
 min:0<=b.min
 le:b.min<=b.max
 max:b.max<=hi
structure JD (x:ak)(y:aB):Prop where
 number:sU y.number 99
 hour:sU y.hour (x.hours-1)
structure ak.Ok (x:ak):Prop where
 first:0<=x.first/\x.first<=90
 hours:1<=x.hours/\x.hours<=3
 am:1<=x.am/\x.am<=3
 xE:x.seen.length<=3
 ee:x.pieces.length<=4
 db:x.aC.length<=3
 seen:∀s∈x.seen,(0<=s.hour/\s.hour<=x.hours)/\sU s.next 99
 piece:∀y∈x.pieces,JD x y
 stub:∀y∈x.aC,JD x y
def ur (hour:Nat)(n:Int)(s:Seen):Bool:= !decide (s.hour=hour)||gQ s.next n
theorem adx(x:ak)(hour:Nat)(n:Int):mH x hour n=x.seen.all (ur hour n):=rfl
end Tk
theorem fU{H L:List aa}{i:Nat}{x:aa}(h:H[i]?=some x):(H++L)[i]?=some x:=by rw[S0 (SL.1 h).1];exact h
theorem aZ(Hs L:List aa)(i:Nat):(Hs++L)[Hs.length+i]?=L[i]?:=by rw[S_ (by omega)];congr 1;omega
theorem dH(Hs L:List aa)(i:Nat)(y:aa):(Hs++L).set (Hs.length+i) y=Hs++L.set i y:=by rw[Ue _ _ (by omega)];congr 2;omega
section
variable {lv:Bool}{H:List aa}{k kp:AV->List aa->Prop}
theorem Sj{x:ak}{h:List Int}{hour ir ih:Nat}{n:Int}(hx:x.Ok)(h4:h.length=4)(hn:h[hour]?=some n)(hr:H[ir]?=some (.cells x.l 76))(hi:H[ih]?=some (.cells (h.map iv) 83))(hk:k (bv (mH x hour n)) H):ba lv SA 87 H [iv hour,.op ir 0,.op ih 0] k kp:=by
 refine bD (rs:=[.tmp 4]) (nt:=29) Tryz.f87 λhH hA=> ?_;simp only[bp,SU];have pK:hour<4:=by have:=eW hn;omega
 have b4:(0<=(hour:Int)/\(hour:Int)<4)=True:=by simp;omega
 have hlen:=hx.xE;have za:∀L:List aa,(H++L)[ir]?=some (.cells x.l 76):=λL=>fU hr;have cE:∀L:List aa,(H++L)[ih]?=some (.cells (h.map iv) 83):=λL=>fU hi;have bU:x.l=[iv x.first,iv x.hours,iv x.am,c_ x.seen,aN x.pieces,aN x.aC]:=rfl;refine aj ?_;refine ab ?_;simp only[seval,hr,bU,c_];refine bP ?_;refine qu x.seen.length (λi:Nat=>[(11,iv i)]) (λ_=>H) (λi=>x.seen.all (ur hour n)=(x.seen.drop i).all (ur hour n)) rfl (λbw bG i cw hI R hR=> ?_);refine aj ?_;refine aD ?_;refine⟨λhc=> ?_,λhc=> ?_⟩
 ·
  have br:i<x.seen.length:=by omega
  obtain⟨s,hs⟩:=bE br;have lz:x.seen.all (ur hour n)=(ur hour n s&&(x.seen.drop (i+1)).all (ur hour n)):=by rw[hI,wG hs];rfl
  have hw:SD.wrap ((i:Int)+1)=((i+1:Nat):Int):=by rw[bc _ (by omega)];rfl
  refine aF ?_;refine ab ?_;simp only[seval,Pj hs,iR br];refine ej 13 ?_;simp only[seval,cE,b4,lc hn];refine yy (λh2=> ?_) (λh2=> ?_)
  ·(try simp only[seval,cE,b4,lc hn]);refine gB (bv (gQ s.next n)) (dc (K0 (b:=s.next) ⟨rfl,rfl⟩)) ?_;(try simp only[seval]);refine aD ?_;have hp:ur hour n s=gQ s.next n:=(by unfold ur;rw[decide_eq_true (show s.hour=(hour:Int) by simpa using h2)];rfl);rw[hp]at lz;refine⟨λh3=> ?_,λh3=> ?_⟩
   ·refine aj ?_;refine aX ?_;rw[adx,lz,h3]at hk;exact ji hH hk
   ·refine aF ?_;refine ab ?_;simp only[seval,hw];refine hR _ ⟨br,?_,(adp bw)⟩;rw[lz,h3];rfl
  ·(try simp only[seval]);refine aD ?_;refine aF ?_;have hp:ur hour n s=true:=(by unfold ur;rw[decide_eq_false (show ¬s.hour=(hour:Int) by simpa using h2)];rfl);rw[hp]at lz;refine ab ?_;simp only[seval,hw];refine hR _ ⟨br,?_,(adp bw)⟩;rw[lz];rfl
 ·
  have:i=x.seen.length:=by omega
  subst this;refine bO ?_;refine aj ?_;refine aX ?_;rw[adx,hI,List.drop_length]at hk;exact ce hk
end
end Go.Gg
