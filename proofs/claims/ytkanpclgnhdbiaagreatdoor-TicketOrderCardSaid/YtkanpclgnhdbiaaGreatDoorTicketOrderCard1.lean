/- A part of the proof. -/
import Derived.Test.YtkanpclgnhdbiaaGreatDoorTicketOrderCard0
import Derived.Test.YtkanpclgnhdbiaaGreatDoorProg
import Derived.KernelRfl
set_option linter.all false
set_option maxRecDepth 4000
set_option maxHeartbeats 4000000
open Array renaming all_eq_true_iff_forall_mem->UE,ext'->VC,getD_eq_getD_getElem?->SI,getElem?_append_left->Yc,getElem?_eq_getElem->SJ,getElem?_eq_none->YA,getElem?_eq_some_iff->SS,getElem?_modify->Wj,getElem?_setIfInBounds_ne->SR,getElem?_setIfInBounds_self_of_lt->S9,getElem_mem->XX,mem_iff_getElem?->V_,mem_of_getElem?->W5,range->WK,replicate->TE,toList_map->VM
open BitVec renaming ofInt->Ud,toNat_or->Zn
open Bool renaming and_eq_true->Ti,eq_iff_iff->UI,false_and->Xr,false_eq_true->TM,false_or->Zv,not_eq_true'->TV,not_true->am',or_eq_true->X6,true_and->U5
open Classical renaming byContradiction->Tt
open ForInStep renaming yield->YZ
open Go renaming Addr->U4,BinOp->VZ,Call->Xq,CallKind->Xg,Code->T7,Deferred->UX,Event->Uq,Field->YW,Frame->T8,FrameMode->U9,Func->YD,FuncId->TN,Goroutine->SH,IntKind->TU,Item->WW,Loop->asI,LoopState->aa_,MapEntry->Wm,Oper->Tx,Operand->Tl,Program->SK,ResultVar->UM,TypeInfo->Wl,Value->SO,World->Tq
open Go.Act renaming put->Ws
open Go.BinOp renaming eql->XK,neq->VW
open Go.Call renaming operands->VO
open Go.CallKind renaming deferred->YN,early->U7,normal->Y6
open Go.Deferred renaming ofValue->U3
open Go.Frame renaming catches->ZW,round->Xb
open Go.FrameMode renaming returning->Yr
open Go.GStep renaming after->TZ
open Go.Instr renaming beginRound->XJ,checkKey->Vb,endLoop->ZN,endRound->W7,enterLoop->WZ,findAsking->XI,findKey->VN,getLoop->WJ,sameBits->WB,takeDeferred->Y4
open Go.IntKind renaming bits->atx,i64->SF,signed->atw,u16->S7,u32->al_,u64->TA,wrap->Xe
open Go.LoopState renaming busy->asg
open Go.Next renaming value->W6
open Go.Op renaming equal->Xj,equalIn->U_,operands->Tu
open Go.Operand renaming tmp->ZB
open Go.Proofs.Tryz renaming f77->XQ,f97->att,prog->SC
open Go.Region renaming binds->Yq,linearise->XB,schedule->Vf,wanted->Tc
open Go.Region.linearise renaming go->Us
open Go.Result.ok renaming inj->aq_
open Go.Sem renaming runT->VG,runT_eq->TB
open Go.Value renaming agg->TD,bool->Xd,cells->Z_,chan->XS,int->SG,map->Zr,nilFunc->YT,slice->Ur
open Go.stepG renaming exec->Ub
open Int renaming toNat_natCast->Vz
open List renaming all_cons->ZS,all_eq_true->Tv,any_cons->YS,any_eq_true->UL,append_assoc->SD,append_nil->SZ,cons_append->VE,contains_eq_mem->Up,countP_le_length->Xa,drop_drop->ae_,drop_eq_getElem_cons->TW,drop_eq_nil_of_le->TO,drop_zero->XA,ext_getElem?->Yo,filter_congr->Vj,filter_cons_of_neg->Yv,filter_cons_of_pos->Yu,foldl_cons->UY,forIn_cons->W3,getD_eq_getElem?_getD->SE,getElem?_append_left->SW,getElem?_append_right->Tg,getElem?_cons_succ->UH,getElem?_eq_getElem->SP,getElem?_eq_none->Uu,getElem?_eq_some_iff->SN,getElem?_map->Tj,getElem?_set_ne->T5,getElem?_set_self->W_,getElem?_take->Ua,getLastD_cons->Zp,length_append->SQ,length_drop->Uk,length_map->To,length_set->TQ,length_singleton->T6,length_take->T_,mapM_cons->Ue,mapM_nil->UF,mapM_toArray->X4,map_congr_left->VA,map_cons->UW,map_drop->ai',map_map->X2,map_take->VU,mem_append->SV,mem_append_left->Th,mem_append_right->S5,mem_cons->SL,mem_cons_of_mem->Ta,mem_cons_self->TC,mem_eraseDups->Y8,mem_filter->Uj,mem_filterMap->VD,mem_flatMap->S6,mem_map->Tn,mem_of_getElem?->Tf,mem_range->TG,mem_range'->X0,mem_toArray->TJ,nil_append->Uw,nodup_cons->VS,nodup_nil->WN,range->S0,range'->T4,range'_append_1->Y7,range'_succ->VR,range_eq_range'->Vo,replicate->TL,replicate_succ->Wv,reverse_nil->XY,set_append_left->Wz,set_append_right->UO,singleton_append->Y2,take_append_drop->Vg,take_of_length_le->SY,take_succ_cons->VQ,take_zero->an_
open Nat renaming add_mul->Vd,add_zero->UK,le_refl->SU,le_trans->UB,lt_of_le_of_lt->Ze,lt_of_lt_of_le->Td,lt_trans->Wo,lt_trichotomy->Wb,min_eq_left->Wx,mod_lt->as',mul_le_mul_right->Uc,mul_one->ZP,or_lt_two_pow->WL,pow_le_pow_right->ZO,pow_lt_pow_right->Xc,sub_self->U6,sub_zero->Z0,testBit_or->Xo,testBit_two_pow->VP,zero_add->Wt,zero_le->Yd
open Option renaming bind_eq_some_iff->S_,getD_some->S8,map_eq_some_iff->Tp,map_some->UN,some->SM
open Option.some renaming injEq->Tm
open Std.Legacy.Range renaming forIn_eq_forIn_range'->Ww,size->Xu
namespace Go.Gg
open Go.Conc
structure HQ (k:AV->Prop):Type where
 n:Nat
structure HP (X:Bool->Prop)(Z:Prop):Type where
 n:Nat
def QG (a:AV)(X:Bool->Prop)(Z:Prop)(_t:HP X Z):Prop:=(∃b,a=.val (.bool b)/\X b)\/(a=.val undef/\Z)
theorem aoO(b:Bool)(X:Bool->Prop)(Z:Prop)(t:HP X Z):QG (.val (.bool b)) X Z t=X b:=by
 unfold QG;refine propext ⟨λh=> ?_,λh=> .inl ⟨b,rfl,h⟩⟩;rcases h with⟨b',e,h⟩|⟨e,_⟩
 ·cases e;exact h
 ·cases e
theorem aoP(X:Bool->Prop)(Z:Prop)(t:HP X Z):QG (.val undef) X Z t=Z:=by
 unfold QG;refine propext ⟨λh=> ?_,λh=> .inr ⟨rfl,h⟩⟩;rcases h with⟨b',e,_⟩|⟨_,h⟩
 ·cases e
 ·exact h
def NO (lv:Bool)(P:SK)(f:AV)(H:List aa)(aG:List AV)(k:AV->Prop)(_t:HQ k):Prop:=∃av,iY lv P f H aG (λb H'=>b=av/\H'=H) (λ_ _=>False)/\k av
def ady (lv:Bool)(P:SK)(f:AV)(name:String)(H:List aa)(aG:List AV)(k:AV->Prop)(_t:HQ k):Prop:=∃av,DK lv P f name H aG (λb H'=>b=av/\H'=H) (λ_ _=>False)/\k av
theorem iG{lv:Bool}{P:SK}{f:AV}{H:List aa}{aG:List AV}{k:AV->Prop}{t:HQ k}(av:AV)(h:iY lv P f H aG (λb H'=>b=av/\H'=H) (λ_ _=>False))(hk:k av):NO lv P f H aG k t:=⟨av,h,hk⟩
section
variable (lv:Bool)(P:SK)
def AQ (s:AS)(o:Tx)(k:AV->Prop):Prop:=match o.op with
 |.call c=>match c.callee with
  |.value x=>ap (s.ev x) λf=>ap (fl s c.args.toList) λaG=>NO lv P f s.H aG k ⟨0⟩
  |.invoke x name=>ap (s.ev x) λf=>ap (fl s c.args.toList) λaG=>ady lv P f name s.H aG k ⟨0⟩
  |.builtin .append=>match c.args.toList,c.argTypes.toList with
   |[x,y],[t,t']=>ap (jL P t t') λ(_,sz,_)=>ap (s.ev x) λa=>ap (s.ev y) λb=>a.vt λn l e=>e=.exact/\ap (s.src sz b) λ(m,l')=>l.length=n* sz/\l'.length=m* sz/\n+m<=2^30/\k (.sl (n+m) (l++l') .shut)
   |_,_=>False
  |_=>lC P s o k
 |_=>lC P s o k
def m9 (all:Array Tx):List Tx->AS->(AS->Prop)->Prop
 |[],s,K=>K s
 |o::rest,s,K=>match o.guard with
  |none=>AQ lv P s o λav=>m9 all rest (s.put o.dst av) K
  |some (j,bJ)=>ap ((all[j]?).bind (·.dst)) λd=>ap (look s.T d) λa=>QG a (λb=>qK b bJ (AQ lv P ⟨(d,.val (.bool bJ))::s.T,s.H⟩ o λav=>m9 all rest ((⟨(d,.val (.bool bJ))::s.T,s.H⟩:AS).put o.dst av) K) (m9 all rest ((⟨(d,.val (.bool !bJ))::s.T,s.H⟩:AS).put o.dst (.val undef)) K) ⟨0⟩) (m9 all rest (s.put o.dst (.val undef)) K) ⟨0⟩
end
section
variable {lv:Bool}{P:SK}{r:Option Nat}{o:Tx}{s:AS}
theorem abE{a:Act}{E:Env}{V:View}{av:AV}{N:Act->View->Prop}{Q:Ex->Act->View->Prop}(h1:∀E' V' v,E.Le E'->V'.role=V.role->V'.deaf=V.deaf->Conc E' V' s.H->aq E' av v->N (a.put o.dst v) V'):
  (∀nx V',Nx lv P (gO E V (λb H'=>b=av/\H'=s.H) (λ_ _=>False)) nx V'->mG lv P r o a N Q nx V')/\(∀v V',gO E V (λb H'=>b=av/\H'=s.H) (λ_ _=>False) (.panic [{v,recovered:=false}]) V'->Q (.panic [{v,recovered:=false}]) a V'):=by
 have hv:∀v V',gO E V (λb H'=>b=av/\H'=s.H) (λ_ _=>False) (.ret v) V'->N (a.put o.dst v) V':=λv V' ⟨b,E',H',hle,bY,eQ,bp,ba,e1,e2⟩=>by
  subst e1 e2;exact h1 E' V' v hle bY eQ ba bp
 have hp:∀ch V',gO E V (λb H'=>b=av/\H'=s.H) (λ_ _=>False) (.panic ch) V'->Q (.panic ch) a V':=λch V' ⟨pv,v,E',H',fe,hle,bY,eQ,bp,ba,hk⟩=>hk.elim;refine⟨λnx V' hn=> ?_,λv V' h=>hp _ _ h⟩;cases nx with
 |value v=>exact hv _ _ hn
 |skip=>exact hv _ _ hn
 |enter f args=>
  refine Body.mono (R':=fun
   |.ret v,V'=>N (a.put o.dst v) V'
   |.panic ch,V'=>Q (.panic ch) a V') hn λot aP h=> ?_
  cases ot with
  |ret v=>exact hv _ _ h
  |panic ch=>exact hp _ _ h
 |round l f tmps aG b=>
  refine na.mono (R':=fun
   |.ret v,V'=>N (a.put o.dst v) V'
   |.panic ch,V'=>Q (.panic ch) a V') hn λot aP h=> ?_
  cases ot with
  |ret v=>exact hv _ _ h
  |panic ch=>exact hp _ _ h
 |_=>exact hn.elim
theorem aoh{c:Xq}{x y:Tl}{t t' elem:TypeId}{sz n m:Nat}{z:SO}{l l':List AV}{av:AV}(ho:o.op=.call c)(aY:c.callee=.builtin .append)(cP:c.args=#[x,y]) (dV:c.argTypes=#[t,t']) (ht:jL P t t'=some (elem,sz,z))
  (hx:s.ev x=some (.sl n l .exact)) (hy:s.ev y=some av) (hs:s.src sz av=some (m,l')) (hl:l.length=n* sz) (eS:l'.length=m* sz) (hb:n+m<=2^30):dh lv P r o s (.sl (n+m) (l++l') .shut):=by
 intro E V a N Q hc aF bz hN;refine⟨bz,?_⟩;have dB:=aq.ev aF hx;have iN:=aq.ev aF hy;generalize ku:a.eval x=vx at dB;generalize rL:a.eval y=vy at iN;unfold execOp;rw[ho];dsimp only;unfold resolve;rw[aY];dsimp only;refine az (ay ?_);unfold invoke builtin;dsimp only;refine az ?_;have nI:c.args.map a.eval=#[vx,vy]:=by rw[cP];simp[ku,rL]
 rw[nI,dV];obtain⟨base,cap,rfl⟩:∃base cap,vx=.slice base n cap:=by
  cases dB with
  |sl b o cap f dT he q1 q2=>exact⟨_,_,rfl⟩
  |nil he=>exact⟨_,_,rfl⟩
 have gR:cap=n:=by
  cases dB with
  |sl b o cap f dT he q1 q2=>exact he
  |nil he=>rfl
 subst gR;have te:(l++l').length=(cap+m)* sz:=by rw[SQ,hl,eS,Vd]
 by_cases hm:m=0
 ·subst hm;have sX:l'=[]:=by simpa using eS
  subst sX;refine G0 hc ht iN hs eS (SU _) ?_;refine ay (hN E V _ (Env.Le.refl E) rfl rfl hc ?_);rw[UK,SZ];exact iX _ _ _ _ _ dB
 ·refine GZ hc ht dB iN hs hl eS hb (by omega) λrr cs cap' hf bp hle aU=> ?_;obtain⟨ba,rz⟩:=hc.acS (el:=elem) hf aU hle;have uE:(cap+m)* sz<=cs.size:=by rw[aU];exact Uc _ hle
  refine aR.ghost (y8 (f:=(0,0)) (cs:=cs) (el:=elem) (p:=(·<(cap+m)* sz)) (by simp[View.upd]) (λo _=>hf.2 o)) ?_;have qf:=Df (n:=s.H.length) (m:=s.H.length) (SU _) (by simp[Env.tok,hc.n]) rz hc.n;refine ay (hN _ _ _ qf rfl rfl (ba.trim hc.am) (Iz (I:=(V.laid rr cs elem (·<(cap+m)* sz)).ab) (e:=.shut) (sz:=sz) (cs:=cs) rfl (bp.mono qf) te uE (λo h=>F8 (by simpa using h)) hle trivial))
theorem AQ.sound{k:AV->Prop}(h:AQ lv P s o k):∃av,dh lv P r o s av/\k av:=by
 unfold AQ at h;split at h
 ·rename_i c ho;split at h
  ·rename_i x aY;obtain⟨f,h1,hA⟩:=h.out;obtain⟨aG,h2,hB⟩:=hA.out;obtain⟨av,h3,h4⟩:=hB;refine⟨av,λE V a N Q hc aF bz hN=> ?_,h4⟩;have rJ:=abE (lv:=lv) (P:=P) (r:=r) (o:=o) (Q:=Q) hN;refine⟨bz,?_⟩;unfold execOp;rw[ho];dsimp only;unfold resolve;rw[aY];dsimp only;have e:c.args.map a.eval=(c.args.toList.map a.eval).toArray:=(by apply VC;simp);rw[e];exact(h3 E V (a.eval x) _ hc (aq.ev aF h1) (yY aF h2)).mono (λnx V' h=>rJ.1 nx V' h) (λv V' h=>rJ.2 v V' h)
  ·rename_i x name aY;obtain⟨f,h1,hA⟩:=h.out;obtain⟨aG,h2,hB⟩:=hA.out;obtain⟨av,h3,h4⟩:=hB;refine⟨av,λE V a N Q hc aF bz hN=> ?_,h4⟩;have rJ:=abE (lv:=lv) (P:=P) (r:=r) (o:=o) (Q:=Q) hN;refine⟨bz,?_⟩;unfold execOp;rw[ho];dsimp only;unfold resolve;rw[aY];dsimp only;refine az (ay ?_);have e:c.args.map a.eval=(c.args.toList.map a.eval).toArray:=(by apply VC;simp);rw[e];exact(h3 E V (a.eval x) _ hc (aq.ev aF h1) (yY aF h2)).mono (λnx V' h=>rJ.1 nx V' h) (λv V' h=>rJ.2 v V' h)
  ·rename_i aY;split at h
   ·rename_i x y t t' ha ht;obtain⟨⟨elem,sz,z⟩,h1,hA⟩:=h.out;obtain⟨a,h2,hB⟩:=hA.out;obtain⟨b,h3,hC⟩:=hB.out;obtain⟨n,l,e,e1,e0,hD⟩:=N3 hC;subst e1 e0;obtain⟨⟨m,l'⟩,h4,h5,h6,h7,h8⟩:=hD.out;exact⟨_,aoh ho aY (nf ha) (sd ht) h1 h2 h3 h4 h5 h6 h7,h8⟩
   ·exact h.elim
  ·exact h.sound
 ·exact h.sound
end
section
variable {lv:Bool}{P:SK}{o:Tx}{T T':List (Nat×AV)}{H:List aa}{k:AV->Prop}
theorem Bm:∀(l:List Tl),(∀x∈l,AS.ev ⟨T,H⟩ x=AS.ev ⟨T',H⟩ x)->fl ⟨T,H⟩ l=fl ⟨T',H⟩ l
 |[],_=>rfl
 |x::l,h=>by simp only[fl,h x (TC ..),Bm l λy hy=>h y (Ta _ hy)]
theorem IU:∀(l:List (Nat×Tl)),(∀x∈l,AS.ev ⟨T,H⟩ x.2=AS.ev ⟨T',H⟩ x.2)->j8 ⟨T,H⟩ l=j8 ⟨T',H⟩ l
 |[],_=>rfl
 |x::l,h=>by simp only[j8,h x (TC ..),IU l λy hy=>h y (Ta _ hy)]
theorem mapM_congr:∀(l:List Tl),(∀x∈l,AS.ev ⟨T,H⟩ x=AS.ev ⟨T',H⟩ x)->l.mapM (AS.ev ⟨T,H⟩)=l.mapM (AS.ev ⟨T',H⟩)
 |[],_=>rfl
 |x::l,h=>by simp only[Ue,h x (TC ..),mapM_congr l λy hy=>h y (Ta _ hy)]
theorem Ih(x:Option Tl)(h:∀y,x=some y->AS.ev ⟨T,H⟩ y=AS.ev ⟨T',H⟩ y):AS.i_ ⟨T,H⟩ x=AS.i_ ⟨T',H⟩ x:=by
 cases x with
 |none=>rfl
 |some y=>simp only[AS.i_,h y rfl]
theorem adH{op:VZ}{t:TypeId}{y:Tl}{a:AV}(h:AS.ev ⟨T,H⟩ y=AS.ev ⟨T',H⟩ y):iH P ⟨T,H⟩ op t y a k=iH P ⟨T',H⟩ op t y a k:=by
 unfold iH;split<;>first|rfl|rw[h]
theorem lC.congr(h:∀x∈o.op.operands,AS.ev ⟨T,H⟩ x=AS.ev ⟨T',H⟩ x)(ha:lC P ⟨T,H⟩ o k):lC P ⟨T',H⟩ o k:=by
 unfold lC at ha⊢;generalize o.op=op at h ha⊢;cases op with
 |call c=>
  have cP:∀x∈c.args,AS.ev ⟨T,H⟩ x=AS.ev ⟨T',H⟩ x:=λx hx=>h x (by simp[Tu,VO,hx]);dsimp only at ha⊢;split at ha
  ·obtain⟨x,h1,hA⟩:=ha.out;rw[h1,ap];obtain⟨t,h2,hB⟩:=hA.out;rw[h2,ap];rw[<- cP x (W5 h1)];obtain⟨a,h3,hC⟩:=hB.out;rw[h3,ap];exact hC
  ·split at ha
   ·rename_i x y JG;have:=nf JG;rw[this]at cP;rw[<- cP x (by simp),<- cP y (by simp)];exact ha
   ·exact ha.elim
  ·split at ha
   ·rename_i x y JG;have:=nf JG;rw[this]at cP;rw[<- cP x (by simp),<- cP y (by simp)];exact ha
   ·exact ha.elim
  ·exact ha.elim
 |build t parts=>
  dsimp only at ha⊢;rw[<- IU parts.toList λx hx=>h x.2 (by simp only[Tu,TJ,Tn];exact⟨x,hx,rfl⟩)];exact ha
 |buildSlice t n parts=>
  dsimp only at ha⊢;rw[<- IU parts.toList λx hx=>h x.2 (by simp only[Tu,TJ,Tn];exact⟨x,hx,rfl⟩)];exact ha
 |makeFunc f first cV=>
  dsimp only at ha⊢;rw[<- mapM_congr first.toList λx hx=>h x (by simp[Tu];exact .inl (by simpa using hx)),<- mapM_congr cV.toList λx hx=>h x (by simp[Tu];exact .inr (by simpa using hx))];exact ha
 |slice t x lo hi mx=>
  dsimp only at ha⊢;rw[<- h x (by simp[Tu]),<- Ih lo λy hy=>h y (by simp[Tu,hy]),<- Ih hi λy hy=>h y (by simp[Tu,hy]),<- Ih mx λy hy=>h y (by simp[Tu,hy])];exact ha
 |pick c a b=>dsimp only at ha⊢;rw[<- h c (by simp[Tu]),<- h a (by simp[Tu]),<- h b (by simp[Tu])];exact ha
 |binOp op t a b u=>
  dsimp only at ha⊢;rw[<- h a (by simp[Tu])];obtain⟨x,h1,hA⟩:=ha.out;rw[h1,ap];rw[<- adH (h b (by simp[Tu]))];exact hA
 |indexAddr t a b=>dsimp only at ha⊢;rw[<- h a (by simp[Tu]),<- h b (by simp[Tu])];exact ha
 |index t a b=>dsimp only at ha⊢;rw[<- h a (by simp[Tu]),<- h b (by simp[Tu])];exact ha
 |move x=>dsimp only at ha⊢;rw[<- h x (by simp[Tu])];exact ha
 |assign x=>dsimp only at ha⊢;rw[<- h x (by simp[Tu])];exact ha
 |unOp op t x=>cases op<;>dsimp only at ha⊢<;>first|exact ha.elim|(rw[<- h x (by simp[Tu])];exact ha)
 |convert a b x=>dsimp only at ha⊢;rw[<- h x (by simp[Tu])];exact ha
 |lookup t m x ok=>dsimp only at ha⊢;rw[<- h m (by simp[Tu]),<- h x (by simp[Tu])];exact ha
 |extract x i=>dsimp only at ha⊢;rw[<- h x (by simp[Tu])];exact ha
 |nilCheck x=>dsimp only at ha⊢;rw[<- h x (by simp[Tu])];exact ha
 |makeInterface t x=>dsimp only at ha⊢;rw[<- h x (by simp[Tu])];exact ha
 |typeAssert x a b c=>dsimp only at ha⊢;rw[<- h x (by simp[Tu])];exact ha
 |fieldAddr t x f=>dsimp only at ha⊢;rw[<- h x (by simp[Tu])];exact ha
 |field t x f=>dsimp only at ha⊢;rw[<- h x (by simp[Tu])];exact ha
 |load t x=>dsimp only at ha⊢;rw[<- h x (by simp[Tu])];exact ha
 |entry x=>dsimp only at ha⊢;rw[<- h x (by simp[Tu])];exact ha
 |_=>exact ha.elim
theorem ap9(sz:Nat)(a:AV):AS.src ⟨T,H⟩ sz a=AS.src ⟨T',H⟩ sz a:=by cases a<;>rfl
theorem AQ.congr(h:∀x∈o.op.operands,AS.ev ⟨T,H⟩ x=AS.ev ⟨T',H⟩ x)(ha:AQ lv P ⟨T,H⟩ o k):AQ lv P ⟨T',H⟩ o k:=by
 unfold AQ at ha⊢;split at ha
 ·rename_i c ho;have cP:∀x∈c.args.toList,AS.ev ⟨T,H⟩ x=AS.ev ⟨T',H⟩ x:=λx hx=>h x (by rw[ho];simp[Tu,VO];exact .inr (by simpa using hx));split at ha
  ·rename_i x aY;rw[<- h x (by rw[ho];simp[Tu,VO,aY]),<- Bm _ cP];exact ha
  ·rename_i x name aY;rw[<- h x (by rw[ho];simp[Tu,VO,aY]),<- Bm _ cP];exact ha
  ·split at ha
   ·rename_i x y t t' hx ht;rw[hx]at cP;rw[<- cP x (by simp),<- cP y (by simp)];simp only[ap9 (T:=T) (T':=T')]at ha;exact ha
   ·exact ha.elim
  ·exact lC.congr h ha
 ·exact lC.congr h ha
end
def b9 (ops:Array Tx)(j:Nat):Option Nat:=(ops[j]?).bind (·.dst)
inductive Reach (ops:Array Tx):Nat->Nat->Prop
 |IM {i j:Nat} {o:Tx} (ho:ops[i]?=some o) (hj:j∈cK o):Reach ops i j
 |more {i k j:Nat} {o:Tx} (ho:ops[i]?=some o) (hk:k∈cK o) (h:Reach ops k j):Reach ops i j
def t_ (acc:List (List Nat))(o:Tx):List (List Nat):=acc++[(cK o++(cK o).flatMap λj=>acc.getD j []).eraseDups]
def Ip (ops:Array Tx):List (List Nat):=ops.toList.foldl t_ []
theorem ON(ops:Array Tx):∀(l:List Tx)(acc:List (List Nat))(i:Nat),acc.length=i->(∀k o,l[k]?=some o->ops[i+k]?=some o)->(∀a,a<acc.length->∀j∈acc.getD a [],Reach ops a j)->
  ∀a,∀j∈(l.foldl t_ acc).getD a [],Reach ops a j
 |[],acc,i,_,_,h,a,j,hj=>by
  simp only[List.foldl_nil]at hj;by_cases ha:a<acc.length
  ·exact h a ha j hj
  ·rw[SE,Uu (by omega)]at hj;simp at hj
 |o::l,acc,i,hi,ho,h,a,j,hj=>by
  rw[UY]at hj;refine ON ops l (t_ acc o) (i+1) (by simp[t_,hi]) (λk o' hk=>by have:=ho (k+1) o' (by simpa using hk);rwa [show i+(k+1)=i+1+k by omega]at this) (λa ha j hj=> ?_) a j hj;have Fu:ops[i]?=some o:=by have:=ho 0 o rfl;simpa using this
  have rq:∀a,a<acc.length->(t_ acc o).getD a []=acc.getD a []:=λa ha=>by
   simp[t_,SE,SW ha]
  by_cases gq:a<acc.length
  ·rw[rq a gq]at hj;exact h a gq j hj
  ·have hae:a=acc.length:=(by simp[t_]at ha;omega);subst hae;have e:(t_ acc o).getD acc.length []=(cK o++(cK o).flatMap λj=>acc.getD j []).eraseDups:=by
    simp[t_,SE]
   rw[e,Y8,SV]at hj;rw[hi];rcases hj with hj|hj
   ·exact .IM Fu hj
   ·obtain⟨k,hk,hj⟩:=S6.1 hj;have B6:k<acc.length:=by
     apply Tt;intro hn;rw[SE,Uu (by omega)]at hj;simp at hj
    exact .more Fu hk (h k B6 j hj)
def vF (nt p:Nat)(ops:Array Tx):Bool:=
 let cl:=Ip ops;decide (p<=ops.size)&&
 (S0 ops.size).all (λi=>match ops[i]?with
  |some o=>o.dst.all (·<nt)&& !mo o.op&&(cK o).all (·<i)&&
   (if i<p then
    (S0 i).all (λj=>match o.dst,b9 ops j with
     |some d,some d'=>d !=d'
     |_,_=>true)&&
    (o.op.operands.toList.all λx=>match x with
     |.tmp t=>(S0 p).all λj=>b9 ops j !=some t||(cK o).contains j
     |_=>true)&&
    (match o.guard with
     |some (j,_)=>(cK o).contains j
     |none=>true)
   else(S0 i).all λj=>(cl.getD i []).contains j)
  |none=>true)
structure vd (nt p:Nat)(ops:Array Tx):Prop where
 le:p<=ops.size
 dst:∀(i:Nat) o d,ops[i]?=some o->o.dst=some d->d<nt
 sG:∀(i:Nat) o,ops[i]?=some o->mo o.op=false
 low:∀(i:Nat) o,ops[i]?=some o->∀j∈cK o,j<i
 dx:∀(i j:Nat) o d,j<i->i<p->ops[i]?=some o->o.dst=some d->b9 ops j≠some d
 Gz:∀(i:Nat) o t j,i<p->ops[i]?=some o-> .tmp t∈o.op.operands->j<p->b9 ops j=some t->j∈cK o
 za:∀(i:Nat) o j w,i<p->ops[i]?=some o->o.guard=some (j,w)->j∈cK o
 M6:∀(i j:Nat),p<=i->i<ops.size->j<i->Reach ops i j
theorem vF.out{nt p:Nat}{ops:Array Tx}(h:vF nt p ops=true):vd nt p ops:=by
 unfold vF at h;simp only[Ti,decide_eq_true_eq]at h;obtain⟨hle,h⟩:=h;have key:∀(i:Nat) o,ops[i]?=some o->(o.dst.all (·<nt)=true/\mo o.op=false/\(∀j∈cK o,j<i))/\
   (if i<p then
    (S0 i).all (λj=>match o.dst,b9 ops j with
     |some d,some d'=>d !=d'
     |_,_=>true)&&
    (o.op.operands.toList.all λx=>match x with
     |.tmp t=>(S0 p).all λj=>b9 ops j !=some t||(cK o).contains j
     |_=>true)&&
    (match o.guard with
     |some (j,_)=>(cK o).contains j
     |none=>true)
   else(S0 i).all λj=>((Ip ops).getD i []).contains j)=true:=λi o ho=>by
  have hi:i<ops.size:=(SS.1 ho).1;have:=Tv.1 h i (by simpa using hi);rw[ho]at this;simp only[Ti,Tv,TV,decide_eq_true_eq]at this;exact⟨⟨this.1.1.1,this.1.1.2,this.1.2⟩,by simpa only[Ti,Tv]using this.2⟩
 refine⟨hle,λi o d ho hd=> ?_,λi o ho=>(key i o ho).1.2.1,λi o ho=>(key i o ho).1.2.2,λi j o d hj hp ho hd e=> ?_,λi o t j hp ho ht hj e=> ?_,λi o j w hp ho hg=> ?_,λi j hp hi hj=> ?_⟩
 ·have:=(key i o ho).1.1;rw[hd]at this;simpa using this
 ·have:=(key i o ho).2;rw[if_pos hp]at this;simp only[Ti,Tv]at this;have:=this.1.1 j (by simpa using hj);rw[hd,e]at this;simp at this
 ·have:=(key i o ho).2;rw[if_pos hp]at this;simp only[Ti,Tv]at this;have:=this.1.2 (.tmp t) (by simpa using ht);simp only[Tv]at this;have:=this j (by simpa using hj);rw[e]at this;simpa using this
 ·have:=(key i o ho).2;rw[if_pos hp]at this;simp only[Ti]at this;have:=this.2;rw[hg]at this;simpa using this
 ·have:=(key i ops[i] (SJ hi)).2;rw[if_neg (by omega)]at this;simp only[Tv]at this;have:=this j (by simpa using hj);refine ON ops ops.toList [] 0 rfl (λk o hk=>by simpa using hk) (by simp) i j ?_;simpa[Ip]using this
theorem I5{α β:Type}{f g:α->Option β}:∀{l:List α},(∀x∈l,f x=g x)->l.filterMap f=l.filterMap g
 |[],_=>rfl
 |x::l,h=>by
  have ih:=I5 (l:=l) λy hy=>h y (Ta _ hy);simp only[List.filterMap_cons,h x (TC ..),ih]
def fx (ops:Array Tx)(f:Nat->AV)(o:Tx):List (Nat×AV):=(cK o).filterMap λj=>(b9 ops j).map λd=>(d,f j)
def vb (lv:Bool)(P:SK)(r:Option Nat)(ops:Array Tx)(T0:List (Nat×AV))(H:List aa)(f:Nat->AV)(i:Nat)(o:Tx):Prop:=
 match o.guard with
 |none=>dh lv P r o ⟨fx ops f o++T0,H⟩ (f i)
 |some (j,bJ)=>∃d,b9 ops j=some d/\((∃b,look (fx ops f o++T0) d=some (.val (.bool b))/\(b=bJ->dh lv P r o ⟨fx ops f o++T0,H⟩ (f i))/\(b= !bJ->f i=.val undef))\/(look (fx ops f o++T0) d=some (.val undef)/\f i=.val undef))
theorem x8(l m:List (Nat×AV))(t:Nat):look (l++m) t=(look l t).or (look m t):=by
 induction l with
 |nil=>rfl
 |cons x l ih=>
  obtain⟨k,a⟩:=x;simp only[VE,look];split
  ·rfl
  ·exact ih
theorem qx{l:List (Nat×AV)}{t:Nat}{a:AV}(h:look l t=some a):(t,a)∈l:=by
 induction l with
 |nil=>cases h
 |cons x l ih=>
  obtain⟨k,b⟩:=x;simp only[look]at h;split at h
  ·rename_i e;subst e;cases h;exact TC ..
  ·exact Ta _ (ih h)
theorem aaz{l:List (Nat×AV)}{t:Nat}(h:∀p∈l,p.1≠t):look l t=none:=by
 induction l with
 |nil=>rfl
 |cons x l ih=>
  obtain⟨k,b⟩:=x;simp only[look];rw[if_neg (h _ (TC ..))];exact ih λp hp=>h p (Ta _ hp)
theorem amB{l:List (Nat×AV)}{q:Nat->Bool}{t:Nat}:look (l.filter λp=>q p.1) t=if q t then look l t else none:=by
 induction l with
 |nil=>simp[look]
 |cons x l ih=>
  obtain⟨k,b⟩:=x;by_cases hk:q k=true
  ·rw[Yu (by simpa using hk)];simp only[look];by_cases e:k=t
   ·subst e;simp[hk]
   ·simp[e,ih]
  ·rw[Yv (by simpa using hk),ih];simp only[look];by_cases e:k=t
   ·subst e;simp[hk]
   ·simp[e]
section
variable {ops:Array Tx}{f:Nat->AV}{p:Nat}
theorem amz{o:Tx}{j t:Nat}(hj:j∈cK o)(ht:b9 ops j=some t)(xL:∀j'∈cK o,b9 ops j'=some t->j'=j):look (fx ops f o) t=some (f j):=by
 cases e:look (fx ops f o) t with
 |none=>
  exfalso;have hm:(t,f j)∈fx ops f o:=VD.2 ⟨j,hj,by rw[ht];rfl⟩;have:∀(l:List (Nat×AV)),(t,f j)∈l->look l t≠none:=by
   intro l;induction l with
   |nil=>intro h;cases h
   |cons x l ih=>
    intro h;obtain⟨k,b⟩:=x;simp only[look];split
    ·simp
    ·rename_i aC;rcases SL.1 h with h|h
     ·cases h;exact absurd rfl aC
     ·exact ih h
  exact this _ hm e
 |some a=>
  obtain⟨j',gH,e'⟩:=VD.1 (qx e);obtain⟨d,hd,e'⟩:=Tp.1 e';cases e';rw[xL j' gH hd]
theorem amA{o:Tx}{t:Nat}(h:∀j∈cK o,b9 ops j≠some t):look (fx ops f o) t=none:=by
 refine aaz λx hx e=> ?_;obtain⟨j,hj,e'⟩:=VD.1 hx;obtain⟨d,hd,e'⟩:=Tp.1 e';cases e';exact h j hj (by rw[hd];exact congrArg some e)
end
section
variable {lv:Bool}{P:SK}{r:Option Nat}{s:AS}{ops:Array Tx}{nt p:Nat}
def mK (s:AS)(ops:Array Tx)(p:Nat):List (Nat×AV):=s.T.filter λx=>(S0 p).all λj=>b9 ops j !=some x.1
theorem x9(t:Nat):look (mK s ops p) t=if(S0 p).all (λj=>b9 ops j !=some t)then look s.T t else none:=amB (q:=λt=>(S0 p).all λj=>b9 ops j !=some t)
structure lD (s:AS)(ops:Array Tx)(fs:List AV)(s':AS):Prop where
 H:s'.H=s.H
 new:∀j t,j<fs.length->b9 ops j=some t->look s'.T t=fs[j]?
 old:∀t,(∀j,j<fs.length->b9 ops j≠some t)->look s'.T t=look s.T t
theorem lD.put(am:vd nt p ops){fs:List AV}{s':AS}(h:lD s ops fs s')(hp:fs.length<p){o:Tx}(ho:ops[fs.length]?=some o)(av:AV):lD s ops (fs++[av]) (s'.put o.dst av):=by
 have hd:b9 ops fs.length=o.dst:=by simp[b9,ho]
 refine⟨by rw[ft];exact h.H,λj t hj ht=> ?_,λt ht=> ?_⟩
 ·simp only[SQ,T6]at hj;by_cases Km:j=fs.length
  ·subst Km;rw[hd]at ht;rw[ht];simp[AS.put,look]
  ·have gH:j<fs.length:=(by omega);rw[SW gH,<- h.new j t gH ht];cases nC:o.dst with
   |none=>rfl
   |some d=>
    have aC:d≠t:=λe=>am.dx fs.length j o d gH hp ho nC (by rw[e];exact ht);simp[AS.put,look,aC]
 ·have hold:=h.old t λj hj=>ht j (by simp;omega);rw[<- hold];cases nC:o.dst with
  |none=>rfl
  |some d=>
   have aC:d≠t:=λe=>ht fs.length (by simp) (by rw[hd,nC,e]);simp[AS.put,look,aC]
theorem lD.pw{fs:List AV}{s':AS}(h:lD s ops fs s'){d:Nat}{a:AV}(hd:look s'.T d=some a):lD s ops fs ⟨(d,a)::s'.T,s'.H⟩:=by
 have e:∀t,look ((d,a)::s'.T) t=look s'.T t:=λt=>by
  simp only[look];split
  ·rename_i e;subst e;exact hd.symm
  ·rfl
 exact⟨h.H,λj t hj ht=>by rw[e];exact h.new j t hj ht,λt ht=>by rw[e];exact h.old t ht⟩
theorem lD.seen(am:vd nt p ops){fs gs:List AV}{s':AS}(h:lD s ops fs s')(hp:fs.length<p){o:Tx}(ho:ops[fs.length]?=some o){t:Nat}(ht:∀j,j<p->b9 ops j=some t->j∈cK o):
  look (fx ops (λj=>(fs++gs).getD j (.val undef)) o++mK s ops p) t=look s'.T t:=by
 have iq:=am.low fs.length o ho;have ale:∀j j',j<p->j'<p->b9 ops j=some t->b9 ops j'=some t->j'=j:=λj j' hj gH e e'=>by
  have get:∀i,i<p->∃o,ops[i]?=some o:=λi hi=>⟨_,SJ (Td hi am.le)⟩;rcases Wb j j' with hlt|hlt|hlt
  ·obtain⟨o',aO⟩:=get j' gH;exact absurd e (am.dx j' j o' t hlt gH aO (by simpa[b9,aO]using e'))
  ·exact hlt.symm
  ·obtain⟨o',aO⟩:=get j hj;exact absurd e' (am.dx j j' o' t hlt hj aO (by simpa[b9,aO]using e))
 rw[x8];by_cases hex:∃j,j<p/\b9 ops j=some t
 ·obtain⟨j,hj,qb⟩:=hex;have gT:=ht j hj qb;have eR:=iq j gT;rw[amz gT qb λj' gH e=>ale j j' hj (Wo (iq j' gH) hp) qb e];rw[h.new j t eR qb];simp[SE,SW eR,SP eR]
 ·have fq:∀j,j<p->b9 ops j≠some t:=λj hj e=>hex ⟨j,hj,e⟩;rw[amA λj hj=>fq j (Wo (iq j hj) hp),Option.none_or,x9,if_pos (by simp only[Tv];intro j hj;simpa using fq j (by simpa using hj))];exact(h.old t λj hj=>fq j (by omega)).symm
theorem GQ(am:vd nt p ops){K:AS->Prop}:∀(n:Nat)(fs:List AV)(s':AS),fs.length+n=p->lD s ops fs s'->m9 lv P ops ((ops.toList.take p).drop fs.length) s' K->
  ∃gs,(fs++gs).length=p/\(∀i o,fs.length<=i->i<p->ops[i]?=some o->vb lv P r ops (mK s ops p) s.H (λj=>(fs++gs).getD j (.val undef)) i o)/\∃b8,lD s ops (fs++gs) b8/\K b8
 |0,fs,s',hn,hr,h=>by
  have:(ops.toList.take p).drop fs.length=[]:=by
   apply TO;simp;omega
  rw[this]at h;exact⟨[],by simp;omega,λi o h1 h2=>absurd h2 (by omega),s',by simpa using hr,h⟩
 |n+1,fs,s',hn,hr,h=>by
  have hp:fs.length<p:=by omega
  have aU:fs.length<ops.size:=Td hp am.le;have ho:ops[fs.length]?=some ops[fs.length]:=SJ aU;generalize Cg:ops[fs.length]=o at ho;have hd:(ops.toList.take p).drop fs.length=o::(ops.toList.take p).drop (fs.length+1):=by
   rw[TW (by simp;omega)];simp[Cg]
  rw[hd]at h;have KE:∀t,ZB t∈o.op.operands->∀j,j<p->b9 ops j=some t->j∈cK o:=λt ht j hj e=>am.Gz fs.length o t j hp ho ht hj e;have cr:∀(s1:AS)(gs:List AV),lD s ops fs s1->∀x∈o.op.operands,AS.ev s1 x=AS.ev ⟨fx ops (λj=>(fs++gs).getD j (.val undef)) o++mK s ops p,s.H⟩ x:=λs1 gs rF x hx=>by
   cases x with
   |tmp t=>exact(rF.seen am hp ho (KE t hx)).symm
   |_=>rfl
  have go:∀(s1:AS),lD s ops fs s1->(AQ lv P s1 o λav=>m9 lv P ops ((ops.toList.take p).drop (fs.length+1)) (s1.put o.dst av) K)->
    ∃av gs,(fs++av::gs).length=p/\dh lv P r o ⟨fx ops (λj=>(fs++av::gs).getD j (.val undef)) o++mK s ops p,s.H⟩ av/\(∀i o,fs.length+1<=i->i<p->ops[i]?=some o->vb lv P r ops (mK s ops p) s.H (λj=>(fs++av::gs).getD j (.val undef)) i o)/\∃b8,lD s ops (fs++av::gs) b8/\K b8:=λs1 rF h1=>by
   obtain⟨av0,_,_⟩:=h1.sound (r:=r);have dD:s1=⟨s1.T,s.H⟩:=(by rw[<- rF.H]);rw[dD]at h1;have h2:=AQ.congr (T':=fx ops (λj=>(fs++[]).getD j (.val undef)) o++mK s ops p) (λx hx=>by rw[<- dD];exact cr s1 [] rF x hx) h1;obtain⟨av,hq,h3⟩:=h2.sound (r:=r);obtain⟨gs,g1,g2,b8,g3,g4⟩:=GQ am n (fs++[av]) (s1.put o.dst av) (by simp;omega) (rF.put am hp ho av) (by rw[<- dD]at h3;simpa using h3);have e:fs++[av]++gs=fs++av::gs:=(by simp);rw[e]at g1 g2 g3;refine⟨av,gs,g1,?_,λi o hi=>g2 i o (by simpa using hi),b8,g3,g4⟩;have ed:fx ops (λj=>(fs++av::gs).getD j (.val undef)) o=fx ops (λj=>(fs++[]).getD j (.val undef)) o:=by
    unfold fx;apply I5;intro j hj;have eR:=am.low fs.length o ho j hj;simp[SE,SW eR]
   rw[ed];exact hq
  simp only[m9]at h;split at h
  ·rename_i hg;obtain⟨av,gs,g1,g2,g3,g4⟩:=go s' hr h;refine⟨av::gs,g1,λi o' hi io aO=> ?_,g4⟩;by_cases cS:i=fs.length
   ·subst cS;rw[ho]at aO;cases aO;unfold vb;rw[hg];simpa[SE]using g2
   ·exact g3 i o' (by omega) io aO
  ·rename_i j bJ hg;obtain⟨d,eF,hA⟩:=h.out;obtain⟨a,eM,hB⟩:=hA.out;have gT:=am.za fs.length o j bJ hp ho hg;have eR:=am.low fs.length o ho j gT;have xQ:∀gs,look (fx ops (λj=>(fs++gs).getD j (.val undef)) o++mK s ops p) d=some a:=λgs=>by
    rw[hr.seen am hp ho λj' gH e=> ?_]
    ·exact eM
    ·have get:∀i,i<p->∃o,ops[i]?=some o:=λi hi=>⟨_,SJ (Td hi am.le)⟩;rcases Wb j j' with hlt|hlt|hlt
     ·obtain⟨o',aO⟩:=get j' gH;exact absurd eF (am.dx j' j o' d hlt gH aO (by simpa[b9,aO]using e))
     ·rw[<- hlt];exact gT
     ·obtain⟨o',aO⟩:=get j (by omega);exact absurd e (am.dx j j' o' d hlt (by omega) aO (by simpa[b9,aO]using eF))
   rcases hB with⟨b,e1,hC,hD⟩|⟨e1,hZ⟩
   rotate_left
   ·subst e1;obtain⟨gs,g1,g2,b8,g3,g4⟩:=GQ am n (fs++[.val undef]) _ (by simp;omega) (hr.put am hp ho (.val undef)) (by simpa using hZ);have e:fs++[.val undef]++gs=fs++ .val undef::gs:=(by simp);rw[e]at g1 g2 g3;refine⟨.val undef::gs,g1,λi o' hi io aO=> ?_,b8,g3,g4⟩;by_cases cS:i=fs.length
    ·subst cS;rw[ho]at aO;cases aO;unfold vb;rw[hg];exact⟨d,eF,.inr ⟨xQ _,by simp[SE]⟩⟩
    ·exact g2 i o' (by simp;omega) io aO
   subst e1;by_cases hb:b=bJ
   ·subst hb;obtain⟨av,gs,g1,g2,g3,g4⟩:=go _ (hr.pw eM) (hC rfl);refine⟨av::gs,g1,λi o' hi io aO=> ?_,g4⟩;by_cases cS:i=fs.length
    ·subst cS;rw[ho]at aO;cases aO;unfold vb;rw[hg];refine⟨d,eF,.inl ⟨b,xQ _,λ_=>by simpa[SE]using g2,λe=>by cases b<;>cases e⟩⟩
    ·exact g3 i o' (by omega) io aO
   ·have dq:b= !bJ:=(by cases b<;>cases bJ<;>simp_all);subst dq;have h3:=hD rfl;obtain⟨gs,g1,g2,b8,g3,g4⟩:=GQ am n (fs++[.val undef]) _ (by simp;omega) ((hr.pw eM).put am hp ho (.val undef)) (by simpa using h3);have e:fs++[.val undef]++gs=fs++ .val undef::gs:=(by simp);rw[e]at g1 g2 g3;refine⟨.val undef::gs,g1,λi o' hi io aO=> ?_,b8,g3,g4⟩;by_cases cS:i=fs.length
    ·subst cS;rw[ho]at aO;cases aO;unfold vb;rw[hg];exact⟨d,eF,.inl ⟨!bJ,xQ _,λe=>absurd e hb,λ_=>by simp[SE]⟩⟩
    ·exact g2 i o' (by simp;omega) io aO
structure yu (E:Env)(V:View)(ops:Array Tx)(T0:List (Nat×AV))(H:List aa)(f:Nat->AV)(X:List Nat)(a:Act)(nt:Nat):Prop where
 bm:Conc E V H
 base:cj E T0 a.tmps
 done:∀i∈X,∀d,b9 ops i=some d->aq E (f i) (a.tmps.getD d undef)
 size:a.tmps.size=nt
theorem yg{X:List Nat}(hX:∀i∈X,∀o,ops[i]?=some o->∀j∈cK o,j∈X){i j:Nat}(h:Reach ops i j):((∀o,ops[i]?=some o->∀k∈cK o,k∈X))->j∈X:=by
 induction h with
 |IM ho hj=>intro hd;exact hd _ ho _ hj
 |more ho hk _ ih=>intro hd;exact ih (hX _ (hd _ ho _ hk))
theorem abS(am:vd nt p ops){X l:List Nat}(hs:lF ops X l):∀q,p<=q->q<=ops.size->(∀i,i∈X<->i<q)->(∀i∈X,∀o,ops[i]?=some o->∀j∈cK o,j∈X)->l=T4 q (ops.size-q):=by
 induction hs with
 |nil X h=>
  intro q hp hq hX _;have:ops.size<=q:=by
   apply Tt;intro hn;have:=(hX q).1 (h q (by omega));omega
  have:ops.size-q=0:=by omega
  rw[this];rfl
 |cons o ho hn hd _ ih=>
  rename_i X i l _;intro q hp hq hX hc;have hi:i<ops.size:=(SS.1 ho).1;have hiq:q<=i:=by
   apply Tt;intro h;exact hn ((hX i).2 (by omega))
  have hqi:i=q:=by
   apply Tt;intro aC;have:=yg hc (am.M6 i q (by omega) hi (by omega)) (λo' aO k hk=>by rw[ho]at aO;cases aO;exact hd k hk);have:=(hX q).1 this;omega
  subst hqi;have e:ops.size-i=(ops.size-(i+1))+1:=by omega
  rw[e,VR];congr 1;refine ih (i+1) (by omega) (by omega) (λk=> ?_) (λk hk o' aO j hj=> ?_)
  ·simp only[SL,hX];omega
  ·rcases SL.1 hk with rfl|hk
   ·rw[ho]at aO;cases aO;exact Ta _ (hd j hj)
   ·exact Ta _ (hc k hk o' aO j hj)
theorem agy{T0:List (Nat×AV)}{H:List aa}{f:Nat->AV}(am:vd nt p ops)(JJ:∀j,j<p->∀d,b9 ops j=some d->look T0 d=none)(au:∀(i:Nat) o,i<p->ops[i]?=some o->vb lv P r ops T0 H f i o){X l:List Nat}(hs:lF ops X l):
  (∀i∈X,i<p)->(∀i∈X,∀o,ops[i]?=some o->∀j∈cK o,j∈X)->∀(E:Env)(V:View)(a:Act)(Q:Ex->Act->View->Prop),yu E V ops T0 H f X a nt->
   (∀E' V' a' X',Kept E E' V V' a a'->yu E' V' ops T0 H f X' a' nt->(∀i,i<p->i∈X')->da lv P r ops Q (T4 p (ops.size-p)) a' V')->da lv P r ops Q l a V:=by
 have full:∀X:List Nat,(∀i∈X,i<p)->(∀i,i<p->i∈X)->∀i,i∈X<->i<p:=λX h1 h2 i=>⟨h1 i,h2 i⟩;induction hs with
 |nil X h=>
  intro hX hc E V a Q ah hQ;have dY:p=ops.size:=by
   apply Tt;intro aC;have:=hX p (h p (by have:=am.le;omega));omega
  have:=hQ E V a X (Kept.refl E V a) ah (λi hi=>h i (by omega));rw[dY,U6]at this;exact this
 |cons o ho hn hd kI ih=>
  rename_i X i l;intro hX hc E V a Q ah hQ;have hi:i<ops.size:=(SS.1 ho).1;by_cases io:i<p
  ·simp only[da,ho];have lK:∀k∈i::X,k<p:=λk hk=>(SL.1 hk).elim (λe=>by rw[e];exact io) (hX k);have ba:∀k∈i::X,∀o',ops[k]?=some o'->∀j∈cK o',j∈i::X:=λk hk o' aO j hj=>by
    rcases SL.1 hk with rfl|hk
    ·rw[ho]at aO;cases aO;exact Ta _ (hd j hj)
    ·exact Ta _ (hc k hk o' aO j hj)
   have tok:cj E (fx ops f o++T0) a.tmps:=by
    intro t av e;rw[x8]at e;cases hl:look (fx ops f o) t with
    |none=>rw[hl]at e;exact ah.base t av e
    |some x=>
     rw[hl]at e;cases e;obtain⟨j,hj,e⟩:=VD.1 (qx hl);obtain⟨d,cq,e⟩:=Tp.1 e;cases e;obtain⟨oj,gX,fH⟩:=S_.1 cq;exact⟨by rw[ah.size];exact am.dst j oj _ gX fH,ah.done j (hd j hj) _ cq⟩
   have nC:b9 ops i=o.dst:=(by simp[b9,ho]);have put:∀{E' V'}(v:SO),E.Le E'->Conc E' V' H->aq E' (f i) v->yu E' V' ops T0 H f (i::X) (a.put o.dst v) nt:=λ{E' V'} v hle cE hv=>by
    cases cR:o.dst with
    |none=>
     refine⟨cE,ah.base.mono hle,λk hk d dC=> ?_,ah.size⟩;rcases SL.1 hk with rfl|hk
     ·rw[nC,cR]at dC;cases dC
     ·exact(ah.done k hk d dC).mono hle
    |some d0=>
     have hlt:d0<a.tmps.size:=(by rw[ah.size];exact am.dst i o d0 ho cR);refine⟨cE,λt av e=> ?_,λk hk d dC=> ?_,by simp[Ws,ah.size]⟩
     ·have aC:d0≠t:=λe'=>(by rw[<- e',JJ i io d0 (by rw[nC,cR])]at e;cases e);have:=ah.base.mono hle t av e;exact⟨by simpa[Ws]using this.1,by simpa[Ws,SI,SR aC]using this.2⟩
     ·by_cases nF:k=i
      ·subst nF;rw[nC,cR]at dC;cases dC;simpa[Ws,SI,S9 hlt]using hv
      ·have aE:k∈X:=(SL.1 hk).resolve_left nF;have aC:d0≠d:=λe'=>by
        subst e';have B7:=hX k aE;have get:∀i,i<p->∃o,ops[i]?=some o:=λi hi=>⟨_,SJ (Td hi am.le)⟩;rcases Wb k i with hlt|hlt|hlt
        ·exact am.dx i k o d0 hlt io ho cR dC
        ·exact nF hlt
        ·obtain⟨o',aO⟩:=get k B7;exact am.dx k i o' d0 hlt B7 aO (by simpa[b9,aO]using dC) (by rw[nC,cR])
       have:=(ah.done k aE d dC).mono hle;simpa[Ws,SI,SR aC]using this
   have go:dh lv P r o ⟨fx ops f o++T0,H⟩ (f i)->vg lv P r o a V (da lv P r ops Q l) Q:=λhq=>
    hq E V a _ Q ah.bm tok (.inr (am.sG i o ho)) λE' V' v hle bY eQ cE hv=>
     ih lK ba E' V' (a.put o.dst v) Q (put v hle cE hv) λbE aP bT jO hk cQ dX=>
      hQ bE aP bT jO ⟨hle.trans hk.le,hk.size.trans (dP _ _ _),hk.defers.trans (put_defers _ _ _),hk.role.trans bY,hk.deaf.trans eQ⟩ cQ dX
   have rl:=au i o io ho;unfold vb at rl;split at rl
   ·rename_i ru;have hw:Tc o (yielded ops a.tmps)=true:=(by unfold Tc;rw[ru]);rw[if_pos hw];exact .inl (go rl)
   ·rename_i j bJ ru;obtain⟨d,eF,rl⟩:=rl;rcases rl with⟨b,bO,h1,h2⟩|⟨bO,hu⟩
    rotate_left
    ·obtain⟨hlt,hv⟩:=tok d _ bO;have hy:yielded ops a.tmps j≠some bJ:=by
      obtain⟨oj,gX,fH⟩:=S_.1 eF;generalize hx:a.tmps.getD d undef=x at hv;cases hv;rw[SI,SJ hlt]at hx;simp only[S8]at hx;simp[yielded,gX,fH,SJ hlt,hx,undef]
     have hw:¬Tc o (yielded ops a.tmps)=true:=by
      unfold Tc;rw[ru];intro h;exact hy (by simpa using h)
     rw[if_neg hw];exact ih lK ba E V (a.put o.dst undef) Q (put undef (Env.Le.refl E) ah.bm (by rw[hu];exact .val _)) λbE aP bT jO hk cQ dX=>
      hQ bE aP bT jO ⟨hk.le,hk.size.trans (dP _ _ _),hk.defers.trans (put_defers _ _ _),hk.role,hk.deaf⟩ cQ dX
    obtain⟨hlt,hv⟩:=tok d _ bO;have hy:yielded ops a.tmps j=some b:=by
     obtain⟨oj,gX,fH⟩:=S_.1 eF;generalize hx:a.tmps.getD d undef=x at hv;cases hv;rw[SI,SJ hlt]at hx;simp only[S8]at hx;simp[yielded,gX,fH,SJ hlt,hx]
    by_cases hb:b=bJ
    ·have hw:Tc o (yielded ops a.tmps)=true:=(by unfold Tc;rw[ru];simp[hy,hb]);rw[if_pos hw];exact .inl (go (h1 hb))
    ·have hw:¬Tc o (yielded ops a.tmps)=true:=(by unfold Tc;rw[ru];simp[hy,hb]);rw[if_neg hw];have hu:=h2 (by cases b<;>cases bJ<;>simp_all);exact ih lK ba E V (a.put o.dst undef) Q (put undef (Env.Le.refl E) ah.bm (by rw[hu];exact .val _)) λbE aP bT jO hk cQ dX=>
      hQ bE aP bT jO ⟨hk.le,hk.size.trans (dP _ _ _),hk.defers.trans (put_defers _ _ _),hk.role,hk.deaf⟩ cQ dX
  ·have dX:∀k,k<p->k∈X:=λk hk=>yg hc (am.M6 i k (by omega) hi (by omega)) (λo' aO j hj=>by rw[ho]at aO;cases aO;exact hd j hj);have hl:=abS am (.cons o ho hn hd kI) p (SU _) am.le (full X hX dX) hc;rw[hl];exact hQ E V a X (Kept.refl E V a) ah dX
theorem ae1{id:Nat}{Φ:ao->AS->Prop}(hm:P.follows .mixedOrders=true)(p:Nat)(am:vF nt p ops=true)(h:m9 lv P ops (ops.toList.take p) s (λs'=>h_ lv P ops (ops.toList.drop p) s' (Φ .normal) (λpv s=>Φ (.panic pv) s))):aX lv P r nt (.region id ops true) s Φ:=by
 intro E V a Q ah hQ;have am:=vF.out am;obtain⟨gs,g1,g2,b8,g3,g4⟩:=GQ (lv:=lv) (r:=r) am p [] s (by simp) ⟨rfl,by simp,by simp⟩ (by simpa using h);simp only[Uw]at g1 g2 g3;refine Hp λt=> ?_;rw[show Vf (P.follows .mixedOrders) ops t=Us .any ops ops.size t (TE ops.size false) [] by unfold Vf;rw[hm];simp[XB]];have hs:=LR (ops:=ops) (λi o ho j hj=>am.low i o ho j hj) ops.size t (TE ops.size false) [] ⟨by simp,λi hi=>by simp[hi]⟩ (UB Xa (by simp));refine agy (T0:=mK s ops p) (H:=s.H) am (λj hj d hd=> ?_) (λi o hi ho=>g2 i o (by simp) hi ho) hs (by simp) (by simp) E V a Q ⟨ah.bm,λt av e=> ?_,by simp,ah.size⟩ λE' V' a' X' hk aQ dX=> ?_
 ·rw[x9,if_neg];simp only[Tv];intro h;have:=h j (by simpa using hj);rw[hd]at this;simp at this
 ·rw[x9]at e;split at e
  ·exact ah.tok t av e
  ·cases e
 ·refine yd (Φ:=Φ) (λo ho d e=> ?_) (λo ho=> .inr ?_) (ops.size-p) p b8 (by have:=am.le;omega) g4 E' V' a' Q ⟨by rw[g3.H];exact aQ.bm,λt av e=> ?_,aQ.size⟩ (λae e bE aP bT s3 aE ov he hΦ=>hQ ae e bE aP bT s3 (hk.trans aE) ov he hΦ)
  ·obtain⟨i,hi⟩:=V_.1 ho;exact am.dst i o d hi e
  ·obtain⟨i,hi⟩:=V_.1 ho;exact am.sG i o hi
  ·by_cases hex:∃j,j<p/\b9 ops j=some t
   ·obtain⟨j,hj,qb⟩:=hex;rw[g3.new j t (by omega) qb]at e;obtain⟨oj,gX,fH⟩:=S_.1 qb;refine⟨by rw[aQ.size];exact am.dst j oj t gX fH,?_⟩;have:=aQ.done j (dX j hj) t qb;simpa[SE,e]using this
   ·have fq:∀j,j<p->b9 ops j≠some t:=λj hj e=>hex ⟨j,hj,e⟩;rw[g3.old t λj hj=>fq j (by omega)]at e;refine aQ.base t av ?_;rw[x9,if_pos (by simp only[Tv];intro j hj;simpa using fq j (by simpa using hj))];exact e
end
def so (T base Vn:List (Nat×AV)):Prop:=T.drop (T.length-base.length)=base/\((T.take (T.length-base.length)).all λp=>(Vn.any λq=>q.1==p.1)|| !(base.any λq=>q.1==p.1))=true
theorem aex{l:List (Nat×AV)}{t:Nat}{a:AV}(h:look l t=some a):(l.any λq=>q.1==t)=true:=UL.2 ⟨_,qx h,by simp⟩
theorem aay{l:List (Nat×AV)}{t:Nat}(h:(l.any λq=>q.1==t)=true):∃a,look l t=some a:=by
 induction l with
 |nil=>cases h
 |cons x l ih=>
  obtain⟨k,b⟩:=x;simp only[look];split
  ·exact⟨b,rfl⟩
  ·rename_i aC;refine ih ?_;simpa[YS,aC]using h
theorem so.look{T base Vn:List (Nat×AV)}(h:so T base Vn){t:Nat}{a:AV}(hb:look base t=some a)(hv:look Vn t=none):look T t=some a:=by
 obtain⟨h1,h2⟩:=h;have e:T=T.take (T.length-base.length)++base:=by
  have:=(Vg (T.length-base.length) T).symm;rwa [h1]at this
 rw[e,x8];cases hl:Gg.look (T.take (T.length-base.length)) t with
 |none=>exact hb
 |some x=>
  exfalso;have:=Tv.1 h2 _ (qx hl);simp only[X6,TV]at this;rcases this with this|this
  ·obtain⟨y,hy⟩:=aay this;rw[hv]at hy;cases hy
  ·rw[aex hb]at this;cases this
def tU (base Vi Vn:List (Nat×AV))(Hn:List aa)(s':AS):Prop:=
 so s'.T (Vi++base) Vn/\(∀p∈Vn,∃b,look s'.T p.1=some b/\Wk b p.2)/\∃G,s'.H=Hn++G/\(G=[]\/(bQ Hn/\∀p∈Vn,Lt Hn.length p.2))
section
variable {lv:Bool}{P:SK}{r:Option Nat}{s:AS}
theorem yL{nt:Nat}{α:Type}{lt:α->α->Prop}(wf:WellFounded lt){c:T7}{Φ:ao->AS->Prop}(V:α->List (Nat×AV))(Hf:α->List aa)(ok:α->Prop)(m0:α)
  (B5:∀m m',(V m).map (·.1)=(V m').map (·.1)) (iL:∀p∈V m0,∃b,look s.T p.1=some b/\Wk b p.2) (BD:Hf m0=s.H) (hl:∀m,ok m->(Hf m).length=s.H.length) (hm:ok m0)
  (h:bQ s.H->(∀t a,look s.T t=some a->Lt s.H.length a)->∀m,ok m->∀R:AS->Prop,(∀s',(∃m',lt m' m/\ok m'/\tU s.T (V m) (V m') (Hf m') s')->R s')->aX lv P r nt c ⟨V m++s.T,Hf m⟩ (ao.then R Φ)):aX lv P r nt (.loop c) s Φ:=by
 have same:∀m m' t,look (V m) t=none->look (V m') t=none:=λm m' t h=>aaz λp hp e=>by
  have h1:p.1∈(V m').map (·.1):=Tn.2 ⟨p,hp,rfl⟩;rw[B5 m' m]at h1;obtain⟨q,hq,e'⟩:=Tn.1 h1;have h2:((V m).any λx=>x.1==t)=true:=UL.2 ⟨q,hq,by simp[e',e]⟩;obtain⟨a,ha⟩:=aay h2;rw[h]at ha;cases ha
 intro E V0 a Q ah hQ;have hlt:∀t a,look s.T t=some a->Lt s.H.length a:=λt x e=>by rw[<- ah.bm.n];exact(ah.tok t x e).2.lt
 have h0:s.Sub ⟨V m0++s.T,Hf m0⟩:=⟨λt x e=>by
  rw[x8]at e;cases hl:look (V m0) t with
  |none=>rw[hl]at e;exact⟨x,e,Wk.refl x⟩
  |some y=>rw[hl]at e;cases e;exact iL (t,x) (qx hl),BD.symm⟩
 refine ae4 wf (s:=s) (λm=>⟨V m++s.T,Hf m⟩) ok m0 h0 hm (λm am=>by rw[hl m am];exact SU _) (λm am=> ?_) E V0 a Q ah hQ;refine(h ah.bm.am hlt m am _ λ_ h=>h).mono λe s' hΦ=> ?_;cases e with
 |normal=>
  obtain⟨m',q1,q2,hk,hv,G,hG,vZ⟩:=hΦ;have tok:∀t x,look (V m'++s.T) t=some x->∃b,look s'.T t=some b/\Wk b x/\(look (V m') t=some x\/look s.T t=some x):=λt x e=>by
   rw[x8]at e;cases hl:look (V m') t with
   |none=>
    rw[hl]at e;have hb:look (V m++s.T) t=some x:=(by rw[x8,same m' m t hl];exact e);exact⟨x,hk.look hb hl,Wk.refl x,.inr e⟩
   |some y=>
    rw[hl]at e;cases e;obtain⟨b,h1,h2⟩:=hv (t,x) (qx hl);exact⟨b,h1,h2,.inl rfl⟩
  refine⟨m',q1,q2,?_⟩;rcases vZ with rfl|⟨pn,akf⟩
  ·exact .inl ⟨λt x e=>by obtain⟨b,h1,h2,_⟩:=tok t x e;exact⟨b,h1,h2⟩,by rw[hG,SZ]⟩
  ·refine .inr ⟨λt x e=> ?_,⟨G,hG⟩,pn⟩;obtain⟨b,h1,h2,h3⟩:=tok t x e;refine⟨b,h1,h2,?_⟩;rcases h3 with h3|h3
   ·exact akf (t,x) (qx h3)
   ·show Lt (Hf m').length x;rw[hl m' q2];exact hlt t x h3
 |_=>exact hΦ
theorem gP{nt:Nat}{c:T7}{Φ:ao->AS->Prop}(n:Nat)(V:Nat->List (Nat×AV))(Hf:Nat->List aa)(ok:Nat->Prop)
  (B5:∀m m',(V m).map (·.1)=(V m').map (·.1)) (iL:∀p∈V 0,∃b,look s.T p.1=some b/\Wk b p.2) (BD:Hf 0=s.H) (hl:∀m,m<=n->ok m->(Hf m).length=s.H.length) (hm:ok 0)
  (h:bQ s.H->(∀t a,look s.T t=some a->Lt s.H.length a)->∀m,m<=n->ok m->∀R:AS->Prop,(∀s',(m<n/\ok (m+1)/\tU s.T (V m) (V (m+1)) (Hf (m+1)) s')->R s')->aX lv P r nt c ⟨V m++s.T,Hf m⟩ (ao.then R Φ)):aX lv P r nt (.loop c) s Φ:=by
 refine yL (measure λi=>n-i).wf V Hf (λi=>i<=n/\ok i) 0 B5 iL BD (λm h=>hl m h.1 h.2) ⟨Yd _,hm⟩ (λh1 h2 m am R hR=> ?_);exact h h1 h2 m am.1 am.2 R λs' ⟨q1,q2,q3⟩=>hR s' ⟨m+1,(by show n-(m+1)<n-m;omega),⟨q1,q2⟩,q3⟩
end
theorem qv{T base Vn:List (Nat×AV)}(h1:T.drop (T.length-base.length)=base)(h2:((T.take (T.length-base.length)).all λp=>(Vn.any λq=>q.1==p.1)|| !(base.any λq=>q.1==p.1))=true):so T base Vn:=⟨h1,h2⟩
theorem k_{H L:List aa}{x:SO}{k:AV->List aa->Prop}(hH:bQ H)(h:k (.val x) H):cw H.length (H++L) (.val x) k:=jU (Wk.refl _) rfl (SU _) hH (.val x) h
theorem iJ{H L:List aa}{a b:AV}{k:AV->List aa->Prop}(hH:bQ H)(hw:Wk a b)(hl:Lt H.length b)(h:k b H):cw H.length (H++L) a k:=jU hw rfl (SU _) hH hl h
def aa.cellsOf:aa->Option (List AV)
 |.cells l _|.part _ l _|.own _ l _=>some l
 |_=>none
theorem af0(l:List AV)(e:TypeId):aa.cellsOf (.cells l e)=some l:=rfl
theorem af2(p:Nat)(l:List AV)(e:TypeId):aa.cellsOf (.part p l e)=some l:=rfl
def aa.rowOf:aa->Option (List AV)
 |.cells l _|.part _ l _|.own _ l _=>some l
 |_=>none
theorem apc(l:List AV)(e:TypeId):aa.rowOf (.cells l e)=some l:=rfl
theorem af1(p:Nat)(l:List AV)(e:TypeId):aa.cellsOf (.own p l e)=some l:=rfl
theorem apd(p:Nat)(l:List AV)(e:TypeId):aa.rowOf (.own p l e)=some l:=rfl
theorem ape(p:Nat)(l:List AV)(e:TypeId):aa.rowOf (.part p l e)=some l:=rfl
theorem aeY(T:List (Nat×AV))(H:List aa)(i off:Nat):AS.at ⟨T,H⟩ (.op i off)=((H[i]?).bind aa.cellsOf).map λl=>l.drop off:=by
 simp only[AS.at];cases H[i]?with
 |none=>rfl
 |some x=>cases x<;>rfl
theorem anQ(k:TU)(n:Int):AV.parts (.val (.int k n))=some [.val (.int k n)]:=rfl
theorem anM(b:Bool):AV.parts (.val (.bool b))=some [.val (.bool b)]:=rfl
theorem an0(b:ByteArray):AV.parts (.val (.string b))=some [.val (.string b)]:=rfl
theorem anX(b:Option U4):AV.parts (.val (.pointer b))=some [.val (.pointer b)]:=rfl
theorem anT:AV.parts (.val .nilFunc)=some [.val .nilFunc]:=rfl
theorem anU:AV.parts (.val .nilIface)=some [.val .nilIface]:=rfl
theorem anR(r:Option Nat):AV.parts (.val (.map r))=some [.val (.map r)]:=rfl
theorem anL(l:List AV):AV.parts (.agg l)=some l:=rfl
theorem anZ(n:Nat)(l:List AV)(e:End):AV.parts (.sl n l e)=some [.sl n l e]:=rfl
theorem amg(n:Nat)(l:List AV)(e:End):AV.len (.sl n l e)=some n:=by rw[AV.len]
theorem amf(i o n c:Nat):AV.len (.bK i o n c)=some n:=by rw[AV.len]
attribute [seval] amg amf
theorem anW(i o n c:Nat):AV.parts (.bK i o n c)=some [.bK i o n c]:=rfl
theorem anY(l:List AV):AV.parts (.rp l)=some [.rp l]:=rfl
theorem anV(i o:Nat):AV.parts (.op i o)=some [.op i o]:=rfl
theorem anO(f:Fn)(l m:List AV):AV.parts (.fn f l m)=some [.fn f l m]:=rfl
theorem anP(t:TypeId)(a:AV):AV.parts (.c9 t a)=some [.c9 t a]:=rfl
theorem anS(i:Nat):AV.parts (.mp i)=some [.mp i]:=rfl
theorem al0(k:TU)(n:Int):AV.leaf (.val (.int k n))=true:=rfl
theorem alW(b:Bool):AV.leaf (.val (.bool b))=true:=rfl
theorem amb(b:ByteArray):AV.leaf (.val (.string b))=true:=rfl
theorem al8(b:Option U4):AV.leaf (.val (.pointer b))=true:=rfl
theorem al3:AV.leaf (.val .nilFunc)=true:=rfl
theorem al4:AV.leaf (.val .nilIface)=true:=rfl
theorem al1(r:Option Nat):AV.leaf (.val (.map r))=true:=rfl
theorem ama(n:Nat)(l:List AV)(e:End):AV.leaf (.sl n l e)=true:=rfl
theorem al7(i o n c:Nat):AV.leaf (.bK i o n c)=true:=rfl
theorem al9(l:List AV):AV.leaf (.rp l)=true:=rfl
theorem al6(i o:Nat):AV.leaf (.op i o)=true:=rfl
theorem alY(f:Fn)(l m:List AV):AV.leaf (.fn f l m)=true:=rfl
theorem alZ(t:TypeId)(a:AV):AV.leaf (.c9 t a)=true:=rfl
theorem al2(i:Nat):AV.leaf (.mp i)=true:=rfl
theorem ank(k:TU)(n:Int):AV.pB (.int k n)=.val (.int k n):=rfl
theorem anh(b:Bool):AV.pB (.bool b)=.val (.bool b):=rfl
theorem ann:AV.pB (.slice none 0 0)=.sl 0 [] .exact:=rfl
theorem ani:AV.pB .nilFunc=.val .nilFunc:=rfl
theorem anj:AV.pB .nilIface=.val .nilIface:=rfl
theorem anm(a:Option U4):AV.pB (.pointer a)=.val (.pointer a):=rfl
theorem anl(a:Option Nat):AV.pB (.map a)=.val (.map a):=rfl
theorem arY(l:List SO):l6 (.agg l.toArray)=l.map AV.pB:=by simp[l6,Z_]
theorem ar3(k:TU)(n:Int):l6 (.int k n)=[.val (.int k n)]:=rfl
theorem arZ(b:Bool):l6 (.bool b)=[.val (.bool b)]:=rfl
theorem ar6:l6 (.slice none 0 0)=[.sl 0 [] .exact]:=rfl
theorem ar1:l6 .nilFunc=[.val .nilFunc]:=rfl
theorem ar2:l6 .nilIface=[.val .nilIface]:=rfl
theorem ar5(a:Option U4):l6 (.pointer a)=[.val (.pointer a)]:=rfl
theorem ar4(a:Option Nat):l6 (.map a)=[.val (.map a)]:=rfl
theorem ag7(s:AS):j8 s []=some []:=rfl
theorem ag6(s:AS)(i:Nat)(x:Tl)(l:List (Nat×Tl)):j8 s ((i,x)::l)=(s.ev x).bind λa=>(j8 s l).map λaG=>(i,a)::aG:=by
 simp only[j8];cases s.ev x with
 |none=>rfl
 |some a=>cases j8 s l<;>rfl
theorem ail(p:Nat->Option (Nat×Nat))(c:List AV):oh p c []=some c:=rfl
theorem aik(p:Nat->Option (Nat×Nat))(c:List AV)(i:Nat)(a:AV)(r:List (Nat×AV)):oh p c ((i,a)::r)=(p i).bind λx=>(a.parts).bind λlp=>if lp.length≠x.2\/x.1+lp.length>c.length then none else oh p (iF c x.1 lp) r:=by
 simp only[oh];cases p i with
 |none=>rfl
 |some x=>cases a.parts<;>rfl
theorem an7(l:List (Nat×Nat))(i:Nat):ig.at (.fields l) i=l[i]?:=rfl
theorem an6(sz i:Nat):ig.at (.elems sz) i=some (i* sz,sz):=rfl
theorem arW(z:SO):gM z 0=[]:=rfl
theorem aqb(s:AS)(sz m:Nat)(l:List AV)(e:End):s.src sz (.sl m l e)=some (m,l.take (m* sz)):=rfl
theorem aqa(T:List (Nat×AV))(H:List aa)(sz i off m c:Nat):AS.src ⟨T,H⟩ sz (.bK i off m c)=((H[i]?).bind aa.rowOf).map λl=>(m,(l.drop off).take (m* sz)):=by
 simp only[AS.src];cases H[i]?with
 |none=>rfl
 |some x=>cases x<;>rfl
theorem aeR(n:Nat)(l:List AV)(e:End)(kO:Nat->Nat->Nat->Nat->Prop)(k:Nat->List AV->End->Prop):AV.pP (.sl n l e) kO k=k n l e:=by rw[AV.pP]
theorem aeQ(i o n c:Nat)(kO:Nat->Nat->Nat->Nat->Prop)(k:Nat->List AV->End->Prop):AV.pP (.bK i o n c) kO k=kO i o n c:=by rw[AV.pP]
theorem aeA:type_of% @tL.eq_1:=by intros;rw[tL.eq_1]
theorem aey(s:AS)(dst:Option Nat)(next:AS->Prop)(n m sz:Nat)(elem:TypeId)(l l':List AV):Az s dst next n m sz elem l l' .exact=next ((⟨s.T,s.H++[.tail (n+m) sz elem]⟩:AS).put dst (.sl (n+m) (l++l') (.opn s.H.length))):=rfl
theorem aez(s:AS)(dst:Option Nat)(next:AS->Prop)(n m sz:Nat)(elem:TypeId)(l l':List AV)(k:Nat):Az s dst next n m sz elem l l' (.opn k)=((match s.H[k]?with
   |some (.tail n' eJ gn)=>n'=n/\eJ=sz/\gn=elem
   |_=>False)/\(∀a∈l',a.leaf=true)/\next ((⟨s.T,s.H.set k (.tail (n+m) sz elem)⟩:AS).put dst (.sl (n+m) (l++l') (.opn k)))):=rfl
theorem ao3(P:SK)(T:List (Nat×AV))(H:List aa)(b t:Nat):uU P ⟨T,H⟩ (.cell b t)=(look T b).bind λp=>((⟨T,H⟩:AS).at p).bind λl=>(Ty P t).bind λx=>if x.2 then(if x.1<=l.length then some (.agg (l.take x.1))else none)else l[0]?:=rfl
section
variable {lv:Bool}{P:SK}{s s':AS}
@[congr] theorem ate {α : Type} {x y : Option α} {k : α -> Prop} (h : x = y) : ap x k = ap y k := by rw [h]
@[congr] theorem asm {a b : AV} {k : Bool -> Prop} (h : a = b) : AV.asBool a k = AV.asBool b k := by rw [h]
@[congr] theorem asn {a b : AV} {k : TU -> Int -> Prop} (h : a = b) : AV.asInt a k = AV.asInt b k := by rw [h]
@[congr] theorem ass {a b : AV} {k : List AV -> Prop} (h : a = b) : AV.wZ a k = AV.wZ b k := by rw [h]
@[congr] theorem asl {a b : AV} {k : List AV -> Prop} (h : a = b) : AV.asAgg a k = AV.asAgg b k := by rw [h]
@[congr] theorem asp {a b : AV} {k : Nat -> Nat -> Prop} (h : a = b) : AV.pO a k = AV.pO b k := by rw [h]
@[congr] theorem aso {a b : AV} {k : Nat -> Prop} (h : a = b) : AV.sx a k = AV.sx b k := by rw [h]
@[congr] theorem asr {a b : AV} {k : Nat -> List AV -> End -> Prop} (h : a = b) : AV.vt a k = AV.vt b k := by rw [h]
@[congr] theorem asq {a b : AV} {kO : Nat -> Nat -> Nat -> Nat -> Prop} {k : Nat -> List AV -> End -> Prop} (h : a = b) : AV.pP a kO k = AV.pP b kO k := by rw [h]
@[congr] theorem asi {H H' : List aa} {k : AV -> List aa -> Prop} {id oF off CX n n' c0 OE m m' sz : Nat} {elem : TypeId} {l l' : List AV} (h0 : H = H') (h1 : id = oF) (h2 : off = CX) (h3 : n = n') (h4 : c0 = OE) (h5 : m = m') (h6 : l = l') : tL H k id off n c0 m sz elem l = tL H' k oF CX n' OE m' sz elem l' := by rw [h0, h1, h2, h3, h4, h5, h6]
@[congr] theorem ar9 {op : VZ} {t : TypeId} {a a' b b' : AV} {k : AV -> Prop} (h : a = a') (h' : b = b') : dw P op t a b k = dw P op t a' b' k := by rw [h, h']
@[congr] theorem ar8 {s' : AS} {op : VZ} {t : TypeId} {y : Tl} {a a' : AV} {k : AV -> Prop} (hs : s = s') (h : a = a') : iH P s op t y a k = iH P s' op t y a' k := by rw [hs, h]
@[congr] theorem asc {a b : AV} {k : AV -> Prop} (h : a = b) : mA P a k = mA P b k := by rw [h]
@[congr] theorem ar7 {t : TypeId} {ok : Bool} {a b : AV} {k : AV -> Prop} (h : a = b) : Ax P t ok a k = Ax P t ok b k := by rw [h]
@[congr] theorem asb {t : TypeId} {a b : AV} {k : AV -> Prop} (h : a = b) : sg P s t a k = sg P s t b k := by rw [h]
@[congr] theorem asf {t : TypeId} {a b : AV} {x y z : Option Int} {k : AV -> Prop} (h : a = b) : sh P t a x y z k = sh P t b x y z k := by rw [h]
@[congr] theorem asd {o : Tx} {k : AV -> Prop} (h : s = s') : lC P s o k = lC P s' o k := by rw [h]
@[congr] theorem asj {o : Tx} {k : AV -> Prop} (h : s = s') : AQ lv P s o k = AQ lv P s' o k := by rw [h]
@[congr] theorem ash {o : Tx} {next : AS -> Prop} {bad : AV -> AS -> Prop} (h : s = s') : mB lv P s o next bad = mB lv P s' o next bad := by rw [h]
@[congr] theorem ase {all : Array Tx} {l : List Tx} {next : AS -> Prop} {bad : AV -> AS -> Prop} (h : s = s') : h_ lv P all l s next bad = h_ lv P all l s' next bad := by rw [h]
@[congr] theorem atg {all : Array Tx} {l l' : List Tx} {K : AS -> Prop} (hl : l = l') (h : s = s') : m9 lv P all l s K = m9 lv P all l' s' K := by rw [hl, h]
@[congr] theorem asv {r : Option Nat} {nt : Nat} {c : T7} {Φ : ao -> AS -> Prop} (h : s = s') : aX lv P r nt c s Φ = aX lv P r nt c s' Φ := by rw [h]
@[congr] theorem atn {K : AS -> Prop} {Φ : ao -> AS -> Prop} {e e' : ao} (he : e = e') (h : s = s') : ao.then K Φ e s = ao.then K Φ e' s' := by rw [he, h]
@[congr] theorem atb {i : Nat} {Φ : ao -> AS -> Prop} {e e' : ao} (he : e = e') (h : s = s') : ao.inBlock i Φ e s = ao.inBlock i Φ e' s' := by rw [he, h]
end
theorem ad1:type_of% @h_.eq_1:=by intros;rw[h_.eq_1]
theorem ad0:type_of% @h_.eq_2:=by intros;rw[h_.eq_2]
theorem ad7:type_of% @mB.eq_1:=by intros;rw[mB.eq_1]
theorem adZ:type_of% @lC.eq_1:=by intros;rw[lC.eq_1]
theorem aog:type_of% @m9.eq_1:=by intros;rw[m9.eq_1]
theorem aof:type_of% @m9.eq_2:=by intros;rw[m9.eq_2]
theorem ad2:type_of% @AQ.eq_1:=by intros;rw[AQ.eq_1]
theorem ao0:type_of% @g_.eq_1:=by intros;rw[g_.eq_1]
theorem aoZ:type_of% @g_.eq_2:=by intros;rw[g_.eq_2]
theorem ao2:type_of% @iU.eq_1:=by intros;rw[iU.eq_1]
theorem ag9:type_of% @fl.eq_1:=by intros;rw[fl.eq_1]
theorem ag8:type_of% @fl.eq_2:=by intros;rw[fl.eq_2]
theorem adE:type_of% @Ax.eq_1:=by intros;rw[Ax.eq_1]
theorem aob:type_of% @iF.eq_1:=by intros;rw[iF.eq_1]
theorem ao1:iU []=.aJ []:=by rw[iU];simp
theorem abH(a b:AV)(l:List AV):iU (a::b::l)=.aJ (a::b::l):=by rw[iU];simp
theorem aqK(l:List AV):(AV.rp l).sure=true:=by simp[AV.sure]
theorem aqI(i j:Nat):(AV.op i j).sure=true:=by simp[AV.sure]
theorem aqE(f:TN)(x y:List AV):(AV.fn (.func f) x y).sure=true:=by simp[AV.sure]
theorem aqF(t:TypeId)(x:AV):(AV.c9 t x).sure=true:=by simp[AV.sure]
theorem adV(P:SK)(k:AV->Prop)(name:String)(t:TypeId)(av:AV):mA P (.fn (.method name) [.c9 t av] []) k=(HS P t name/\k (.fn (.method name) [.c9 t av] [])):=by rw[mA]
theorem adX(P:SK)(k:AV->Prop)(l:List AV):mA P (.rp l) k=k (.rp l):=by simp[mA,AV.sure]
theorem adW(P:SK)(k:AV->Prop)(i j:Nat):mA P (.op i j) k=k (.op i j):=by simp[mA,AV.sure]
theorem adT(P:SK)(k:AV->Prop)(f:TN)(x y:List AV):mA P (.fn (.func f) x y) k=k (.fn (.func f) x y):=by simp[mA,AV.sure]
theorem adY(P:SK)(k:AV->Prop)(f)(x y:List AV):mA P (.fn (.yield f) x y) k=k (.fn (.yield f) x y):=by simp[mA,AV.sure]
theorem adU(P:SK)(k:AV->Prop)(t:TypeId)(x:AV):mA P (.c9 t x) k=k (.c9 t x):=by simp[mA,AV.sure]
theorem adO(P:SK)(s:AS)(op:VZ)(xt:TypeId)(t:Nat)(a:AV)(k:AV->Prop):iH P s op xt (.tmp t) a k=ap (s.ev (.tmp t)) λb=>dw P op xt a b k:=by rw[iH]<;>(intros;simp_all)
theorem adJ(P:SK)(s:AS)(op:VZ)(xt:TypeId)(j:TU)(m:Int)(a:AV)(k:AV->Prop):iH P s op xt (.const (.int j m)) a k=ap (s.ev (.const (.int j m))) λb=>dw P op xt a b k:=by rw[iH]<;>(intros;simp_all)
theorem adG(P:SK)(s:AS)(op:VZ)(xt:TypeId)(c:Bool)(a:AV)(k:AV->Prop):iH P s op xt (.const (.bool c)) a k=ap (s.ev (.const (.bool c))) λb=>dw P op xt a b k:=by rw[iH]<;>(intros;simp_all)
theorem adN(P:SK)(s:AS)(op:VZ)(xt:TypeId)(c:ByteArray)(a:AV)(k:AV->Prop):iH P s op xt (.const (.string c)) a k=ap (s.ev (.const (.string c))) λb=>dw P op xt a b k:=by rw[iH]<;>(intros;simp_all)
theorem adF(P:SK)(s:AS)(op:VZ)(xt:TypeId)(c:Array SO)(a:AV)(k:AV->Prop):iH P s op xt (.const (.agg c)) a k=ap (s.ev (.const (.agg c))) λb=>dw P op xt a b k:=by rw[iH]<;>(intros;simp_all)
theorem adM(P:SK)(s:AS)(op:VZ)(xt:TypeId)(c:Option U4)(a:AV)(k:AV->Prop):iH P s op xt (.const (.pointer c)) a k=ap (s.ev (.const (.pointer c))) λb=>dw P op xt a b k:=by rw[iH]<;>(intros;simp_all)
theorem adK(P:SK)(s:AS)(op:VZ)(xt:TypeId)(c:Option U4)(m n:Nat)(a:AV)(k:AV->Prop):iH P s op xt (.const (.slice c m n)) a k=ap (s.ev (.const (.slice c m n))) λb=>dw P op xt a b k:=by rw[iH]<;>(intros;simp_all)
theorem adL(P:SK)(s:AS)(op:VZ)(xt:TypeId)(k:AV->Prop):iH P s op xt (.const .nilIface) (.val .nilIface) k=(mq P xt=some true/\(op=.eql\/op=.neq)/\k (.val (.bool (if op== .neq then false else true)))):=by rw[iH]
theorem adI(P:SK)(s:AS)(op:VZ)(xt t:TypeId)(x:AV)(k:AV->Prop):iH P s op xt (.const .nilIface) (.c9 t x) k=(mq P xt=some true/\(op=.eql\/op=.neq)/\k (.val (.bool (if op== .neq then true else false)))):=by rw[iH]
theorem agT:((XK== .neq)=false):=rfl
theorem am6:((VW== .neq)=true):=rfl
theorem aiL(z:SO):AV.found z true none=.aJ [AV.of z,.val (.bool false)]:=by rw[AV.found];simp
theorem aiM(z:SO)(x:Nat×SO):AV.found z true (some x)=.aJ [AV.of x.2,.val (.bool true)]:=by rw[AV.found];simp
attribute [seval] aiL aiM
attribute [seval] adO adJ adG adN adF adM adK adL adI agT am6
attribute [seval] aoO aoP ajb aja ai9 ai8 ww ag5 agV agZ agX ag4 ag0 ag1 agW agY amC amD aod aoc aq5 aq7 aq3 aq4 aq6 afK afM afH afL afI afJ aiK aiI aiJ ao5 aeL aeN aeU aeJ aeP aeO aeS aeR aeQ aeA ad8 ael aeh aeb NU aeg aef aed aec true_and and_true Option.bind_some List.getElem?_toArray List.getElem?_cons_succ List.getElem?_cons_zero Bool.not_true Bool.not_false true_implies false_implies if_true if_false aeZ apU apV apW apg apf List.drop_succ_cons List.drop_zero List.take_succ_cons List.take_zero List.cons_append List.nil_append List.length_cons List.length_nil Int.toNat_natCast decide_eq_true_eq decide_eq_false_iff_not Bool.not_eq_true' Bool.not_eq_false' Bool.not_eq_eq_eq_not aeY af0 af2 apc ape apd af1 Option.map_some vp aeC vq aeG aeB aeF Nat.zero_add List.set_cons_zero List.set_cons_succ anQ anM an0 anX anT anU anR anL anZ anW anY anV anO anP anS List.forall_mem_cons List.not_mem_nil false_imp_iff implies_true al0 alW amb al8 al3 al4 al1 ama al7 al9 al6 alY alZ al2 ank anh ann ani anj anm anl arY ar3 arZ ar6 ar1 ar2 ar5 ar4 List.map_cons List.map_nil ag7 ag6 ail aik an7 an6 arW aqb aqa aey aez ao3 adS adR ne_eq not_true_eq_false not_false_eq_true gt_iff_lt Nat.lt_irrefl or_self or_false false_or Nat.le_refl Nat.mul_one Nat.one_mul Nat.zero_mul Nat.mul_zero bne_iff_ne bne_eq_false_iff_eq beq_iff_eq ad1 ad0 ad7 adZ aog aof ad2 ao0 aoZ ao2 ao1 abH ag9 ag8 adE aob abH aqK aqI aqE aqF adV adX adW adT adY adU
theorem apb{base Vi Vn T:List (Nat×AV)}{H:List aa}(hk:so T (Vi++base) Vn)(hv:∀p∈Vn,∃b,look T p.1=some b/\Wk b p.2):tU base Vi Vn H ⟨T,H⟩:=⟨hk,hv,[],by simp,.inl rfl⟩
theorem abJ{base Vi Vn T:List (Nat×AV)}{H G:List aa}(hk:so T (Vi++base) Vn)(hv:∀p∈Vn,∃b,look T p.1=some b/\Wk b p.2)(am:bQ H)(hlt:∀p∈Vn,Lt H.length p.2):tU base Vi Vn H ⟨T,H++G⟩:=⟨hk,hv,G,rfl,.inr ⟨am,hlt⟩⟩
theorem Ag{base Vi Vn T:List (Nat×AV)}{H L G:List aa}(hk:so T (Vi++base) Vn)(hv:∀p∈Vn,∃b,look T p.1=some b/\Wk b p.2)(am:bQ (H++L))(hlt:∀p∈Vn,Lt (H++L).length p.2):tU base Vi Vn (H++L) ⟨T,H++(L++G)⟩:=⟨hk,hv,G,(SD ..).symm,.inr ⟨am,hlt⟩⟩
def pick (ks:List Nat)(T:List (Nat×AV)):List (Nat×AV):=ks.filterMap λk=>(look T k).map λa=>(k,a)
theorem Oe{lv:Bool}{P:SK}{r:Option Nat}{nt:Nat}{c:T7}{T:List (Nat×AV)}{H:List aa}{Φ:ao->AS->Prop}(ks:List Nat)(h:aX lv P r nt c ⟨pick ks T,H⟩ Φ):aX lv P r nt c ⟨T,H⟩ Φ:=by
 refine mJ (s':=⟨pick ks T,H⟩) ⟨λt a e=> ?_,rfl⟩ h;obtain⟨k,_,e'⟩:=VD.1 (qx e);obtain⟨b,hb,e'⟩:=Tp.1 e';cases e';exact⟨a,hb,Wk.refl a⟩
theorem LS{ops:Array Tx}(mh:∀(i:Nat) o,ops[i]?=some o->∀j∈cK o,j<ops.size)(R0:∀X:List Nat,(∃i,i<ops.size/\i∉X)->∃i o,ops[i]?=some o/\i∉X/\∀j∈cK o,j∈X):∀(fuel t:Nat)(L:Array Bool)(X:List Nat),NP ops L X->(S0 ops.size).countP (λi=> !X.contains i)<=fuel->lF ops X (Us .any ops fuel t L [])
 |0,t,L,X,hr,hc=>by
  simp only[Us,XY];refine .nil X λi hi=> ?_;have:(S0 ops.size).countP (λi=> !X.contains i)=0:=by omega
  have:=List.countP_eq_zero.1 this i (by simpa using hi);simpa using this
 |fuel+1,t,L,X,hr,hc=>by
  have uC:∀i,i∈((S0 ops.size).filter λi=> !L.getD i true&&((ops[i]?).map (·.after.all λe=> !Region.binds .any e||L.getD e.on false)).getD false)<->∃o,ops[i]?=some o/\i∉X/\∀j∈cK o,j∈X:=by
   intro i;simp only[Uj,TG,Ti,TV];constructor
   ·rintro⟨hi,h1,h2⟩
    have ho:=SJ hi;refine⟨ops[i],ho,λhx=> ?_,λj hj=> ?_⟩
    ·have:=(hr.mem i hi).2 hx;rw[SI,this]at h1;cases h1
    ·obtain⟨e,he,hb,rfl⟩:=Gk.1 hj;rw[ho]at h2;simp only[UN,S8,UE]at h2;have:=h2 e he;rw[hb]at this;simp only[am',Zv]at this;have hlt:e.on<ops.size:=mh i _ ho _ hj;refine(hr.mem _ hlt).1 ?_;rw[SI]at this;cases hx:L[e.on]?with
     |none=>rw[hx]at this;cases this
     |some b=>rw[hx]at this;cases b;cases this;rfl
   ·rintro⟨o,ho,h1,h2⟩
    have hi:i<ops.size:=(SS.1 ho).1;refine⟨hi,?_,?_⟩
    ·rw[SI,SJ (by rw[hr.size];exact hi)];simp only[S8];cases hb:L[i]'(by rw[hr.size];exact hi)with
     |false=>rfl
     |true=>exact absurd ((hr.mem i hi).1 (by rw[SJ (by rw[hr.size];exact hi),hb])) h1
    ·rw[ho];simp only[UN,S8,UE];intro e he;cases hb:Yq .any e with
     |false=>rfl
     |true=>
      have hj:=Gk.2 ⟨e,he,hb,rfl⟩;have hlt:e.on<ops.size:=mh i _ ho _ hj;have:=(hr.mem _ hlt).2 (h2 _ hj);simp[SI,this]
  simp only[Us];generalize Cm:((S0 ops.size).filter λi=> !L.getD i true&&((ops[i]?).map (·.after.all λe=> !Region.binds .any e||L.getD e.on false)).getD false)=rs at uC;cases hi:rs[t % rs.length]?with
  |none=>
   have KA:rs=[]:=by
    cases rs with
    |nil=>rfl
    |cons x xs=>
     have hlt:t % (x::xs).length<(x::xs).length:=as' _ (by simp);rw[List.getElem?_eq_none_iff]at hi;omega
   simp only[XY];refine .nil X λi hlt=> ?_;apply Tt;intro hx;obtain⟨i',o,h1,h2,h3⟩:=R0 X ⟨i,hlt,hx⟩;have:i'∈rs:=(uC i').2 ⟨o,h1,h2,h3⟩;rw[KA]at this;cases this
  |some i=>
   simp only[];obtain⟨o,ho,h1,h2⟩:=(uC i).1 (Tf hi);have hlt:i<ops.size:=(SS.1 ho).1;rw[linearise_go_acc,List.reverse_singleton,Y2];refine .cons o ho h1 h2 (LS mh R0 fuel _ _ (i::X) ⟨by simp[hr.size],λk hk=> ?_⟩ ?_)
   ·by_cases nF:k=i
    ·subst nF;simp[S9 (by rw[hr.size];exact hlt)]
    ·rw[SR (Ne.symm nF),hr.mem k hk];simp[nF]
   ·have fI:i∈(S0 ops.size):=(by simpa using hlt);have:(S0 ops.size).countP (λk=> !(i::X).contains k)<(S0 ops.size).countP (λk=> !X.contains k):=by
     exact OR fI (λk hk=>by simp only[TV,Up,decide_eq_false_iff_not]at hk⊢;exactλh=>hk (Ta _ h)) (by simpa using h1) (by simp)
    omega
theorem I8{X:List Nat}:∀{l:List Nat},(∃i∈l,i∉X)->∃A i B,l=A++i::B/\i∉X/\∀a∈A,a∈X
 |[],⟨_,h,_⟩=>by cases h
 |x::l,⟨i,h,hn⟩=>by
  by_cases hx:x∈X
  ·have hi:i∈l:=(SL.1 h).resolve_left λe=>hn (e▸hx);obtain⟨A,j,B,h1,h2,h3⟩:=I8 ⟨i,hi,hn⟩;exact⟨x::A,j,B,by rw[h1];rfl,h2,λa ha=>(SL.1 ha).elim (λe=>e▸hx) (h3 a)⟩
  ·exact⟨[],x,l,rfl,hx,by simp⟩
structure AI (k:AV->List aa->Prop):Type where
 n:Nat
def Dz (lv:Bool)(P:SK)(f:AV)(H:List aa)(aG:List AV)(k:AV->List aa->Prop)(_t:AI k):Prop:=∃av H',iY lv P f H aG (λb tP=>b=av/\tP=H') (λ_ _=>False)/\k av H'
def HL (lv:Bool)(P:SK)(f:AV)(name:String)(H:List aa)(aG:List AV)(k:AV->List aa->Prop)(_t:AI k):Prop:=∃av H',DK lv P f name H aG (λb tP=>b=av/\tP=H') (λ_ _=>False)/\k av H'
theorem kY{lv:Bool}{P:SK}{f:AV}{H:List aa}{aG:List AV}{k:AV->List aa->Prop}{t:AI k}(av:AV)(H':List aa)(h:iY lv P f H aG (λb tP=>b=av/\tP=H') (λ_ _=>False))(hk:k av H'):Dz lv P f H aG k t:=⟨av,H',h,hk⟩
def j6 (x:Option aa)(X Y:Prop)(_t:l7 X Y):Prop:=match x with
 |some (.own _ _ _)=>X
 |_=>Y
def qJ (G H:List aa)(k:AV->List aa->Prop)(n m sz:Nat)(elem:TypeId)(l l':List AV):End->Prop
 |.exact=>j6 G[H.length]? (0<m/\k (.bK H.length 0 (n+m) 0) (H++[.own sz (l++l') elem])) (k (.sl (n+m) (l++l') (.opn H.length)) (H++[.tail (n+m) sz elem])) ⟨0⟩
 |.opn i=>(match H[i]?with
   |some (.tail n' eJ gn)=>n'=n/\eJ=sz/\gn=elem
   |_=>False)/\(∀a∈l',a.leaf=true)/\k (.sl (n+m) (l++l') (.opn i)) (H.set i (.tail (n+m) sz elem))
 |.shut=>m=0/\k (.sl n l .shut) H
section
variable (lv:Bool)(P:SK)
def j4 (G:List aa)(s:AS)(o:Tx)(k:AV->List aa->Prop):Prop:=match o.op with
 |.box t x=>ap (s.ev x) λa=>ap a.parts λl=>k (.op s.H.length 0) (s.H++[.cells l t])
 |.alloc t=>ap (eU P t) λz=>k (.op s.H.length 0) (s.H++[.cells (l6 z) t])
 |.store t x y=>ap (s.ev x) λp=>ap (s.ev y) λa=>ap a.parts λlp=>p.pO λid off=>match s.H[id]?with
  |some (.cells l el)=>(ap (Ty P t) λx=>lp.length=x.1)/\off+lp.length<=l.length/\(∀a∈lp,a.leaf=true)/\k (.val undef) (s.H.set id (.cells (iF l off lp) el))
  |some (.own p l el)=>(ap (Ty P t) λx=>lp.length=x.1)/\off+lp.length<=l.length/\(∀a∈lp,a.leaf=true)/\k (.val undef) (s.H.set id (.own p (iF l off lp) el))
  |_=>False
 |.call c=>match c.callee with
  |.builtin .append=>match c.args.toList,c.argTypes.toList with
   |[x,y],[t,t']=>ap (jL P t t') λ(elem,sz,_)=>ap (s.ev x) λa=>ap (s.ev y) λb=>a.pP (λid off n c0=>ap (s.src sz b) λ(m,l')=>tL s.H k id off n c0 m sz elem l') λn l e=>ap (s.src sz b) λ(m,l')=>l.length=n* sz/\l'.length=m* sz/\n+m<=2^30/\qJ G s.H k n m sz elem l l' e
   |_,_=>False
  |.value x=>ap (s.ev x) λf=>ap (fl s c.args.toList) λaG=>Dz lv P f s.H aG k ⟨0⟩
  |.invoke x name=>ap (s.ev x) λf=>ap (fl s c.args.toList) λaG=>HL lv P f name s.H aG k ⟨0⟩
  |_=>False
 |.makeSlice t x y=>ap (AJ P t) λ(e,sz,z)=>ap (s.ev x) λa=>ap (s.ev y) λb=>a.asInt λ_ n=>b.asInt λ_ n'=>n'=n/\0<=n/\n<=2^30/\k (.bK s.H.length 0 n.toNat n.toNat) (s.H++[.cells (gM z (n.toNat* sz)) e])
 |.buildSlice t len parts=>ap (qR P t) λ(e,sz,z)=>len* sz<=2^24/\ap (j8 s parts.toList) λl9=>ap (oh (ig.at (.elems sz)) (gM z (len* sz)) l9) λl=>k (.bK s.H.length 0 len len) (s.H++[.cells l e])
 |_=>False
end
section
variable {lv:Bool}{P:SK}{r:Option Nat}{o:Tx}{s:AS}{k:AV->List aa->Prop}
theorem Step.drop{G:List aa}{av mI:AV}{bad:AV->AS->Prop}(h:Step lv P r o s (λs'=>s'=(⟨s.T,s.H++G⟩:AS).put o.dst av) bad)(hw:Wk av mI)(hl:∀(E:Env)(V:View)(a:Act),Conc E V s.H->cj E s.T a.tmps->Lt s.H.length mI):Step lv P r o s (λs'=>s'=(⟨s.T,s.H⟩:AS).put o.dst mI) bad:=λE V a N Q hc ht hd hf n1 n2=>by
 refine h E V a N Q hc ht hd hf (λE' V' a' s' q1 q2 q3 q4=> ?_) n2;subst q4;rw[ft]at q2;have eK:((⟨s.T,s.H++G⟩:AS).put o.dst av).HK ((⟨s.T,s.H⟩:AS).put o.dst mI):=by
  refine⟨λt x e=> ?_,⟨G,by rw[ft,ft]⟩,by rw[ft];exact hc.am⟩;rw[ft];have hold:look s.T t=some x->Lt s.H.length x:=λe=>by rw[<- hc.n];exact(ht t x e).2.lt
  cases cR:o.dst with
  |none=>
   rw[cR]at e;simp only[AS.put]at e⊢;exact⟨x,e,Wk.refl x,hold e⟩
  |some d=>
   rw[cR]at e;simp only[AS.put,look]at e⊢;by_cases QU:d=t
   ·rw[if_pos QU]at e⊢;cases e;exact⟨av,rfl,hw,hl E V a hc ht⟩
   ·rw[if_neg QU]at e⊢;exact⟨x,e,Wk.refl x,hold e⟩
 have ah:At E' V' ((⟨s.T,s.H++G⟩:AS).put o.dst av) a' a'.tmps.size:=⟨by rw[ft];exact q2,q3,rfl⟩;have aQ:=ah.cut eK;rw[ft]at aQ;refine n1 _ V' a' _ ⟨Df (SU _) (by rw[q2.n];simp) q1.le hc.n,q1.size,q1.defers,q1.role,q1.deaf⟩ aQ.bm aQ.tok rfl
end
section
variable {lv:Bool}{P:SK}{r:Option Nat}{o:Tx}{s:AS}{G:List aa}{k:AV->List aa->Prop}
theorem ew{α:Type}{x:Option α}{a:α}{k:α->Prop}(h:x=some a)(hk:k a):ap x k:=by rw[h,ap];exact hk
theorem P7{x:Option aa}{X Y:Prop}{t:l7 X Y}(h:j6 x X Y t):((∃a b c,x=some (.own a b c))/\X)\/((∀a b c,x≠some (.own a b c))/\Y):=by
 unfold j6 at h;split at h
 ·exact .inl ⟨⟨_,_,_,rfl⟩,h⟩
 ·rename_i hx;exact .inr ⟨λa b c e=>hx a b c e,h⟩
theorem aiW{x:Option aa}{X Y:Prop}{t:l7 X Y}{a:Nat}{b:List AV}{c:TypeId}(h:x=some (.own a b c))(hX:X):j6 x X Y t:=by subst h;exact hX
theorem aiZ{x:Option aa}{X Y:Prop}{t:l7 X Y}(h:∀a b c,x≠some (.own a b c))(hY:Y):j6 x X Y t:=by
 unfold j6;split
 ·exact absurd rfl (h _ _ _)
 ·exact hY
theorem qJ.ex{H:List aa}{n m sz:Nat}{elem:TypeId}{l l':List AV}{e:End}(h:qJ G H k n m sz elem l l' e):∃av H',qJ G H (λa h=>a=av/\h=H') n m sz elem l l' e/\k av H':=by
 cases e with
 |exact=>
  rcases P7 (t:=⟨0⟩) h with⟨⟨a,b,c,e⟩,h0,h1⟩|⟨e,h1⟩
  ·exact⟨_,_,aiW (t:=⟨0⟩) e ⟨h0,rfl,rfl⟩,h1⟩
  ·exact⟨_,_,aiZ (t:=⟨0⟩) e ⟨rfl,rfl⟩,h1⟩
 |shut=>exact⟨_,_,⟨h.1,rfl,rfl⟩,h.2⟩
 |opn i=>exact⟨_,_,⟨h.1,h.2.1,rfl,rfl⟩,h.2.2⟩
theorem tL.ex{H:List aa}{id off n c0 m sz:Nat}{elem:TypeId}{l':List AV}(h:tL H k id off n c0 m sz elem l'):∃av H',tL H (λa h=>a=av/\h=H') id off n c0 m sz elem l'/\k av H':=by
 obtain⟨h1,h2,h3,h4,h5,h6⟩:=h;split at h6
 ·rename_i hk;obtain⟨g1,g2,g3,g4⟩:=h6;refine⟨_,_,⟨h1,h2,h3,h4,h5,?_⟩,g4⟩;rw[hk];exact⟨g1,g2,g3,rfl,rfl⟩
 ·exact h6.elim
end
section
variable {lv:Bool}{P:SK}{r:Option Nat}{o:Tx}{s:AS}{next:AS->Prop}{bad:AV->AS->Prop}
theorem acy{t e:TypeId}{len sz:Nat}{z:SO}{parts:Array (Nat×Tl)}{l9:List (Nat×AV)}{l:List AV}(ho:o.op=.buildSlice t len parts)(ht:qR P t=some (e,sz,z))(aU:len* sz<=2^24)(hp:j8 s parts.toList=some l9)
  (hl:oh (ig.at (.elems sz)) (gM z (len* sz)) l9=some l) (hn:next ((⟨s.T,s.H++[.cells l e]⟩:AS).put o.dst (.bK s.H.length 0 len len))):Step lv P r o s next bad:=by
 intro E V a N Q hc aF hd bz h1 _;unfold qR at ht;split at ht
 ·rename_i e' hu;obtain⟨i,hi,ht⟩:=S_.1 ht;obtain⟨z',hz,ht⟩:=Tp.1 ht;cases ht;refine⟨bz,?_⟩;unfold execOp;rw[ho];dsimp only;refine az ?_;unfold Instr.buildSlice;refine ey hu ?_;dsimp only;refine j3 hi ?_;rw[if_neg (by omega)];obtain⟨hlen,bp⟩:=Em aF hp;obtain⟨eV,nD,up⟩:=Bn (IC (E:=E) z (len* i.size)) hlen bp hl;have fin:∀(rr:Nat),V.fresh rr->aR P (V.upd rr (.cells eV e)) (pure (W6 (.slice (some ⟨rr,0,none⟩) len len))) (mG lv P r o a N Q) (λv V'=>Q (.panic [{v,recovered:=false}]) a V'):=λrr hf=>by
   have oB:E.Le (E.add rr V.ab):=E.qw rr (λb o v h=>by rw[<- hc.I];exact h);have ba:Conc (E.add rr V.ab) (V.upd rr (.cells eV e)) (s.H++[.cells l e]):=by
    refine hc.add hf _ ⟨⟨_,?_,up.mono oB⟩,λo=> ?_⟩ (λb e=> ?_)
    ·rw[Env.dL];simp[View.upd]
    ·rw[Env.dL];exact hf.2 o
    ·simp only[bN,Env.dL,Tm]at e;exact e.symm
   have o4:aq (E.add rr V.ab) (.bK s.H.length 0 len len) (.slice (some ⟨rr,0,none⟩) len len):=by
    have:=aq.bK (E:=E.add rr V.ab) (id:=s.H.length) (off:=0) (n:=len) (cap:=len) (cap':=len) (by show _<E.n+1;rw[hc.n];omega) ⟨by omega,λ_=>rfl,λh=>absurd h (by omega)⟩;have e:(E.add rr V.ab).blk s.H.length=rr:=(by rw[<- hc.n];exact E.dL rr _);rwa [e]at this
   exact ay (h1 _ _ (a.put o.dst _) _ ⟨oB,dP _ _ _,put_defers _ _ _,rfl,rfl⟩ (by rw[ft];exact ba) (cj.gZ (s:=⟨s.T,s.H++[.cells l e]⟩) (aF.mono oB) hd o4) hn)
  have e2:(λj=>some (j* i.size,i.size))=ig.at (.elems i.size):=rfl;rw[e2];by_cases h0:len* i.size=0
  ·rw[if_pos h0];refine az (ay ?_);rw[h0]at nD⊢;rw[show WK 0=#[]from rfl]at nD⊢;simp only[List.map_toArray,List.map_nil,VM]at nD⊢;rw[nD];unfold newRow;exact az (az (az (oI λrr hf=>cM (ay (ay (ay (fin rr hf)))))))
  ·rw[if_neg h0];refine az (az ?_);unfold typeInfo;refine az (qB (cM ?_));rw[hi];refine ay ?_;rw[hz];refine ay (az (ay ?_));rw[VM,nD];unfold newRow;exact az (az (az (oI λrr hf=>cM (ay (ay (ay (fin rr hf)))))))
 ·cases ht
end
section
variable {lv:Bool}{P:SK}{r:Option Nat}{o:Tx}{s:AS}{G:List aa}{k:AV->List aa->Prop}
theorem j4.ex(h:j4 lv P G s o k):∃av H',j4 lv P G s o (λa h=>a=av/\h=H')/\k av H':=by
 unfold j4 at h⊢;generalize o.op=op at h⊢;cases op with
 |box t x=>
  obtain⟨a,h1,h⟩:=h.out;obtain⟨l,h2,h⟩:=h.out;exact⟨_,_,ew h1 (ew h2 ⟨rfl,rfl⟩),h⟩
 |alloc t=>
  obtain⟨z,h1,h⟩:=h.out;exact⟨_,_,ew h1 ⟨rfl,rfl⟩,h⟩
 |store t x y=>
  obtain⟨p,h1,hA⟩:=h.out;obtain⟨a,h2,hB⟩:=hA.out;obtain⟨lp,h3,hC⟩:=hB.out;obtain⟨id,off,e1,hD⟩:=A8 hC;subst e1;clear h hA hB hC;split at hD
  ·rename_i l el hk;refine⟨_,_,ew h1 (ew h2 (ew h3 ?_)),hD.2.2.2⟩;unfold AV.pO;dsimp only;rw[hk];exact⟨hD.1,hD.2.1,hD.2.2.1,rfl,rfl⟩
  ·rename_i p l el hk;refine⟨_,_,ew h1 (ew h2 (ew h3 ?_)),hD.2.2.2⟩;unfold AV.pO;dsimp only;rw[hk];exact⟨hD.1,hD.2.1,hD.2.2.1,rfl,rfl⟩
  ·exact hD.elim
 |call c=>
  dsimp only at h⊢;generalize c.callee=cl at h⊢;generalize c.args.toList=xs at h⊢;generalize c.argTypes.toList=ts at h⊢;cases cl with
  |builtin b=>
   cases b with
   |append=>
    dsimp only at h⊢;split at h
    ·obtain⟨⟨elem,sz,z⟩,h1,hA⟩:=h.out;obtain⟨a,h2,hB⟩:=hA.out;obtain⟨b,h3,hC⟩:=hB.out;rcases H6 hC with⟨id,off,n,c0,e1,hD⟩|⟨n,l,e,e1,hD⟩
     ·obtain⟨⟨m,l'⟩,h4,h5⟩:=hD.out;subst e1;obtain⟨av,H',g1,g2⟩:=h5.ex;refine⟨av,H',ew h1 (ew h2 (ew h3 ?_)),g2⟩;simp only[AV.pP];exact ew h4 g1
     ·obtain⟨⟨m,l'⟩,h4,h5,h6,h7,h8⟩:=hD.out;subst e1;obtain⟨av,H',g1,g2⟩:=h8.ex;refine⟨av,H',ew h1 (ew h2 (ew h3 ?_)),g2⟩;simp only[AV.pP];exact ew h4 ⟨h5,h6,h7,g1⟩
    ·exact h.elim
   |_=>exact h.elim
  |value x=>
   obtain⟨f,h1,hA⟩:=h.out;obtain⟨aG,h2,hB⟩:=hA.out;obtain⟨av,H',g1,g2⟩:=hB;exact⟨av,H',ew h1 (ew h2 ⟨av,H',g1,rfl,rfl⟩),g2⟩
  |invoke x name=>
   obtain⟨f,h1,hA⟩:=h.out;obtain⟨aG,h2,hB⟩:=hA.out;obtain⟨av,H',g1,g2⟩:=hB;exact⟨av,H',ew h1 (ew h2 ⟨av,H',g1,rfl,rfl⟩),g2⟩
 |makeSlice t x y=>
  obtain⟨⟨e,sz,z⟩,h1,hA⟩:=h.out;obtain⟨a,h2,hB⟩:=hA.out;obtain⟨b,h3,hC⟩:=hB.out;obtain⟨j,n,e1,hD⟩:=oe hC;obtain⟨j',n',e2,hE⟩:=oe hD;clear h hA hB hC hD;subst e1 e2;exact⟨_,_,ew h1 (ew h2 (ew h3 ⟨hE.1,hE.2.1,hE.2.2.1,rfl,rfl⟩)),hE.2.2.2⟩
 |buildSlice t len parts=>
  obtain⟨⟨e,sz,z⟩,h1,h2,hA⟩:=h.out;obtain⟨l9,h3,hB⟩:=hA.out;obtain⟨l,h4,hC⟩:=hB.out;exact⟨_,_,ew h1 ⟨h2,ew h3 (ew h4 ⟨rfl,rfl⟩)⟩,hC⟩
 |_=>exact h.elim
theorem j4.step{av:AV}{H':List aa}{bad:AV->AS->Prop}(h:j4 lv P G s o (λa h=>a=av/\h=H')):Step lv P r o s (λs'=>s'=(⟨s.T,H'⟩:AS).put o.dst av) bad:=by
 unfold j4 at h;split at h
 ·rename_i t x ho;obtain⟨a,h1,h⟩:=h.out;obtain⟨l,h2,h⟩:=h.out;obtain⟨e1,e2⟩:=h;exact acx ho h1 h2 (by rw[e1,e2])
 ·rename_i t ho;obtain⟨z,h1,h⟩:=h.out;obtain⟨e1,e2⟩:=h;exact acu ho h1 (by rw[e1,e2])
 ·rename_i t x y ho;obtain⟨p,h1,hA⟩:=h.out;obtain⟨a,h2,hB⟩:=hA.out;obtain⟨lp,h3,hC⟩:=hB.out;obtain⟨id,off,e1,hD⟩:=A8 hC;clear h hA hB hC;subst e1;split at hD
  ·rename_i l el hk;obtain⟨q1,q2,q3,q4,MI⟩:=hD;obtain⟨⟨n,g⟩,q5,q6⟩:=q1.out;exact acC ho q5 h1 hk h2 h3 q6 q2 q3 (by rw[q4,MI])
  ·rename_i p l el hk;obtain⟨q1,q2,q3,q4,MI⟩:=hD;obtain⟨⟨n,g⟩,q5,q6⟩:=q1.out;exact acD ho q5 h1 hk h2 h3 q6 q2 q3 (by rw[q4,MI])
  ·exact hD.elim
 ·rename_i c ho;split at h
  ·rename_i aY;split at h
   ·rename_i x y t t' ha ht;obtain⟨⟨elem,sz,z⟩,h1,hA⟩:=h.out;obtain⟨a,h2,hB⟩:=hA.out;obtain⟨b,h3,hC⟩:=hB.out;rcases H6 hC with⟨id,off,n,c0,e1,hD⟩|⟨n,l,e,e1,hD⟩
    ·clear h hA hB hC;subst e1;obtain⟨⟨m,l'⟩,h4,rfl,g2,g3,g4,g5,hE⟩:=hD.out;split at hE
     ·rename_i hk;obtain⟨rfl,rfl,g6,g7,g8⟩:=hE;exact acv ho aY (nf ha) (sd ht) h1 h2 g2 hk rfl h3 h4 g6 g3 g4 g5 (by rw[g7,g8])
     ·exact hE.elim
    ·clear h hA hB hC;subst e1;obtain⟨⟨m,l'⟩,h4,h5,h6,h7,h8⟩:=hD.out;cases e with
     |exact=>
      rcases P7 (t:=⟨0⟩) h8 with⟨_,h0,e1,e2⟩|⟨_,e1,e2⟩
      ·exact acw ho aY (nf ha) (sd ht) h1 h2 h3 h4 h5 h6 h7 h0 (by rw[e1,e2])
      ·exact step_append ho aY (nf ha) (sd ht) h1 h2 h3 h4 h5 h6 h7 (by show (_:AS)=_;rw[<- e1,<- e2])
     |shut=>
      obtain⟨e0,e1,e2⟩:=h8;exact step_append ho aY (nf ha) (sd ht) h1 h2 h3 h4 h5 h6 h7 ⟨e0,by rw[<- e1,<- e2]⟩
     |opn i=>
      obtain⟨e0,e0',e1,e2⟩:=h8;exact step_append ho aY (nf ha) (sd ht) h1 h2 h3 h4 h5 h6 h7 ⟨e0,e0',by rw[<- e1,<- e2]⟩
   ·exact h.elim
  ·rename_i x aY;obtain⟨f,h1,hA⟩:=h.out;obtain⟨aG,h2,hB⟩:=hA.out;obtain⟨a0,H0,g1,g2,g3⟩:=hB;subst g2 g3;exact M5 ho aY h1 h2 (g1.mono (λa H h=>by rw[h.1,h.2]) λ_ _ h=>h.elim)
  ·rename_i x name aY;obtain⟨f,h1,hA⟩:=h.out;obtain⟨aG,h2,hB⟩:=hA.out;obtain⟨a0,H0,g1,g2,g3⟩:=hB;subst g2 g3;exact acz ho aY h1 h2 (λE V cv vs hc hd o5=>(g1 E V cv vs hc hd o5).mono (λ_ _ x=>Nx.mono (λ_ _ y=>y.mono (λa H h=>by rw[h.1,h.2]) λ_ _ h=>h.elim) x) λ_ _ y=>y.mono (λa H h=>by rw[h.1,h.2]) λ_ _ h=>h.elim)
  ·exact h.elim
 ·rename_i t x y ho;obtain⟨⟨e,sz,z⟩,h1,hA⟩:=h.out;obtain⟨a,h2,hB⟩:=hA.out;obtain⟨b,h3,hC⟩:=hB.out;obtain⟨j,n,e1,hD⟩:=oe hC;obtain⟨j',n',e2,hE⟩:=oe hD;clear h hA hB hC hD;subst e1 e2;obtain⟨e3,h4,h5,h6,h7⟩:=hE;subst e3;obtain⟨m,rfl⟩:∃m:Nat,n'=m:=⟨n'.toNat,by omega⟩;exact acA ho h1 h2 h3 (by omega) (by rw[Vz]at h6 h7;rw[h6,h7])
 ·rename_i t len parts ho;obtain⟨⟨e,sz,z⟩,h1,h2,hA⟩:=h.out;obtain⟨l9,h3,hB⟩:=hA.out;obtain⟨l,h4,h5,h6⟩:=hB.out;exact acy ho h1 h2 h3 h4 (by rw[h5,h6])
 ·exact h.elim
theorem j4.congr{T T':List (Nat×AV)}{H:List aa}(h:∀x∈o.op.operands,AS.ev ⟨T,H⟩ x=AS.ev ⟨T',H⟩ x)(ha:j4 lv P G ⟨T,H⟩ o k):j4 lv P G ⟨T',H⟩ o k:=by
 unfold j4 at ha⊢;generalize o.op=op at h ha⊢;cases op with
 |box t x=>dsimp only at ha⊢;rw[<- h x (by simp[Tu])];exact ha
 |alloc t=>exact ha
 |store t x y=>dsimp only at ha⊢;rw[<- h x (by simp[Tu]),<- h y (by simp[Tu])];exact ha
 |call c=>
  have cP:∀x∈c.args.toList,AS.ev ⟨T,H⟩ x=AS.ev ⟨T',H⟩ x:=λx hx=>h x (by simp[Tu,VO];exact .inr (by simpa using hx));dsimp only at ha⊢;split at ha
  ·split at ha
   ·rename_i x y t t' hx ht;rw[hx]at cP;rw[<- cP x (by simp),<- cP y (by simp)];exact ha
   ·exact ha.elim
  ·rename_i x aY;rw[<- h x (by simp[Tu,VO,aY]),<- Bm _ cP];exact ha
  ·rename_i x name aY;rw[<- h x (by simp[Tu,VO,aY]),<- Bm _ cP];exact ha
  ·exact ha.elim
 |makeSlice t x y=>dsimp only at ha⊢;rw[<- h x (by simp[Tu]),<- h y (by simp[Tu])];exact ha
 |buildSlice t len parts=>
  have e:j8 ⟨T',H⟩ parts.toList=j8 ⟨T,H⟩ parts.toList:=by
   have hp:∀p∈parts.toList,AS.ev ⟨T,H⟩ p.2=AS.ev ⟨T',H⟩ p.2:=λp hp=>h p.2 (by simp[Tu];exact⟨p.1,by simpa using hp⟩);clear ha;generalize parts.toList=l at hp;induction l with
   |nil=>rfl
   |cons p l ih=>simp only[j8,hp p TC,ih λq hq=>hp q (Ta _ hq)]
  dsimp only at ha⊢;rw[e];exact ha
 |_=>exact ha.elim
end
def nu (acc:List (Nat×List Nat))(j:Nat):List Nat:=((acc.find? (·.1==j)).map (·.2)).getD []
def gG (ops:Array Tx):List Nat->List (Nat×List Nat)->List (Nat×List Nat)
 |[],acc=>acc
 |i::l,acc=>match ops[i]?with
  |some o=>gG ops l ((i,(cK o++(cK o).flatMap (nu acc)).eraseDups)::acc)
  |none=>gG ops l acc
def tJ:List Nat->List (List Nat)
 |[]=>[[]]
 |x::l=>tJ l++(tJ l).map (x::·)
def ws (cl:List (Nat×List Nat))(es:List Nat)(i:Nat)(D:List Nat):Bool:=
 !D.contains i&&es.all λe=>(!(nu cl i).contains e||D.contains e)&&(!D.contains e||(!(nu cl e).contains i&&es.all λe'=> !(nu cl e).contains e'||D.contains e'))
def tp (es:List Nat)(i:Nat)(D:List Nat):List Nat:=es.filter λe=>e==i||D.contains e
structure qO where
 i:Nat
 eff:Bool
 aft:List Nat
 Mf:List (List Nat×List Nat)
 deriving DecidableEq
def entry (cl:List (Nat×List Nat))(es X:List Nat)(i:Nat):qO:=
 let cur:=es.filter λe=>X.contains e
 ⟨i,es.contains i,tp es i cur,((tJ es).filter λD=>ws cl es i D&&D !=cur).map λD=>(D,tp es i D)⟩
def qz (cl:List (Nat×List Nat))(es:List Nat):List Nat->List Nat->List qO
 |_,[]=>[]
 |X,i::B=>entry cl es X i::qz cl es (i::X) B
def abu (ops:Array Tx)(es ord:List Nat):List qO:=qz (gG ops ord []) es [] ord
def ky (ops:Array Tx):List Nat->List Nat->Bool
 |_,[]=>true
 |X,i::B=> !X.contains i&&(match ops[i]?with
  |some o=>(cK o).all X.contains
  |none=>false)&&ky ops (i::X) B
def qY (nt:Nat)(ops:Array Tx)(es ord:List Nat):Bool:=
 let cl:=gG ops ord [];decide (ord.length=ops.size)&&ky ops [] ord&&ord.all λi=>match ops[i]?with
  |some o=>o.dst.all (·<nt)&& !mo o.op&&o.guard.isNone&&
   (ord.all λj=>i==j||match o.dst,b9 ops j with
    |some d,some d'=>d !=d'
    |_,_=>true)&&
   (o.op.operands.toList.all λx=>match x with
    |.tmp t=>ord.all λj=>b9 ops j !=some t||(cK o).contains j||(nu cl j).contains i
    |_=>true)
  |none=>false
theorem P9{acc:List (Nat×List Nat)}{j k:Nat}(h:k∈nu acc j):∃l,(j,l)∈acc/\k∈l:=by
 unfold nu at h;cases e:acc.find? (·.1==j)with
 |none=>rw[e]at h;simp at h
 |some x=>
  rw[e]at h;obtain⟨j',l⟩:=x;have h1:=List.mem_of_find?_eq_some e;have h2:=List.find?_some e;simp only[beq_iff_eq]at h2;subst h2;exact⟨l,h1,by simpa using h⟩
theorem Iq{ops:Array Tx}:∀(ord:List Nat)(acc:List (Nat×List Nat)),(∀i l,(i,l)∈acc->∀j∈l,Reach ops i j)->∀i l,(i,l)∈gG ops ord acc->∀j∈l,Reach ops i j
 |[],acc,h=>h
 |x::ord,acc,h=>by
  unfold gG;split
  ·rename_i o ho;refine Iq ord _ λi l hm j hj=> ?_;rcases SL.1 hm with e|hm
   ·cases e;rw[Y8,SV]at hj;rcases hj with hj|hj
    ·exact .IM ho hj
    ·obtain⟨k,hk,hj⟩:=S6.1 hj;obtain⟨l',h1,h2⟩:=P9 hj;exact .more ho hk (h _ _ h1 _ h2)
   ·exact h i l hm j hj
  ·exact Iq ord acc h
theorem yR{ops:Array Tx}{ord:List Nat}{i j:Nat}(h:j∈nu (gG ops ord []) i):Reach ops i j:=by
 obtain⟨l,h1,h2⟩:=P9 h;exact Iq ord [] (by simp) i l h1 j h2
theorem Et(p:Nat->Bool):∀l:List Nat,l.filter p∈tJ l
 |[]=>by simp[tJ]
 |x::l=>by
  unfold tJ;rw[SV];by_cases h:p x=true
  ·rw[Yu h];exact .inr (Tn.2 ⟨_,Et p l,rfl⟩)
  ·rw[Yv h];exact .inl (Et p l)
structure yy (nt:Nat)(ops:Array Tx)(ord:List Nat):Prop where
 full:∀i,i<ops.size->i∈ord
 lt:∀i∈ord,i<ops.size
 top:ky ops [] ord=true
 dst:∀(i:Nat) o d,ops[i]?=some o->o.dst=some d->d<nt
 sG:∀(i:Nat) o,ops[i]?=some o->mo o.op=false
 za:∀(i:Nat) o,ops[i]?=some o->o.guard=none
 Au:∀(i j d:Nat),b9 ops i=some d->b9 ops j=some d->i=j
 Gz:∀(i:Nat) o t j,ops[i]?=some o-> .tmp t∈o.op.operands->b9 ops j=some t->j∈cK o\/Reach ops j i
theorem Dd{ops:Array Tx}:∀{ord X:List Nat},ky ops X ord=true->ord.Nodup/\(∀i∈ord,i∉X)/\∀i∈ord,i<ops.size
 |[],_,_=>⟨WN,by simp,by simp⟩
 |i::B,X,h=>by
  simp only[ky,Ti,TV,Up,decide_eq_false_iff_not]at h;obtain⟨⟨h1,h2⟩,h3⟩:=h;obtain⟨q1,q2,q3⟩:=Dd h3;refine⟨VS.2 ⟨λhm=>q2 i hm (TC ..),q1⟩,λj hj=> ?_,λj hj=> ?_⟩
  ·rcases SL.1 hj with rfl|hj
   ·exact h1
   ·exactλhx=>q2 j hj (Ta _ hx)
  ·rcases SL.1 hj with rfl|hj
   ·apply Tt;intro hn;rw[YA (by omega)]at h2;cases h2
   ·exact q3 j hj
theorem qY.out{nt:Nat}{ops:Array Tx}{es ord:List Nat}(h:qY nt ops es ord=true):yy nt ops ord:=by
 unfold qY at h;simp only[Ti,decide_eq_true_eq]at h;obtain⟨⟨hlen,nN⟩,h⟩:=h;obtain⟨v9,_,hlt⟩:=Dd nN;have zq:∀i,i<ops.size->i∈ord:=λi hi=>by
  apply Tt;intro hn;have lR:(i::ord)⊆S0 ops.size:=λj hj=>by
   rcases SL.1 hj with rfl|hj
   ·simpa using hi
   ·simpa using hlt j hj
  have:=(VS.2 ⟨hn,v9⟩).length_le_of_subset lR;simp at this;omega
 have key:∀(i:Nat) o,ops[i]?=some o->o.dst.all (·<nt)=true/\mo o.op=false/\o.guard.isNone=true/\(∀j∈ord,(i==j||match o.dst,b9 ops j with
    |some d,some d'=>d !=d'
    |_,_=>true)=true)/\(∀x∈o.op.operands.toList,(match x with
    |.tmp t=>ord.all λj=>b9 ops j !=some t||(cK o).contains j||(nu (gG ops ord []) j).contains i
    |_=>true)=true):=λi o ho=>by
  have hi:i<ops.size:=(SS.1 ho).1;have:=Tv.1 h i (zq i hi);rw[ho]at this;simp only[Ti,Tv,TV]at this;exact⟨this.1.1.1.1,this.1.1.1.2,this.1.1.2,this.1.2,this.2⟩
 have QR:∀j d,b9 ops j=some d->j<ops.size:=λj d e=>by
  apply Tt;intro hn;rw[b9,YA (by omega)]at e;cases e
 refine⟨zq,hlt,nN,λi o d ho hd=> ?_,λi o ho=>(key i o ho).2.1,λi o ho=>by simpa using(key i o ho).2.2.1,λi j d hi hj=> ?_,λi o t j ho ht hj=> ?_⟩
 ·have:=(key i o ho).1;rw[hd]at this;simpa using this
 ·apply Tt;intro aC;obtain⟨o,ho,nC⟩:=S_.1 hi;have:=(key i o ho).2.2.2.1 j (zq j (QR j d hj));rw[nC,hj]at this;simp[aC]at this
 ·have:=(key i o ho).2.2.2.2 (.tmp t) (by simpa using ht);simp only[Tv]at this;have:=this j (zq j (QR j t hj));rw[hj]at this;simp only[bne_self_eq_false,Zv,X6,Up,decide_eq_true_eq]at this;exact this.imp id yR
section
variable (lv:Bool)(P:SK)(Hf:List Nat->List aa)
def BQ (T:List (Nat×AV))(o:Tx)(av:AV):List (List Nat×List Nat)->Prop
 |[]=>True
 |(D,_)::l=>(AQ lv P ⟨T,Hf D⟩ o λa=>a=av)/\BQ T o av l
def BE (T:List (Nat×AV))(o:Tx)(av:AV):List (List Nat×List Nat)->Prop
 |[]=>True
 |(D,D')::l=>(j4 lv P (Hf D') ⟨T,Hf D⟩ o λa H'=>a=av/\H'=Hf D')/\BE T o av l
structure AH (K:AS->Prop):Type where
 n:Nat
def gf (ops:Array Tx):List qO->AS->(K:AS->Prop)->AH K->Prop
 |[],s,K,_=>K s
 |⟨i,false,_,l⟩::rest,s,K,t=>ap (ops[i]?) λo=>AQ lv P s o λav=>BQ lv P Hf s.T o av l/\gf ops rest (s.put o.dst av) K t
 |⟨i,true,D,l⟩::rest,s,K,t=>ap (ops[i]?) λo=>j4 lv P (Hf D) s o λav H'=>H'=Hf D/\BE lv P Hf s.T o av l/\gf ops rest ((⟨s.T,H'⟩:AS).put o.dst av) K t
end
def TX (ops:Array Tx)(T0:List (Nat×AV))(f:Nat->AV):List Nat->List (Nat×AV)
 |[]=>T0
 |i::X=>match b9 ops i with
  |some d=>(d,f i)::TX ops T0 f X
  |none=>TX ops T0 f X
section
variable {ops:Array Tx}{T0:List (Nat×AV)}{f g:Nat->AV}
theorem AT:∀{X:List Nat},(∀j∈X,f j=g j)->TX ops T0 f X=TX ops T0 g X
 |[],_=>rfl
 |i::X,h=>by
  simp only[TX,AT (X:=X) λj hj=>h j (Ta _ hj),h i (TC ..)]
theorem AU(Sg:∀(i j d:Nat),b9 ops i=some d->b9 ops j=some d->i=j):∀{X:List Nat}{j t:Nat},j∈X->b9 ops j=some t->look (TX ops T0 f X) t=some (f j)
 |i::X,j,t,hj,ht=>by
  by_cases kq:i=j
  ·subst kq;simp[TX,ht,look]
  ·have gH:j∈X:=(SL.1 hj).resolve_left (Ne.symm kq);have ih:=AU Sg (X:=X) gH ht;unfold TX;split
   ·rename_i d hd;have:d≠t:=λe=>kq (Sg i j d hd (by rw[e];exact ht));simp only[look,if_neg this];exact ih
   ·exact ih
theorem wT:∀{X:List Nat}{t:Nat},(∀j∈X,b9 ops j≠some t)->look (TX ops T0 f X) t=look T0 t
 |[],_,_=>rfl
 |i::X,t,h=>by
  have ih:=wT (X:=X) (t:=t) λj hj=>h j (Ta _ hj);unfold TX;split
  ·rename_i d hd;have:d≠t:=λe=>h i (TC ..) (by rw[hd,e]);simp only[look,if_neg this];exact ih
  ·exact ih
theorem wU{H:List aa}{X:List Nat}{i:Nat}{o:Tx}{av:AV}(ho:ops[i]?=some o)(hf:f i=av):(⟨TX ops T0 f X,H⟩:AS).put o.dst av=⟨TX ops T0 f (i::X),H⟩:=by
 have hd:b9 ops i=o.dst:=by simp[b9,ho]
 have e:TX ops T0 f (i::X)=match b9 ops i with
  |some d=>(d,f i)::TX ops T0 f X
  |none=>TX ops T0 f X:=rfl
 rw[e,hd];cases o.dst with
 |none=>rfl
 |some d=>simp[AS.put,hf]
def kT (ops:Array Tx)(X:List Nat):Prop:=∀i∈X,∀o,ops[i]?=some o->∀j∈cK o,j∈X
theorem kT.reach{X:List Nat}(hX:kT ops X){i j:Nat}(hi:i∈X)(h:Reach ops i j):j∈X:=yg hX h λo ho k hk=>hX i hi o ho k hk
theorem kT.cons{X:List Nat}(hX:kT ops X){i:Nat}{o:Tx}(ho:ops[i]?=some o)(hd:∀j∈cK o,j∈X):kT ops (i::X):=λk hk o' aO j hj=>by
 rcases SL.1 hk with rfl|hk
 ·rw[ho]at aO;cases aO;exact Ta _ (hd j hj)
 ·exact Ta _ (hX k hk o' aO j hj)
theorem adD{nt:Nat}{ord:List Nat}(am:yy nt ops ord){X X':List Nat}{i:Nat}{o:Tx}(ho:ops[i]?=some o)(hX:kT ops X)(lK:kT ops X')(hi:i∉X)(cG:i∉X')(hd:∀j∈cK o,j∈X)(cq:∀j∈cK o,j∈X'){t:Nat}(ht: .tmp t∈o.op.operands):
  look (TX ops T0 f X) t=look (TX ops T0 f X') t:=by
 by_cases hex:∃j,b9 ops j=some t
 ·obtain⟨j,hj⟩:=hex;rcases am.Gz i o t j ho ht hj with h|h
  ·rw[AU am.Au (hd j h) hj,AU am.Au (cq j h) hj]
  ·rw[wT λj' gH e=>hi (hX.reach (am.Au j j' t hj e▸gH) h),wT λj' gH e=>cG (lK.reach (am.Au j j' t hj e▸gH) h)]
 ·rw[wT λj _ e=>hex ⟨j,e⟩,wT λj _ e=>hex ⟨j,e⟩]
end
section
variable {lv:Bool}{P:SK}{r:Option Nat}{ops:Array Tx}{Hf:List Nat->List aa}{T0:List (Nat×AV)}{es ord:List Nat}{nt:Nat}
def done (es X:List Nat):List Nat:=es.filter λe=>X.contains e
theorem Ej{X:List Nat}{i:Nat}:tp es i (done es X)=done es (i::X):=by
 unfold tp done;apply Vj;intro e he;by_cases h:e=i
 ·subst h;simp
 ·simp[Uj,he,h]
theorem IF{X:List Nat}{i:Nat}(hi:i∉es):done es (i::X)=done es X:=by
 unfold done;apply Vj;intro e he;have:e≠i:=λh=>hi (h▸he);simp[this]
theorem IG{X:List Nat}(hX:kT ops X){i:Nat}{o:Tx}(ho:ops[i]?=some o)(hi:i∉X)(hd:∀j∈cK o,j∈X):ws (gG ops ord []) es i (done es X)=true:=by
 have cW:∀e,e∈es->(e∈done es X<->e∈X):=λe he=>by simp[done,Uj,he]
 have hX2:=hX.cons ho hd;unfold ws;simp only[Ti,TV,Up,decide_eq_false_iff_not,Tv,X6,decide_eq_true_eq];refine⟨λh=>hi (by simpa[done]using(Uj.1 h).2),λe he=>⟨?_,?_⟩⟩
 ·by_cases h:e∈nu (gG ops ord []) i
  ·right;rw[cW e he];exact yg hX (yR h) λo' aO k hk=>by rw[ho]at aO;cases aO;exact hd k hk
  ·exact .inl h
 ·by_cases h:e∈X
  ·right;refine⟨λhm=>hi (hX.reach h (yR hm)),λe' kj=> ?_⟩;by_cases hm:e'∈nu (gG ops ord []) e
   ·right;rw[cW e' kj];exact hX.reach h (yR hm)
   ·exact .inl hm
  ·left;rw[cW e he];exact h
def OB (lv:Bool)(P:SK)(r:Option Nat)(ops:Array Tx)(Hf:List Nat->List aa)(T0:List (Nat×AV))(es:List Nat)(f:Nat->AV)(i:Nat)(o:Tx)(X:List Nat):Prop:=
 if i∈es then j4 lv P (Hf (done es (i::X))) ⟨TX ops T0 f X,Hf (done es X)⟩ o (λa H'=>a=f i/\H'=Hf (done es (i::X)))
 else∃T,(∀t a,look T t=some a->look (TX ops T0 f X) t=some a)/\dh lv P r o ⟨T,Hf (done es X)⟩ (f i)
theorem BQ.mem{T:List (Nat×AV)}{o:Tx}{av:AV}:∀{l:List (List Nat×List Nat)},BQ lv P Hf T o av l->∀p∈l,AQ lv P ⟨T,Hf p.1⟩ o λa=>a=av
 |(D,D')::l,h,p,hp=>by
  rcases SL.1 hp with rfl|hp
  ·exact h.1
  ·exact BQ.mem h.2 p hp
theorem BE.mem{T:List (Nat×AV)}{o:Tx}{av:AV}:∀{l:List (List Nat×List Nat)},BE lv P Hf T o av l->∀p∈l,j4 lv P (Hf p.2) ⟨T,Hf p.1⟩ o λa H'=>a=av/\H'=Hf p.2
 |(D,D')::l,h,p,hp=>by
  rcases SL.1 hp with rfl|hp
  ·exact h.1
  ·exact BE.mem h.2 p hp
def canon (T:List (Nat×AV)):List Tl->List (Nat×AV)
 |[]=>[]
 |.tmp t::l=>match look T t with
  |some a=>(t,a)::canon T l
  |none=>canon T l
 |_::l=>canon T l
theorem Io{T:List (Nat×AV)}:∀{l:List Tl}{t:Nat}{a:AV},look (canon T l) t=some a->look T t=some a
 |[],_,_,h=>by cases h
 |x::l,t,a,h=>by
  have ih:=@Io T l t a;cases x with
  |tmp t'=>
   simp only[canon]at h;split at h
   ·rename_i b hb;simp only[look]at h;split at h
    ·rename_i e;subst e;cases h;exact hb
    ·exact ih h
   ·exact ih h
  |_=>exact ih h
theorem OL{T:List (Nat×AV)}:∀{l:List Tl}{t:Nat},.tmp t∈l->look (canon T l) t=look T t
 |x::l,t,h=>by
  by_cases hx:x=.tmp t
  ·subst hx;simp only[canon];split
   ·rename_i b hb;simp[look,hb]
   ·rename_i hb;rw[hb];cases e:look (canon T l) t with
    |none=>rfl
    |some a=>have:=Io e;rw[hb]at this;cases this
  ·have hm: .tmp t∈l:=(SL.1 h).resolve_left (Ne.symm hx);have ih:=OL (T:=T) hm;cases x with
   |tmp t'=>
    have aC:t'≠t:=λe=>hx (by rw[e]);simp only[canon];split
    ·simp only[look,if_neg aC];exact ih
    ·exact ih
   |_=>exact ih
theorem OK{T:List (Nat×AV)}:∀{l:List Tl}{t:Nat}{a:AV},look (canon T l) t=some a-> .tmp t∈l
 |[],_,_,h=>by cases h
 |x::l,t,a,h=>by
  have ih:=@OK T l t a;cases x with
  |tmp t'=>
   simp only[canon]at h;split at h
   ·simp only[look]at h;split at h
    ·rename_i e;subst e;exact TC ..
    ·exact Ta _ (ih h)
   ·exact Ta _ (ih h)
  |_=>exact Ta _ (ih h)
theorem OJ{T:List (Nat×AV)}{H:List aa}{l:List Tl}{x:Tl}(h:x∈l):AS.ev ⟨T,H⟩ x=AS.ev ⟨canon T l,H⟩ x:=by
 cases x with
 |tmp t=>exact(OL h).symm
 |_=>rfl
theorem Bb(am:yy nt ops ord){K:AS->Prop}{tk:AH K}:∀(B X:List Nat)(acc:Nat->AV),ky ops X B=true->kT ops X->gf lv P Hf ops (qz (gG ops ord []) es X B) ⟨TX ops T0 acc X,Hf (done es X)⟩ K tk->
  ∃f,(∀j∈X,f j=acc j)/\(∀i∈B,∀o,ops[i]?=some o->∀X',kT ops X'->i∉X'->(∀j∈cK o,j∈X')->OB lv P r ops Hf T0 es f i o X')/\K ⟨TX ops T0 f (B.reverse++X),Hf (done es (B.reverse++X))⟩
 |[],X,acc,_,_,h=>⟨acc,λ_ _=>rfl,by simp,by simpa[qz,gf]using h⟩
 |i::B,X,acc,nN,hX,h=>by
  have ata:=nN;simp only[ky,Ti,TV,Up,decide_eq_false_iff_not]at nN;obtain⟨⟨hi,h2⟩,h3⟩:=nN;cases ho:ops[i]?with
  |none=>rw[ho]at h2;cases h2
  |some o=>
  rw[ho]at h2;have hd:∀j∈cK o,j∈X:=λj hj=>by have:=Tv.1 h2 j hj;simpa using this
  have lK:=hX.cons ho hd;have asU:ws (gG ops ord []) es i (done es X)=true:=IG hX ho hi hd;have Mf:∀D,D∈tJ es->ws (gG ops ord []) es i D=true->D≠done es X->(D,tp es i D)∈((tJ es).filter λD=>ws (gG ops ord []) es i D&&D !=done es X).map λD=>(D,tp es i D):=λD h1 h2 h3=>Tn.2 ⟨D,Uj.2 ⟨h1,by simp[h2,h3]⟩,rfl⟩;have NV:∀av:AV,TX ops T0 acc X=TX ops T0 (λj=>if j=i then av else acc j) X:=λav=>AT λj hj=>by
   have:j≠i:=λe=>hi (e▸hj);simp[this]
  have seen:∀(f:Nat->AV) X',(∀j∈X,f j=acc j)->kT ops X'->i∉X'->(∀j∈cK o,j∈X')->∀(H:List aa),∀x∈o.op.operands,AS.ev ⟨TX ops T0 acc X,H⟩ x=AS.ev ⟨TX ops T0 f X',H⟩ x:=λf X' hf hc hn cq H x hx=>by
   cases x with
   |tmp t=>
    show look _ t=look _ t;rw[<- AT (f:=f) (g:=acc) hf];exact adD am ho hX hc hi hn hd cq hx
   |_=>rfl
  unfold qz at h;by_cases cS:i∈es
  ·have JY:entry (gG ops ord []) es X i=⟨i,true,tp es i (done es X),((tJ es).filter λD=>ws (gG ops ord []) es i D&&D !=done es X).map λD=>(D,tp es i D)⟩:=by
    unfold entry done;simp[cS]
   rw[JY,gf,ho,ap]at h;obtain⟨av,H',g1,e1,g2,g3⟩:=h.ex;subst e1;rw[Ej]at g1 g3;rw[NV av,wU ho (by simp)]at g3;obtain⟨f,q1,q2,q3⟩:=Bb am B (i::X) _ h3 lK g3;have J3:f i=av:=(by have:=q1 i (TC ..);simpa using this);have B0:∀j∈X,f j=acc j:=λj hj=>by
    have:=q1 j (Ta _ hj);have aC:j≠i:=λe=>hi (e▸hj);simpa[aC]using this
   refine⟨f,B0,λk hk o' aO X' hc hn cq=> ?_,by simpa using q3⟩;rcases SL.1 hk with rfl|hk
   ·rw[ho]at aO;cases aO;unfold OB;rw[if_pos cS,J3];refine j4.congr (T:=TX ops T0 acc X) (seen f X' B0 hc hn cq _) ?_;by_cases hD:done es X'=done es X
    ·rw[<- Ej,hD,Ej];exact g1
    ·have:=g2.mem _ (Mf _ (Et _ es) (IG hc ho hn cq) hD);rw[<- Ej];exact this
   ·exact q2 k hk o' aO X' hc hn cq
  ·have JY:entry (gG ops ord []) es X i=⟨i,false,tp es i (done es X),((tJ es).filter λD=>ws (gG ops ord []) es i D&&D !=done es X).map λD=>(D,tp es i D)⟩:=by
    unfold entry done;simp[cS]
   rw[JY,gf,ho,ap]at h;have h':=AQ.congr (T':=canon (TX ops T0 acc X) o.op.operands.toList) (λx hx=>OJ (by simpa using hx)) h;obtain⟨av,g1,g2,g3⟩:=h'.sound (r:=r);rw[NV av,wU ho (by simp),<- IF (X:=X) cS]at g3;obtain⟨f,q1,q2,q3⟩:=Bb am B (i::X) _ h3 lK g3;have J3:f i=av:=(by have:=q1 i (TC ..);simpa using this);have B0:∀j∈X,f j=acc j:=λj hj=>by
    have:=q1 j (Ta _ hj);have aC:j≠i:=λe=>hi (e▸hj);simpa[aC]using this
   refine⟨f,B0,λk hk o' aO X' hc hn cq=> ?_,by simpa using q3⟩;rcases SL.1 hk with rfl|hk
   ·rw[ho]at aO;cases aO;unfold OB;rw[if_neg cS,J3];refine⟨canon (TX ops T0 acc X) o.op.operands.toList,λt a e=> ?_,?_⟩
    ·have h1:=seen f X' B0 hc hn cq [] (.tmp t) (by simpa using OK e);have h2:look (TX ops T0 acc X) t=look (TX ops T0 f X') t:=h1;rw[<- h2];exact Io e
    ·by_cases hD:done es X'=done es X
     ·rw[hD];exact g1
     ·have h1:=g2.mem _ (Mf _ (Et _ es) (IG hc ho hn cq) hD);have h2:=AQ.congr (T':=canon (TX ops T0 acc X) o.op.operands.toList) (λx hx=>OJ (by simpa using hx)) h1;obtain⟨mI,h3,rfl⟩:=h2.sound (r:=r);exact h3
   ·exact q2 k hk o' aO X' hc hn cq
theorem DR{f:Nat->AV}(am:yy nt ops ord){X X':List Nat}(h:∀i,i∈X<->i∈X')(t:Nat):look (TX ops T0 f X) t=look (TX ops T0 f X') t:=by
 by_cases hex:∃j∈X,b9 ops j=some t
 ·obtain⟨j,hj,hd⟩:=hex;rw[AU am.Au hj hd,AU am.Au ((h j).1 hj) hd]
 ·rw[wT λj hj e=>hex ⟨j,hj,e⟩,wT λj hj e=>hex ⟨j,(h j).2 hj,e⟩]
theorem Ek{X X':List Nat}(h:∀i,i∈X<->i∈X'):done es X=done es X':=by
 unfold done;apply Vj;intro e _;have:=h e;by_cases h1:e∈X
 ·have h2:=this.1 h1;simp[h1,h2]
 ·have h2:e∉X':=λx=>h1 (this.2 x);simp[h1,h2]
theorem agw{f:Nat->AV}(am:yy nt ops ord)(au:∀i∈ord,∀o,ops[i]?=some o->∀X',kT ops X'->i∉X'->(∀j∈cK o,j∈X')->OB lv P r ops Hf T0 es f i o X'){X l:List Nat}(hs:lF ops X l):
  (∀i∈X,i<ops.size)->kT ops X->∀(E:Env)(V:View)(a:Act)(Q:Ex->Act->View->Prop),At E V ⟨TX ops T0 f X,Hf (done es X)⟩ a nt->
   (∀E' V' a' X',Kept E E' V V' a a'->At E' V' ⟨TX ops T0 f X',Hf (done es X')⟩ a' nt->(∀i,i∈X'<->i<ops.size)->Q .normal a' V')->da lv P r ops Q l a V:=by
 induction hs with
 |nil X h=>
  intro hX hc E V a Q ah hQ;exact hQ E V a X (Kept.refl E V a) ah λi=>⟨hX i,h i⟩
 |cons o ho hn hd kI ih=>
  rename_i X i l;intro hX hc E V a Q ah hQ;have hi:i<ops.size:=(SS.1 ho).1;simp only[da,ho];have lK:∀k∈i::X,k<ops.size:=λk hk=>(SL.1 hk).elim (λe=>by rw[e];exact hi) (hX k);have ba:=hc.cons ho hd;have hw:Tc o (yielded ops a.tmps)=true:=by unfold Tc;rw[am.za i o ho]
  rw[if_pos hw];refine .inl ?_;have cR:∀d,o.dst=some d->d<a.tmps.size:=λd e=>by rw[ah.size];exact am.dst i o d ho e
  have lO:=au i (am.full i hi) o ho X hc hn hd;unfold OB at lO;by_cases cS:i∈es
  ·rw[if_pos cS]at lO;have aT:=lO.step (r:=r) (bad:=λ_ _=>False);refine aT E V a _ Q ah.bm ah.tok cR (.inr (am.sG i o ho)) (λE' V' a' s' hk cE ht e=> ?_) λ_ _ _ _ _ _ _ _ _ h=>h.elim;subst e;rw[wU ho rfl]at ht cE;exact ih lK ba E' V' a' Q ⟨cE,ht,hk.size.trans ah.size⟩ λbE aP bT jO aE cQ dX=>hQ bE aP bT jO (hk.trans aE) cQ dX
  ·rw[if_neg cS]at lO;obtain⟨T,hT,hq⟩:=lO;refine hq E V a _ Q ah.bm (λt av e=>ah.tok t av (hT t av e)) (.inr (am.sG i o ho)) λE' V' v hle bY eQ cE hv=> ?_;have ht:cj E' ((⟨TX ops T0 f X,Hf (done es X)⟩:AS).put o.dst (f i)).T (a.put o.dst v).tmps:=cj.gZ (s:=⟨TX ops T0 f X,Hf (done es X)⟩) (ah.tok.mono hle) cR hv;rw[wU ho rfl]at ht;refine ih lK ba E' V' (a.put o.dst v) Q ⟨by rw[IF cS];exact cE,ht,(dP _ _ _).trans ah.size⟩ λbE aP bT jO hk cQ dX=>
    hQ bE aP bT jO ⟨hle.trans hk.le,hk.size.trans (dP _ _ _),hk.defers.trans (put_defers _ _ _),hk.role.trans bY,hk.deaf.trans eQ⟩ cQ dX
theorem ae2{s:AS}{id:Nat}{Φ:ao->AS->Prop}(es ord:List Nat)(pl:List qO)(Hf:List Nat->List aa)(hm:P.follows .mixedOrders=true)(am:qY nt ops es ord=true)(dp:abu ops es ord=pl)(h0:s.H=Hf [])
  (h:gf lv P Hf ops pl s (Φ .normal) ⟨0⟩):aX lv P r nt (.region id ops true) s Φ:=by
 intro E V a Q ah hQ;have am:=qY.out am;obtain⟨v9,_,hlt⟩:=Dd am.top;have dM:s=⟨TX ops s.T (λ_=> .val undef) [],Hf (done es [])⟩:=by
  have:done es []=[]:=by simp[done]
  rw[this,<- h0];rfl
 subst dp;have h':gf lv P Hf ops (qz (gG ops ord []) es [] ord) ⟨TX ops s.T (λ_=> .val undef) [],Hf (done es [])⟩ (Φ .normal) ⟨0⟩:=by rw[<- dM];exact h
 obtain⟨f,_,q2,q3⟩:=Bb (r:=r) am ord [] _ am.top (λi hi=>by cases hi) h';have zq:∀i,i∈ord<->i<ops.size:=λi=>⟨hlt i,am.full i⟩;refine Hp λt=> ?_;rw[show Vf (P.follows .mixedOrders) ops t=Us .any ops ops.size t (TE ops.size false) [] by unfold Vf;rw[hm];simp[XB]];have binds:∀(A B:List Nat)(X:List Nat),ky ops X (A++B)=true->True:=λ_ _ _ _=>trivial;have ready:∀(ord X:List Nat),ky ops X ord=true->∀A i B,ord=A++i::B->∃o,ops[i]?=some o/\∀j∈cK o,j∈A\/j∈X:=by
  intro ord;induction ord with
  |nil=>intro X _ A i B e;cases A<;>cases e
  |cons x l ih=>
   intro X nN A i B e;simp only[ky,Ti,TV,Up,decide_eq_false_iff_not]at nN;obtain⟨⟨h1,h2⟩,h3⟩:=nN;cases A with
   |nil=>
    have e1:x=i:=(by have:=congrArg List.head? e;simpa using this);rw[e1]at h2;cases ho:ops[i]?with
    |none=>rw[ho]at h2;cases h2
    |some o=>
     rw[ho]at h2;exact⟨o,rfl,λj hj=> .inr (by have:=Tv.1 h2 j hj;simpa using this)⟩
   |cons y A=>
    cases e;obtain⟨o,ho,hb⟩:=ih (x::X) h3 A i B rfl;refine⟨o,ho,λj hj=> ?_⟩;rcases hb j hj with h|h
    ·exact .inl (Ta _ h)
    ·rcases SL.1 h with rfl|h
     ·exact .inl (TC ..)
     ·exact .inr h
 have hs:=LS (ops:=ops) (λi o ho j hj=>by
   obtain⟨A,B,e⟩:=List.append_of_mem (am.full i (SS.1 ho).1);obtain⟨o',aO,hb⟩:=ready ord [] am.top A i B e;rw[ho]at aO;cases aO;rcases hb j hj with h|h
   ·exact hlt j (by rw[e];exact Th _ h)
   ·cases h)
  (λX ⟨i,hi,hn⟩=>by
   obtain⟨A,i',B,e,h1,h2⟩:=I8 (X:=X) ⟨i,am.full i hi,hn⟩;obtain⟨o',aO,hb⟩:=ready ord [] am.top A i' B e;refine⟨i',o',aO,h1,λj hj=> ?_⟩;rcases hb j hj with h|h
   ·exact h2 j h
   ·cases h)
  ops.size t (TE ops.size false) [] ⟨by simp,λi hi=>by simp[hi]⟩ (UB Xa (by simp))
 have sP:At E V ⟨TX ops s.T f [],Hf (done es [])⟩ a nt:=by
  have e:(⟨TX ops s.T f [],Hf (done es [])⟩:AS)=s:=dM.symm;rw[e];exact ah
 refine agw (Hf:=Hf) (es:=es) am q2 hs (by simp) (λi hi=>by cases hi) E V a Q sP λE' V' a' X' hk aQ dX=> ?_;have fI:∀i,i∈X'<->i∈ord.reverse++[]:=λi=>by simp[dX,zq]
 refine hQ .normal .normal E' V' a' _ hk ⟨?_,λt x e=> ?_,aQ.size⟩ trivial q3
 ·rw[<- Ek fI];exact aQ.bm
 ·rw[<- DR am fI]at e;exact aQ.tok t x e
end
open Go.Proofs
theorem F.NL:lE SC 77=(SM Go.Gg.yC.map):=by kernel_rfl
theorem F.NS:eU SC 4=(SM (Xd Bool.false)):=by kernel_rfl
theorem F.NT:eU SC 88=(SM (TD #[(Xd Bool.false),(Zr Option.none),(SG S7 (0)),(SG S7 (0)),(SG S7 (0)),(SG S7 (0)),(SG S7 (0)),(SG S7 (0)),(SG S7 (0)),(SG S7 (0)),(SG S7 (0)),(SG S7 (0)),(SG S7 (0)),(SG S7 (0)),(SG S7 (0)),(SG S7 (0)),(SG S7 (0)),(SG SF (0)),(SG SF (0)),(SG SF (0)),(SG SF (0)),(SG SF (0)),(SG SF (0)),(SG SF (0)),(SG SF (0)),(SG SF (0)),(SG SF (0)),(SG SF (0))])):=by kernel_rfl
theorem F.Lu:mq SC 116=(SM Bool.false):=by kernel_rfl
theorem F.CB:mq SC 126=(SM Bool.true):=by kernel_rfl
theorem F.Lv:mq SC 136=(SM Bool.false):=by kernel_rfl
theorem F.aln:mq SC 156=(SM Bool.false):=by kernel_rfl
theorem F.Sy:mq SC 97=(SM Bool.false):=by kernel_rfl
theorem F.f31:SC.funcs[31]?=some Tryz.f31:=by kernel_rfl
theorem F.f71:SC.funcs[71]?=some Tryz.f71:=by kernel_rfl
theorem F.f77:SC.funcs[77]?=some XQ:=by kernel_rfl
theorem F.f91:SC.funcs[91]?=some Tryz.f91:=by kernel_rfl
theorem F.f95:SC.funcs[95]?=some Tryz.f95:=by kernel_rfl
theorem F.f97:SC.funcs[97]?=some att:=by kernel_rfl
theorem F.mixed:SC.follows .mixedOrders=true:=by kernel_rfl
inductive dJ (lv:Bool)(P:SK)(r:Option Nat)(nt:Nat):T7->(ao->AS->Prop)->T7->(ao->AS->Prop)->Prop
 |base {c:T7} {Φ:ao->AS->Prop}:dJ lv P r nt c Φ c Φ
 |seq {x y h:T7} {Φ Ψ:ao->AS->Prop} (i:dJ lv P r nt x (ao.then (λs=>aX lv P r nt y s Φ) Φ) h Ψ):dJ lv P r nt (.seq x y) Φ h Ψ
 |block {id:Nat} {x h:T7} {Φ Ψ:ao->AS->Prop} (i:dJ lv P r nt x (ao.inBlock id Φ) h Ψ):dJ lv P r nt (.block id x) Φ h Ψ
section
variable {lv:Bool}{P:SK}{r:Option Nat}{s:AS}{nt id:Nat}{ops:Array Tx}{c h:T7}{Φ Ψ:ao->AS->Prop}
theorem bH{f:TN}{H:List aa}{args:List AV}{k kp:AV->List aa->Prop}{rs:List UM}(fn:YD)
  (h:bQ H->(∀a∈args,Lt H.length a)->aX lv P none nt c ⟨br 0 args,H⟩ (tO P rs H.length k kp)) (hf:P.funcs[f]?=some fn:=by kernel_rfl) (hb:fn.body=some c:=by rfl) (hr:fn.results=rs.toArray:=by rfl) (hn:fn.ntmps=nt:=by rfl) (cP:args.length<=nt:=by simp):bc lv P f H args k kp:=aiz hf hb hr hn cP h
theorem dJ.go(i:dJ lv P r nt c Φ h Ψ):∀{s:AS},aX lv P r nt h s Ψ->aX lv P r nt c s Φ:=by
 induction i with
 |base=>exactλh=>h
 |seq _ ih=>exactλk=>gQ (ih k)
 |block _ ih=>exactλk=>N_ (ih k)
theorem ak(h:h_ lv P ops ops.toList s (Ψ .normal) (λpv s=>Ψ (.panic pv) s))(i:dJ lv P r nt c Φ (.region id ops false) Ψ:=by repeat first|exact .base|apply dJ.seq|apply dJ.block)(hd:jT nt ops=true:=by kernel_rfl):aX lv P r nt c s Φ:=i.go (Of hd h)
theorem asu{o:Tl}{x y:T7}(h:ap (s.ev o) λa=>a.asBool λb=>(b=true->aX lv P r nt x s Ψ)/\(b=false->aX lv P r nt y s Ψ))(i:dJ lv P r nt c Φ (.cond o x y) Ψ:=by repeat first|exact .base|apply dJ.seq|apply dJ.block):aX lv P r nt c s Φ:=i.go (Oa h)
theorem afa(h:Ψ .normal s)(i:dJ lv P r nt c Φ .skip Ψ:=by repeat first|exact .base|apply dJ.seq|apply dJ.block):aX lv P r nt c s Φ:=i.go (Oi h)
theorem oU(h:Ψ .ret s)(i:dJ lv P r nt c Φ .ret Ψ:=by repeat first|exact .base|apply dJ.seq|apply dJ.block):aX lv P r nt c s Φ:=i.go (Og h)
theorem asw(h:Ψ (.exit id) s)(i:dJ lv P r nt c Φ (.exit id) Ψ:=by repeat first|exact .base|apply dJ.seq|apply dJ.block):aX lv P r nt c s Φ:=i.go (Oc h)
theorem cJ{x:T7}(h:aX lv P r nt x s (ao.inBlock id Ψ))(i:dJ lv P r nt c Φ (.block id x) Ψ:=by repeat first|exact .base|apply dJ.seq|apply dJ.block):aX lv P r nt c s Φ:=i.go (N_ h)
theorem ai{p:Prop}(h:p)(i:dJ lv P r nt c Φ (.region id ops false) Ψ:=by repeat first|exact .base|apply dJ.seq|apply dJ.block)(e:h_ lv P ops ops.toList s (Ψ .normal) (λpv s=>Ψ (.panic pv) s)=p:=by conv=>lhs;simp only[seval])(hd:jT nt ops=true:=by kernel_rfl):aX lv P r nt c s Φ:=i.go (Of hd (e.mpr h))
theorem aD{p:Prop}{o:Tl}{x y:T7}(h:p)(i:dJ lv P r nt c Φ (.cond o x y) Ψ:=by repeat first|exact .base|apply dJ.seq|apply dJ.block)(e:(ap (s.ev o) λa=>a.asBool λb=>(b=true->aX lv P r nt x s Ψ)/\(b=false->aX lv P r nt y s Ψ))=p:=by conv=>lhs;simp only[seval]):aX lv P r nt c s Φ:=i.go (Oa (e.mpr h))
theorem aN{p:Prop}(h:p)(i:dJ lv P r nt c Φ .skip Ψ:=by repeat first|exact .base|apply dJ.seq|apply dJ.block)(e:Ψ .normal s=p:=by conv=>lhs;simp only[seval]):aX lv P r nt c s Φ:=i.go (Oi (e.mpr h))
theorem aZ{p:Prop}(h:p)(i:dJ lv P r nt c Φ .ret Ψ:=by repeat first|exact .base|apply dJ.seq|apply dJ.block)(e:Ψ .ret s=p:=by conv=>lhs;simp only[seval]):aX lv P r nt c s Φ:=i.go (Og (e.mpr h))
theorem bU{p:Prop}(h:p)(i:dJ lv P r nt c Φ (.exit id) Ψ:=by repeat first|exact .base|apply dJ.seq|apply dJ.block)(e:Ψ (.exit id) s=p:=by conv=>lhs;simp only[seval]):aX lv P r nt c s Φ:=i.go (Oc (e.mpr h))
theorem eO{Φ Ψ:ao->AS->Prop}{c:T7}(p:Nat)(h:m9 lv P ops (ops.toList.take p) s (λs'=>h_ lv P ops (ops.toList.drop p) s' (Ψ .normal) (λpv s=>Ψ (.panic pv) s)))(i:dJ lv P r nt c Φ (.region id ops true) Ψ:=by repeat first|exact .base|apply dJ.seq|apply dJ.block)(hm:P.follows .mixedOrders=true:=by kernel_rfl)(am:vF nt p ops=true:=by kernel_rfl):aX lv P r nt c s Φ:=i.go (ae1 hm p am h)
theorem qU{Φ Ψ:ao->AS->Prop}{c:T7}(es ord:List Nat)(pl:List qO)(Hf:List Nat->List aa)(h:gf lv P Hf ops pl s (Ψ .normal) ⟨0⟩)(i:dJ lv P r nt c Φ (.region id ops true) Ψ:=by repeat first|exact .base|apply dJ.seq|apply dJ.block)(hm:P.follows .mixedOrders=true:=by kernel_rfl)(am:qY nt ops es ord=true:=by kernel_rfl)(dp:abu ops es ord=pl:=by kernel_rfl)(h0:s.H=Hf []:=by first|rfl|simp only[seval]):aX lv P r nt c s Φ:=i.go (ae2 es ord pl Hf hm am dp h0 h)
theorem tX(n:Nat)(V:Nat->List (Nat×AV))(Hf:Nat->List aa)(ok:Nat->Prop)(hm:ok 0)
  (h:bQ s.H->(∀t a,look s.T t=some a->Lt s.H.length a)->∀m,m<=n->ok m->∀R:AS->Prop,(∀s',(m<n/\ok (m+1)/\tU s.T (V m) (V (m+1)) (Hf (m+1)) s')->R s')->aX lv P r nt c ⟨V m++s.T,Hf m⟩ (ao.then R Φ)) (B5:∀m m',(V m).map (·.1)=(V m').map (·.1):=by exactλ_ _=>rfl) (iL:∀p∈V 0,∃b,look s.T p.1=some b/\Wk b p.2:=by(simp only[seval];simp[bA,Wk.refl])) (BD:Hf 0=s.H:=by rfl) (hl:∀m,m<=n->ok m->(Hf m).length=s.H.length:=by exactλ_ _ _=>rfl):aX lv P r nt (.loop c) s Φ:=gP n V Hf ok B5 iL BD hl hm h
theorem dE{base Vi Vn T:List (Nat×AV)}{H:List aa}(hk:so T (Vi++base) Vn:=by exact qv rfl rfl)(hv:∀p∈Vn,∃b,look T p.1=some b/\Wk b p.2:=by(simp only[seval];simp[bA,Wk.refl])):tU base Vi Vn H ⟨T,H⟩:=apb hk hv
theorem abK{base Vi Vn T:List (Nat×AV)}{H H':List aa}(am:bQ H)(hg:∃G,H++G=H':=by first|exact⟨_,rfl⟩|exact⟨_,SD ..⟩)(hk:so T (Vi++base) Vn:=by exact qv rfl rfl)(hv:∀p∈Vn,∃b,look T p.1=some b/\Wk b p.2:=by(simp only[seval];simp[bA,Wk.refl]))(hlt:∀p∈Vn,Lt H.length p.2:=by simp[eG]):tU base Vi Vn H ⟨T,H'⟩:=by
 obtain⟨G,rfl⟩:=hg;exact abJ hk hv am hlt
theorem cO{H:List aa}{args:List AV}{k kp:AV->List aa->Prop}{g:TN}{first cV:List AV}(hf:bc lv P g H (first++args++cV) k kp)(hg:qH P g=true:=by kernel_rfl):iY lv P (.fn (.func g) first cV) H args k kp:=Ij hg hf
end
theorem aK{lv:Bool}{P:SK}{H:List aa}{args:List AV}{k kp:AV->List aa->Prop}{g:TN}{first cV:List AV}{t:DL k kp}(hf:bc lv P g H (first++args++cV) k kp)(hg:qH P g=true:=by kernel_rfl):AA lv P (.fn (.func g) first cV) H args k kp t:=w7 (Ij hg hf)
theorem F.q0:jL SC 22 22=(SM (3,(1,(SG SF (0)))))/\jL SC 23 23=(SM (61,(3,(TD #[(SG SF (0)),(SG SF (0)),(SG SF (0))]))))/\jL SC 24 24=(SM (48,(4,(TD #[(SG SF (0)),(SG SF (0)),(SG SF (0)),(SG SF (0))]))))/\jL SC 57 57=(SM (22,(1,(Ur Option.none 0 0))))/\nW SC 116=(SM ((Go.Gg.ig.fields [(0,1),(1,1)]),(TD #[(SG SF (0)),(SG SF (0))])))/\nW SC 136=(SM ((Go.Gg.ig.fields []),(TD #[])))/\nW SC 26=(SM ((Go.Gg.ig.fields [(0,1),(1,1),(2,1),(3,1),(4,1),(5,1)]),(TD #[(SG SF (0)),(SG SF (0)),(SG SF (0)),(Ur Option.none 0 0),(Ur Option.none 0 0),(Ur Option.none 0 0)])))/\nW SC 46=(SM ((Go.Gg.ig.fields [(0,1),(1,1)]),(TD #[(SG SF (0)),(SG SF (0))])))/\nW SC 48=(SM ((Go.Gg.ig.fields [(0,2),(2,2)]),(TD #[(SG SF (0)),(SG SF (0)),(SG SF (0)),(SG SF (0))])))/\nW SC 61=(SM ((Go.Gg.ig.fields [(0,1),(1,2)]),(TD #[(SG SF (0)),(SG SF (0)),(SG SF (0))])))/\nW SC 73=(SM ((Go.Gg.ig.fields [(0,1),(1,1),(2,1)]),(TD #[(Ur Option.none 0 0),(SG SF (0)),(SG TA (0))])))/\nW SC 76=(SM ((Go.Gg.ig.fields [(0,6)]),(TD #[(SG SF (0)),(SG SF (0)),(SG SF (0)),(Ur Option.none 0 0),(Ur Option.none 0 0),(Ur Option.none 0 0)])))/\nW SC 86=(SM ((Go.Gg.ig.fields [(0,4),(4,4),(8,3)]),(TD #[(SG SF (0)),(SG SF (0)),(SG SF (0)),(SG SF (0)),(SG SF (0)),(SG SF (0)),(SG SF (0)),(SG SF (0)),(SG SF (0)),(SG SF (0)),(SG SF (0))])))/\nW SC 88=(SM ((Go.Gg.ig.fields [(0,1),(1,1),(2,4),(6,4),(10,4),(14,3),(17,11)]),(TD #[(Xd Bool.false),(Zr Option.none),(SG S7 (0)),(SG S7 (0)),(SG S7 (0)),(SG S7 (0)),(SG S7 (0)),(SG S7 (0)),(SG S7 (0)),(SG S7 (0)),(SG S7 (0)),(SG S7 (0)),(SG S7 (0)),(SG S7 (0)),(SG S7 (0)),(SG S7 (0)),(SG S7 (0)),(SG SF (0)),(SG SF (0)),(SG SF (0)),(SG SF (0)),(SG SF (0)),(SG SF (0)),(SG SF (0)),(SG SF (0)),(SG SF (0)),(SG SF (0)),(SG SF (0))])))/\nW SC 97=(SM ((Go.Gg.ig.fields [(0,1),(1,1)]),(TD #[(SG SF (0)),(SG SF (0))])))/\AB SC 3 71=(SM (SM TA)):=by and_intros<;>kernel_rfl
theorem F.q1:AB SC 71 3=(SM (SM SF))/\eT SC 112 0=(SM 0)/\eT SC 112 1=(SM 1)/\eT SC 112 2=(SM 2)/\eT SC 116 0=(SM 0)/\eT SC 116 1=(SM 1)/\eT SC 26 0=(SM 0)/\eT SC 26 1=(SM 1)/\eT SC 26 2=(SM 2)/\eT SC 26 3=(SM 3)/\eT SC 26 4=(SM 4)/\eT SC 26 5=(SM 5)/\eT SC 46 0=(SM 0)/\eT SC 46 1=(SM 1)/\eT SC 48 0=(SM 0)/\eT SC 48 1=(SM 2):=by and_intros<;>kernel_rfl
theorem F.q2:eT SC 61 0=(SM 0)/\eT SC 61 1=(SM 1)/\eT SC 73 0=(SM 0)/\eT SC 73 1=(SM 1)/\eT SC 73 2=(SM 2)/\eT SC 76 0=(SM 0)/\eT SC 86 0=(SM 0)/\eT SC 86 1=(SM 4)/\eT SC 86 2=(SM 8)/\eT SC 88 0=(SM 0)/\eT SC 88 1=(SM 1)/\eT SC 88 2=(SM 2)/\eT SC 88 3=(SM 6)/\eT SC 88 4=(SM 10)/\eT SC 88 5=(SM 14)/\eT SC 88 6=(SM 17):=by and_intros<;>kernel_rfl
theorem F.q3:eT SC 97 0=(SM 0)/\eT SC 97 1=(SM 1)/\nY SC 22=(SM (Option.none,1))/\nY SC 23=(SM (Option.none,3))/\nY SC 24=(SM (Option.none,4))/\nY SC 57=(SM (Option.none,1))/\nY SC 80=(SM ((SM 4),1))/\nY SC 81=(SM ((SM 3),1))/\nY SC 82=(SM ((SM 4),1))/\nY SC 83=(SM ((SM 4),1))/\nY SC 84=(SM ((SM 3),1))/\wP SC 82=(SM (4,1))/\wP SC 83=(SM (4,1))/\wP SC 84=(SM (3,1))/\kA SC 22=(SM (3,1))/\kA SC 24=(SM (48,4)):=by and_intros<;>kernel_rfl
theorem F.q4:kA SC 82=Option.none/\kA SC 83=Option.none/\kA SC 84=Option.none/\lE SC 22=(SM Go.Gg.yC.slice)/\lE SC 23=(SM Go.Gg.yC.slice)/\lE SC 24=(SM Go.Gg.yC.slice)/\lE SC 57=(SM Go.Gg.yC.slice)/\AJ SC 22=(SM (3,(1,(SG SF (0)))))/\oO SC 77=(SM (83,4))/\qR SC 22=(SM (3,(1,(SG SF (0)))))/\qR SC 23=(SM (61,(3,(TD #[(SG SF (0)),(SG SF (0)),(SG SF (0))]))))/\qR SC 24=(SM (48,(4,(TD #[(SG SF (0)),(SG SF (0)),(SG SF (0)),(SG SF (0))]))))/\qR SC 57=(SM (22,(1,(Ur Option.none 0 0))))/\Ty SC 116=(SM (2,Bool.true))/\Ty SC 130=(SM (1,Bool.false))/\Ty SC 132=(SM (1,Bool.false)):=by and_intros<;>kernel_rfl
theorem F.q5:Ty SC 136=(SM (0,Bool.true))/\Ty SC 139=(SM (1,Bool.false))/\Ty SC 157=(SM (1,Bool.false))/\Ty SC 22=(SM (1,Bool.false))/\Ty SC 23=(SM (1,Bool.false))/\Ty SC 24=(SM (1,Bool.false))/\Ty SC 26=(SM (6,Bool.true))/\Ty SC 3=(SM (1,Bool.false))/\Ty SC 4=(SM (1,Bool.false))/\Ty SC 46=(SM (2,Bool.true))/\Ty SC 48=(SM (4,Bool.true))/\Ty SC 61=(SM (3,Bool.true))/\Ty SC 68=(SM (1,Bool.false))/\Ty SC 71=(SM (1,Bool.false))/\Ty SC 76=(SM (6,Bool.true))/\Ty SC 77=(SM (1,Bool.false)):=by and_intros<;>kernel_rfl
theorem F.q6:Ty SC 79=(SM (1,Bool.false))/\Ty SC 81=(SM (3,Bool.true))/\Ty SC 83=(SM (4,Bool.true))/\Ty SC 86=(SM (11,Bool.true))/\Ty SC 88=(SM (28,Bool.true))/\Ty SC 97=(SM (2,Bool.true))/\eU SC 112=(SM (TD #[(SG SF (0)),(SG SF (0)),(Xd Bool.false)]))/\eU SC 116=(SM (TD #[(SG SF (0)),(SG SF (0))]))/\eU SC 136=(SM (TD #[]))/\eU SC 139=(SM (XS Option.none))/\eU SC 147=(SM (TD #[(SG TA (0)),(SG al_ (0))]))/\eU SC 153=(SM (TD #[(SG SF (0)),(SG SF (0))]))/\eU SC 157=(SM YT)/\eU SC 26=(SM (TD #[(SG SF (0)),(SG SF (0)),(SG SF (0)),(Ur Option.none 0 0),(Ur Option.none 0 0),(Ur Option.none 0 0)]))/\eU SC 3=(SM (SG SF (0)))/\eU SC 46=(SM (TD #[(SG SF (0)),(SG SF (0))])):=by and_intros<;>kernel_rfl
theorem F.q7:eU SC 48=(SM (TD #[(SG SF (0)),(SG SF (0)),(SG SF (0)),(SG SF (0))]))/\eU SC 61=(SM (TD #[(SG SF (0)),(SG SF (0)),(SG SF (0))]))/\eU SC 68=(SM YT)/\eU SC 76=(SM (TD #[(SG SF (0)),(SG SF (0)),(SG SF (0)),(Ur Option.none 0 0),(Ur Option.none 0 0),(Ur Option.none 0 0)]))/\eU SC 79=(SM (SG S7 (0)))/\eU SC 80=(SM (TD #[(SG S7 (0)),(SG S7 (0)),(SG S7 (0)),(SG S7 (0))]))/\eU SC 81=(SM (TD #[(SG S7 (0)),(SG S7 (0)),(SG S7 (0))]))/\eU SC 83=(SM (TD #[(SG SF (0)),(SG SF (0)),(SG SF (0)),(SG SF (0))]))/\eU SC 86=(SM (TD #[(SG SF (0)),(SG SF (0)),(SG SF (0)),(SG SF (0)),(SG SF (0)),(SG SF (0)),(SG SF (0)),(SG SF (0)),(SG SF (0)),(SG SF (0)),(SG SF (0))]))/\eU SC 97=(SM (TD #[(SG SF (0)),(SG SF (0))])):=by and_intros<;>kernel_rfl
attribute [seval] F.q0 F.q1 F.q2 F.q3 F.q4 F.q5 F.q6 F.q7 F.NL F.NT
def isDone (j:Nat)(D:List Nat):Bool:=D.contains j
theorem alm(j:Nat):isDone j []=false:=by simp[isDone]
theorem alk(i j:Nat)(D:List Nat):isDone j (i::D)=((j==i)||isDone j D):=by
 by_cases h:j=i<;>simp[isDone,h]
theorem afV(lv:Bool)(P:SK)(Hf:List Nat->List aa)(T:List (Nat×AV))(o:Tx)(av:AV):BQ lv P Hf T o av []=True:=by rw[BQ]
theorem afU(lv:Bool)(P:SK)(Hf:List Nat->List aa)(T:List (Nat×AV))(o:Tx)(av:AV)(D D':List Nat)(l:List (List Nat×List Nat)):BQ lv P Hf T o av ((D,D')::l)=((AQ lv P ⟨T,Hf D⟩ o λa=>a=av)/\BQ lv P Hf T o av l):=by rw[BQ]
theorem afq(lv:Bool)(P:SK)(Hf:List Nat->List aa)(T:List (Nat×AV))(o:Tx)(av:AV):BE lv P Hf T o av []=True:=by rw[BE]
theorem afp(lv:Bool)(P:SK)(Hf:List Nat->List aa)(T:List (Nat×AV))(o:Tx)(av:AV)(D D':List Nat)(l:List (List Nat×List Nat)):BE lv P Hf T o av ((D,D')::l)=((j4 lv P (Hf D') ⟨T,Hf D⟩ o λa H'=>a=av/\H'=Hf D')/\BE lv P Hf T o av l):=by rw[BE]
theorem afm:type_of% @gf.eq_1:=by intros;rw[gf.eq_1]
theorem afn:type_of% @gf.eq_2:=by intros;rw[gf.eq_2]
theorem afl:type_of% @gf.eq_3:=by intros;rw[gf.eq_3]
theorem adP:type_of% @j4.eq_1:=by intros;rw[j4.eq_1]
theorem agI(G H:List aa)(k:AV->List aa->Prop)(n m sz:Nat)(elem:TypeId)(l l':List AV):qJ G H k n m sz elem l l' .exact=j6 G[H.length]? (0<m/\k (.bK H.length 0 (n+m) 0) (H++[.own sz (l++l') elem])) (k (.sl (n+m) (l++l') (.opn H.length)) (H++[.tail (n+m) sz elem])) ⟨0⟩:=by rw[qJ]
theorem aiU(X Y:Prop)(t:l7 X Y):j6 none X Y t=Y:=by rw[j6];simp
theorem aiV(a:Nat)(b:List AV)(c:TypeId)(X Y:Prop)(t:l7 X Y):j6 (some (.own a b c)) X Y t=X:=by rw[j6]
theorem aiT(b:List AV)(c:TypeId)(X Y:Prop)(t:l7 X Y):j6 (some (.cells b c)) X Y t=Y:=by rw[j6];simp
theorem aiY(a b:Nat)(c:TypeId)(X Y:Prop)(t:l7 X Y):j6 (some (.tail a b c)) X Y t=Y:=by rw[j6];simp
theorem aiS(b:Obj)(X Y:Prop)(t:l7 X Y):j6 (some (.obj b)) X Y t=Y:=by rw[j6];simp
theorem aiX(a:Nat)(b:List AV)(c:TypeId)(X Y:Prop)(t:l7 X Y):j6 (some (.part a b c)) X Y t=Y:=by rw[j6];simp
@[congr] theorem asN {x x' : Option aa} {X Y : Prop} {t : l7 X Y} (h : x = x') : j6 x X Y t = j6 x' X Y t := by rw [h]
theorem agJ(G H:List aa)(k:AV->List aa->Prop)(n m sz:Nat)(elem:TypeId)(l l':List AV)(i:Nat):qJ G H k n m sz elem l l' (.opn i)=((match H[i]?with
   |some (.tail n' eJ gn)=>n'=n/\eJ=sz/\gn=elem
   |_=>False)/\(∀a∈l',a.leaf=true)/\k (.sl (n+m) (l++l') (.opn i)) (H.set i (.tail (n+m) sz elem))):=by first|(rw[qJ];done)|(rw[qJ];rfl)
section
variable {lv:Bool}{P:SK}{s s':AS}
@[congr] theorem asa {G G' : List aa} {o : Tx} {k : AV -> List aa -> Prop} (hG : G = G') (h : s = s') : j4 lv P G s o k = j4 lv P G' s' o k := by rw [hG, h]
@[congr] theorem asA {Hf : List Nat -> List aa} {ops : Array Tx} {l l' : List qO} {K : AS -> Prop} {t : AH K} (hl : l = l') (h : s = s') : gf lv P Hf ops l s K t = gf lv P Hf ops l' s' K t := by rw [hl, h]
@[congr] theorem asD {Hf : List Nat -> List aa} {T T' : List (Nat × AV)} {o : Tx} {av mI : AV} {l l' : List (List Nat × List Nat)} (h1 : T = T') (h2 : av = mI) (h3 : l = l') : BQ lv P Hf T o av l = BQ lv P Hf T' o mI l' := by rw [h1, h2, h3]
@[congr] theorem asB {Hf : List Nat -> List aa} {T T' : List (Nat × AV)} {o : Tx} {av mI : AV} {l l' : List (List Nat × List Nat)} (h1 : T = T') (h2 : av = mI) (h3 : l = l') : BE lv P Hf T o av l = BE lv P Hf T' o mI l' := by rw [h1, h2, h3]
@[congr] theorem asH {f f' : AV} {H H' : List aa} {aG tW : List AV} {k : AV -> List aa -> Prop} {t : AI k} (h1 : f = f') (h2 : H = H') (h3 : aG = tW) : Dz lv P f H aG k t = Dz lv P f' H' tW k t := by rw [h1, h2, h3]
@[congr] theorem asJ {f f' : AV} {name : String} {H H' : List aa} {aG tW : List AV} {k : AV -> List aa -> Prop} {t : AI k} (h1 : f = f') (h2 : H = H') (h3 : aG = tW) : HL lv P f name H aG k t = HL lv P f' name H' tW k t := by rw [h1, h2, h3]
@[congr] theorem asG {G G' H H' : List aa} {k : AV -> List aa -> Prop} {n n' m m' sz : Nat} {elem : TypeId} {l l' x x' : List AV} {e e' : End} (hG : G = G') (h0 : H = H') (h1 : n = n') (h2 : m = m') (h3 : l = l') (h4 : x = x') (h5 : e = e') : qJ G H k n m sz elem l x e = qJ G' H' k n' m' sz elem l' x' e' := by rw [hG, h0, h1, h2, h3, h4, h5]
end
attribute [seval] alm alk afV afU afq afp afm afn afl adP agI agJ aiU aiV aiT aiY aiS aiX Bool.true_or Bool.false_or Bool.or_true Bool.or_false cond_true cond_false
def ao.stay (Φ:ao->AS->Prop):ao->AS->Prop
 |.goto _,_=>False
 |e,s=>Φ e s
theorem aqo(Φ:ao->AS->Prop)(s:AS):ao.stay Φ .normal s=Φ .normal s:=by rw[ao.stay];simp
theorem aqq(Φ:ao->AS->Prop)(s:AS):ao.stay Φ .ret s=Φ .ret s:=by rw[ao.stay];simp
theorem aqn(Φ:ao->AS->Prop)(i:Nat)(s:AS):ao.stay Φ (.exit i) s=Φ (.exit i) s:=by rw[ao.stay];simp
theorem aqp(Φ:ao->AS->Prop)(a:AV)(s:AS):ao.stay Φ (.panic a) s=Φ (.panic a) s:=by rw[ao.stay];simp
theorem Oh{lv:Bool}{P:SK}{r:Option Nat}{s:AS}{nt:Nat}{c:T7}{Φ:ao->AS->Prop}(h:aX lv P r nt c s (ao.stay Φ)):aX lv P r nt (.scope c) s Φ:=by
 refine ae9 (λ_ _ _=>False) ⟨0,h.mono λe s hs=> ?_⟩ λ_ _ _ _ _ hf=>hf.elim;cases e<;>first|exact hs|exact hs.elim
@[congr] theorem atk {s s' : AS} {Φ : ao -> AS -> Prop} {e e' : ao} (he : e = e') (h : s = s') : ao.stay Φ e s = ao.stay Φ e' s' := by rw [he, h]
attribute [seval] aqo aqq aqn aqp
theorem ali{α:Type}(n:Nat)(x:α):(if(n:Int)<0 then none else some x)=some x:=by rw[if_neg (by omega)]
theorem afS:(XK==VW)=false:=by decide
theorem afT:(VW==VW)=true:=by decide
theorem aqW{α β:Type}(f:α->β)(xs:List α):(xs.map f).take xs.length=xs.map f:=SY (by simp)
theorem anu(o:VZ):(o=o\/o=.neq)=True:=by simp
theorem anv:(VW=.eql\/VW=.neq)=True:=by simp
theorem alp{α:Type}(a b:α):(if false=true then a else b)=b:=by simp
theorem alq{α:Type}(a b:α):(if true=true then a else b)=a:=by simp
theorem afO(s:AS):s.i_ none=some none:=by rw[AS.i_]
theorem afP(s:AS)(x:Tl):s.i_ (some x)=(s.ev x).bind λa=>a.vr.map some:=by
 rw[AS.i_];cases s.ev x<;>rfl
theorem aeM(j:TU)(n:Int):AV.vr (.val (.int j n))=some n:=by rw[AV.vr]
theorem ad4(P:SK)(t:TypeId)(id off:Nat)(l h m:Option Int)(k:AV->Prop):sh P t (.op id off) l h m k=ap (wP P t) λp=>su id off p.1 p.1 p.2 l h m k:=by rw[sh]
theorem ad5(P:SK)(t:TypeId)(id off n c:Nat)(l h m:Option Int)(k:AV->Prop):sh P t (.bK id off n c) l h m k=ap (kA P t) λp=>su id off n c p.2 l h m k:=by rw[sh]
theorem ad6(P:SK)(t:TypeId)(n:Nat)(li:List AV)(e:End)(l h m:Option Int)(k:AV->Prop):sh P t (.sl n li e) l h m k=ap (kA P t) λp=>wS n li e p.2 l h m k:=by rw[sh]
theorem anD:type_of% @su.eq_1:=by intros;rw[su.eq_1]
theorem apY:type_of% @wS.eq_1:=by intros;rw[wS.eq_1]
@[congr] theorem atf {id oF off CX n n' cap cap' sz eJ : Nat} {lo CM hi cG mx CQ : Option Int} {k : AV -> Prop} (h1 : id = oF) (h2 : off = CX) (h3 : n = n') (h4 : cap = cap') (h5 : sz = eJ) (h6 : lo = CM) (h7 : hi = cG) (h8 : mx = CQ) : su id off n cap sz lo hi mx k = su oF CX n' cap' eJ CM cG CQ k := by rw [h1, h2, h3, h4, h5, h6, h7, h8]
@[congr] theorem ati {n n' sz eJ : Nat} {l l' : List AV} {e e' : End} {lo CM hi cG mx CQ : Option Int} {k : AV -> Prop} (h3 : n = n') (h1 : l = l') (h2 : e = e') (h5 : sz = eJ) (h6 : lo = CM) (h7 : hi = cG) (h8 : mx = CQ) : wS n l e sz lo hi mx k = wS n' l' e' eJ CM cG CQ k := by rw [h1, h2, h3, h5, h6, h7, h8]
theorem am0:((1:Nat):Int)=1:=rfl
theorem am1:((2:Nat):Int)=2:=rfl
theorem am2:((3:Nat):Int)=3:=rfl
theorem am3:((4:Nat):Int)=4:=rfl
theorem am4:((5:Nat):Int)=5:=rfl
theorem am5:((6:Nat):Int)=6:=rfl
theorem ark(p:Prop):(True\/p)=True:=by simp
theorem anA(p:Prop):(p\/True)=True:=by simp
attribute [seval] am0 am1 am2 am3 am4 am5 ark anA Int.le_refl List.length_map
theorem aeD(H L:List aa):(H++L)[H.length+1+1]?=L[2]?:=vp H L 2
theorem aeE(H L:List aa):(H++L)[H.length+1+1+1]?=L[3]?:=vp H L 3
theorem aeH(H L:List aa)(x:aa):(H++L).set (H.length+1+1) x=H++L.set 2 x:=vq H L 2 x
theorem aeI(H L:List aa)(x:aa):(H++L).set (H.length+1+1+1) x=H++L.set 3 x:=vq H L 3 x
attribute [seval] aeD aeE aeH aeI
attribute [seval] afO afP aeM ad4 ad5 ad6 anD apY Option.getD_none Option.getD_some Int.toNat_zero Nat.sub_zero Option.bind_some Option.map_some Nat.zero_le Option.isSome_none Option.isSome_some Bool.false_eq_true false_implies
attribute [seval] ali afS afT aqW anu anv alp alq
section
variable {P:SK}{α β:Type}
theorem iA(a:α):cD P (pure a) a:=λw es=>by simp only[pure,VG]
theorem lB{x:Sem α}{f:α->Sem β}{a:α}{b:β}(h:cD P x a)(k:cD P (f a) b):cD P (x>>=f) b:=λw es=>by
 show (x.bind f).runT P w es=_;rw[Sem.runT_bind',h w es];exact k w es
theorem aqJ{k:SK->Sem α}{a:α}(h:cD P (k P) a):cD P (.program k) a:=λw es=>by simp only[VG];exact h w es
theorem M8{k:SK->Sem α}{a:α}(h:cD P (k P) a):cD P (program>>=k) a:=lB (a:=P) (aqJ (iA P)) h
theorem wF{t:TypeId}{d:TypeDesc}{k:TypeDesc->Sem α}{a:α}(h:P.underlying t=some d)(hk:cD P (k d) a):cD P (underlying t>>=k) a:=by
 unfold underlying;refine lB (a:=d) (M8 ?_) hk;rw[h];exact iA d
def yI:TypeDesc->Bool
 |.struct _|.array _ _=>true
 |_=>false
theorem acM{t:TypeId}{d:TypeDesc}{k:Bool->Sem α}{a:α}(h:P.underlying t=some d)(hk:cD P (k (yI d)) a):cD P (isAgg t>>=k) a:=by
 unfold isAgg;refine lB (wF (a:=yI d) h ?_) hk;cases d<;>exact iA _
theorem M9{t:TypeId}{i:Wl}{k:Nat->Sem α}{a:α}(h:P.info? t=some i)(hk:cD P (k i.size) a):cD P (sizeOf t>>=k) a:=by
 unfold sizeOf typeInfo;refine lB (lB (a:=i) (M8 ?_) (iA _)) hk;rw[h];exact iA i
theorem Dc{t:TypeId}{d:TypeDesc}{xs:Array SO}{off:Nat}{v:SO}{k:SO->Sem α}{a:α}(h:P.underlying t=some d)(hd:yI d=false)(hv:xs[off]?=some v)(hk:cD P (k v) a):cD P (part t xs off>>=k) a:=by
 unfold part;refine lB (a:=v) (acM h ?_) hk;rw[hd,hv];exact iA v
theorem acN{t:TypeId}{d:TypeDesc}{i:Wl}{xs:Array SO}{off:Nat}{k:SO->Sem α}{a:α}(h:P.underlying t=some d)(hd:yI d=true)(hi:P.info? t=some i)(hk:cD P (k (.agg (xs.extract off (off+i.size)))) a):cD P (part t xs off>>=k) a:=by
 unfold part;refine lB (acM h ?_) hk;rw[hd];exact M9 hi (iA _)
theorem acL{t:TypeId}{k0 k:TU}{d:Nat}{x y:Int}(h:P.underlying t=some (.int k0)):cD P (U_ (d+1) t (.int k x) (.int k y)) (x==y):=by
 rw[U_];refine wF h ?_;dsimp only;rw[if_pos rfl];exact iA _
theorem aqC{t:TypeId}{d:Nat}{x y:Bool}(h:P.underlying t=some .bool):cD P (U_ (d+1) t (.bool x) (.bool y)) (x==y):=by
 rw[U_];exact wF h (iA _)
theorem acF{ι:Type}{body:ι->Option Bool×Unit->Sem (ForInStep (Option Bool×Unit))}{p:ι->Bool}:∀(l:List ι),(∀i∈l,cD P (body i (none,())) (if p i then .yield (none,())else .done (some false,())))->cD P (forIn l (none,()) body) (if l.all p then(none,())else(some false,()))
 |[],_=>by simpa using iA (none,())
 |i::l,h=>by
  rw[W3];refine lB (h i (TC ..)) ?_;by_cases hp:p i=true
  ·simp only[hp,if_true,ZS,U5];exact acF l λj hj=>h j (Ta _ hj)
  ·have zA:p i=false:=(by simpa using hp);simp only[zA,TM,if_false,ZS,Xr];exact iA _
theorem aev{α:Type}[BEq α][LawfulBEq α]{xs ys:List α}{n:Nat}(hx:xs.length=n)(hy:ys.length=n):((T4 0 n).all λi=>xs[i]?==ys[i]?)=(xs==ys):=by
 rw[UI,Tv,beq_iff_eq];constructor
 ·intro h;apply Yo;intro i;by_cases hi:i<n
  ·have:=h i (by simp[X0];omega);simpa using this
  ·rw[Uu (by omega),Uu (by omega)]
 ·rintro rfl i _;simp
theorem aqG{t e:TypeId}{k0 k:TU}{n d:Nat}{i:Wl}{xs ys:List Int}(ht:P.underlying t=some (.array n e))(he:P.underlying e=some (.int k0))(hi:P.info? e=some i)(hs:i.size=1)(hx:xs.length=n)(hy:ys.length=n):
  cD P (U_ (d+2) t (.agg (xs.map (SG k)).toArray) (.agg (ys.map (SG k)).toArray)) (xs==ys):=by
 rw[U_];refine wF ht ?_;dsimp only;refine M9 hi ?_;rw[hs];simp only[Ww,Xu];refine lB (a:=if(xs==ys)then(none,())else(some false,())) ?_ (by cases xs==ys<;>exact iA _);have hn:(n-0+1-1)/1=n:=by simp
 rw[hn,<- aev hx hy];refine acF _ λj hj=> ?_;have o_:j<n:=by simp[X0]at hj;omega
 have gx:xs[j]?=some (xs[j]'(by omega)):=SP _;have gy:ys[j]?=some (ys[j]'(by omega)):=SP _;rw[ZP];refine Dc he rfl (v:=.int k (xs[j]'(by omega))) (by simp[gx]) ?_;refine Dc he rfl (v:=.int k (ys[j]'(by omega))) (by simp[gy]) ?_;refine lB (acL he) ?_;rw[gx,gy];by_cases h:xs[j]'(by omega)=ys[j]'(by omega)
 ·rw[h];simp;exact iA _
 ·have h1:(xs[j]'(by omega)==ys[j]'(by omega))=false:=by simpa using h
  have h2:(some (xs[j]'(by omega))==some (ys[j]'(by omega)))=false:=by simpa using h
  rw[h1,h2];exact iA _
theorem cD.uniq{x:Sem α}{a b:α}(h:cD P x a)(k:cD P x b):a=b:=by
 have e:=(h default #[]).symm.trans (k default #[]);have e1:=congrArg Prod.fst e;exact(aq_ e1).1
theorem acI{t e:TypeId}{k0:TU}{n:Nat}{i:Wl}{xs ys:List Int}(ht:P.underlying t=some (.array n e))(he:P.underlying e=some (.int k0))(hi:P.info? e=some i)(hs:i.size=1)(hx:xs.length=n)(hy:ys.length=n):
  cD P (Xj t (.agg (xs.map (SG .i64)).toArray) (.agg (ys.map (SG .i64)).toArray)) (xs==ys):=aqG (d:=9998) ht he hi hs hx hy
theorem yf(xs:List Int):AV.raw (.agg (xs.map iv))=some (.agg (xs.map (SG .i64)).toArray):=by
 have:∀l:List Int,(l.map iv).mapM AV.Af=some (l.map (SG .i64)):=by
  intro l;induction l with
  |nil=>rfl
  |cons x l ih=>simp only[UW,Ue,ih];rfl
 simp only[AV.raw,this];rfl
theorem aoa{xs:List Int}{i:Nat}{y:Int}(h:i<xs.length):iF (xs.map iv) i [iv y]=(xs.set i y).map iv:=by
 unfold iF;rw[List.map_set,List.set_eq_take_append_cons_drop,if_pos (by simpa using h)];simp
theorem wC{xs:List Int}{i:Nat}{y:Int}(h:i<xs.length):(xs.map iv).take i++[iv y]++(xs.map iv).drop (i+1)=(xs.set i y).map iv:=aoa h
theorem kW{xs:List Int}{i:Nat}{x:Int}(h:xs[i]?=some x):(xs.map iv).drop i=iv x::(xs.drop (i+1)).map iv:=by
 have h1:=eX h;rw[<- ai',TW h1,UW];rw[SP h1]at h;cases h;rfl
end
theorem aam(xs:List Int):(∀a∈xs.map iv,a.leaf=true)=True:=by
 simp only[Tn,eq_iff_iff,iff_true]
 rintro a ⟨x,_,rfl⟩;rfl
attribute [seval] List.append_nil aam
def yx (lv:Bool)(P:SK)(g:TN)(args:Array SO)(md:U9)(V:View)(R:U9->View->Prop):Prop:=
 ∀(main:Bool)(J:View->SH->Prop),Closed lv P main J->∀(fr:T8)(cs:List T8),fr.mode=md->(∀nR V',R nR V'->J V' (G {fr with mode:=nR} cs))->J V (G (Frame.enter P g args .deferred) (fr::cs))
def qV:U9->U9
 |.panicking ({recovered:=true, .. }::Me)=>match Me.dropWhile (!·.goexit)with
  |[]=> .returning
  |rest=> .panicking rest
 |m=>m
theorem aan{lv:Bool}{P:SK}{main:Bool}{J:View->SH->Prop}(C:Closed lv P main J){fr c:T8}{cs:List T8}{f:TN}{v:SO}{V:View}(h:Leaves P fr f .deferred (.ret v) V)(hJ:J V (G {c with mode:=qV c.mode} cs)):J V (G fr (c::cs)):=by
 obtain⟨rfl,hd,hk,fn,hf,hm,hr⟩:=h;refine C.step _ _ rfl λw hw=> ?_;obtain⟨es,w',V',h1,h2,h3⟩:=hr.runs hw;rcases h3 with⟨x,h3,rfl,rfl⟩|⟨_,_,h⟩
 ·refine⟨G {c with mode:=qV c.mode} cs,w',seen P fr.fn es,V',?_,h1.seen P fr.fn,hJ⟩;simp only[G,stepG,unwind,doReturn,hm,hd,hk,hf,TB,h3,h2,TZ];cases Fq:c.mode with
  |run=>simp[qV,<- Fq]
  |returning=>simp[qV,<- Fq]
  |panicking ch=>
   cases ch with
   |nil=>simp[qV,<- Fq]
   |cons p Me=>
    obtain⟨v,rec,ge⟩:=p;cases rec with
    |false=>simp[qV,<- Fq]
    |true=>
     simp only[qV];cases hdw:Me.dropWhile (!·.goexit)with
     |nil=>simp
     |cons x y=>simp
 ·exact h.elim
theorem Pu{ρ:Tl->SO}{o:Tx}{cl:Xq}(au:o.op=.call cl)(aY:cl.callee=.builtin .recover)(P:SK)(w:Tq)(es:Array Uq):(execOp ρ o).runT P w es=(.ok .recover w,es):=by
 unfold execOp;rw[au];dsimp only;unfold resolve;rw[aY];rfl
theorem apr{P:SK}{main:Bool}{b c:T8}{a:Act}{k:List WW}{cs:List T8}{w:Tq}{ops:Array Tx}{i:Nat}{rest:List Nat}{o:Tx}{cl:Xq}{v:SO}(ho:ops[i]?=some o)(hg:o.guard=none)(au:o.op=.call cl)(aY:cl.callee=.builtin .recover)(hb:b.kind=.deferred)(hr:b.roundOf=none)
  (hm:c.mode=.panicking [{v,recovered:=false}]):stepG P main (G (on b a (.inRegion ops (i::rest)::k)) (c::cs)) w=.go (G (on b (a.put o.dst v) (.inRegion ops rest::k)) ({c with mode:=.panicking [{v,recovered:=true}]}::cs)) w #[]:=by
 have eo:(on b a (.inRegion ops (i::rest)::k)).finish v=on b (a.put o.dst v) (.inRegion ops rest::k):=by
  rw[z8,ho];rfl
 rw[s_op ho (by unfold Tc;rw[hg]) (.inl hr),<- eo];have jW:((on b a (.inRegion ops (i::rest)::k)).kind==U7)=false:=by simp[on,hb]
 simp only[stepG.apply,if_true,Pu au aY,jW,TZ,TM,if_false];have h1:(on b a (.inRegion ops (i::rest)::k)).roundOf=none:=hr;have h2:(on b a (.inRegion ops (i::rest)::k)).kind=.deferred:=hb;rw[h1];simp only[tryRecover,h2,hm];simp[seen,G]
theorem aps{P:SK}{main:Bool}{b c:T8}{a:Act}{k:List WW}{cs:List T8}{w:Tq}{ops:Array Tx}{i:Nat}{rest:List Nat}{o:Tx}{cl:Xq}(ho:ops[i]?=some o)(hg:o.guard=none)(au:o.op=.call cl)(aY:cl.callee=.builtin .recover)(hb:b.kind=.deferred)(hr:b.roundOf=none)
  (hm:c.mode=.returning):stepG P main (G (on b a (.inRegion ops (i::rest)::k)) (c::cs)) w=.go (G (on b (a.put o.dst .nilIface) (.inRegion ops rest::k)) (c::cs)) w #[]:=by
 have eo:(on b a (.inRegion ops (i::rest)::k)).finish .nilIface=on b (a.put o.dst .nilIface) (.inRegion ops rest::k):=by
  rw[z8,ho];rfl
 rw[s_op ho (by unfold Tc;rw[hg]) (.inl hr),<- eo];have jW:((on b a (.inRegion ops (i::rest)::k)).kind==U7)=false:=by simp[on,hb]
 simp only[stepG.apply,if_true,Pu au aY,jW,TZ,TM,if_false];have h1:(on b a (.inRegion ops (i::rest)::k)).roundOf=none:=hr;have h2:(on b a (.inRegion ops (i::rest)::k)).kind=.deferred:=hb;rw[h1];simp only[tryRecover,h2,hm];simp[seen,G]
def DC (P:SK)(fn:YD)(K:View->Prop):Ex->Act->View->Prop
 |.normal,a,V|.ret,a,V=>a.defers=[]/\∃v,aR P V (results fn a.tmps) (λx V'=>x=v/\V'=V) (λ_ _=>False)/\K V
 |_,_,_=>False
theorem agi{lv:Bool}{P:SK}{g:TN}{fn:YD}{id:Nat}{ops:Array Tx}{c2:T7}{o:Tx}{cl:Xq}{args:Array SO}{md:U9}{v0:SO}{V:View}{R:U9->View->Prop}
  (hf:P.funcs[g]?=some fn) (hb:fn.body=some (.seq (.region id ops false) c2)) (ho:ops[0]?=some o) (hg:o.guard=none) (au:o.op=.call cl) (aY:cl.callee=.builtin .recover)
  (qh:md=.panicking [{v:=v0,recovered:=false}]\/(md=.returning/\v0=.nilIface))
  (h:da lv P none ops (Ex.then (WP lv P none c2 (DC P fn (R .returning))) (DC P fn (R .returning))) (T4 1 (ops.size-1)) (({tmps:=args++TE (fn.ntmps-args.size) undef,defers:=[]}:Act).put o.dst v0) V):yx lv P g args md V R:=by
 intro main J C fr cs mf hR;let b:T8:={(default:T8)with fn:=g,kind:=.deferred,roundOf:=none};have ut:Frame.enter P g args .deferred=on b {tmps:=args++TE (fn.ntmps-args.size) undef,defers:=[]} [.code (.seq (.region id ops false) c2)]:=by
  simp[Frame.enter,on,hf,hb,b]
 rw[ut];have aU:0<ops.size:=(SS.1 ho).1;have KO:S0 ops.size=0::T4 1 (ops.size-1):=by
  rw[Vo];obtain⟨n,hn⟩:∃n,ops.size=n+1:=⟨ops.size-1,by omega⟩;rw[hn,VR];rfl
 refine C.idle rfl (λ_=>abQ) (C.idle rfl (λ_=>abP) ?_);rw[KO];have fin:∀(c:T8),qV c.mode=.returning->{c with mode:=qV c.mode}={fr with mode:=.returning}->∀e a' V',DC P fn (R .returning) e a' V'->vf J b [] (c::cs) e a' V':=by
  intro c hc vV e a' V' q;cases e with
  |normal=>
   obtain⟨hd,v,hs,hr⟩:=q;refine C.idle rfl (λw=>C4 rfl) (aan (f:=g) (v:=v) C ⟨rfl,hd,rfl,fn,hf,rfl,hs⟩ ?_);rw[vV];exact hR _ _ hr
  |ret=>
   obtain⟨hd,v,hs,hr⟩:=q;intro k;refine C.idle rfl (λw=>C5 rfl) (aan (f:=g) (v:=v) C ⟨rfl,hd,rfl,fn,hf,rfl,hs⟩ ?_);rw[vV];exact hR _ _ hr
  |_=>exact q.elim
 have run:∀(c:T8),qV c.mode=.returning->{c with mode:=qV c.mode}={fr with mode:=.returning}->J V (G (on b (({tmps:=args++TE (fn.ntmps-args.size) undef,defers:=[]}:Act).put o.dst v0) (.inRegion ops (T4 1 (ops.size-1))::[.code c2])) (c::cs)):=by
  intro c hc vV;refine wp_ops _ _ V h main J C b [.code c2] (c::cs) (by show YN≠U7;decide) rfl λe a' V' q=> ?_;cases e with
  |normal=>exact q main J C b [] (c::cs) (by show YN≠U7;decide) rfl λe bT aP q'=>fin c hc vV e bT aP q'
  |ret=>exact fin c hc vV .ret a' V' q
  |panic ch=>exact q.elim
  |exit i=>exact q.elim
  |goto i=>exact q.elim
 rcases qh with qh|⟨qh,hv⟩
 ·refine C.idle rfl (λw=>apr ho hg au aY rfl rfl (by rw[mf,qh])) ?_;exact run {fr with mode:=.panicking [{v:=v0,recovered:=true}]} rfl rfl
 ·refine C.idle rfl (λw=>aps ho hg au aY rfl rfl (by rw[mf,qh])) ?_;subst hv;have jd:fr.mode=.returning:=by rw[mf,qh]
  exact run fr (by rw[jd];rfl) (by rw[jd];rfl)
section
variable {lv:Bool}{P:SK}
theorem MS{g:TN}{args:Array SO}{V:View}{K:Next->View->Prop}{Kp:SO->View->Prop}(hg:qH P g=true)(h:K (.enter g args) V):aR P V (callFunc g args) K Kp:=by
 unfold callFunc;refine az (qB (cM ?_));unfold qH at hg;split at hg
 ·rename_i fn xA;simp only[Ti,TV]at hg;rw[xA];dsimp only;have ES:fn.body.isNone=false:=by
   have h1:=hg.1;cases hb:fn.body with
   |none=>rw[hb]at h1;cases h1
   |some _=>rfl
  rw[if_neg (by rw[hg.2];simp),if_neg (by rw[ES];simp)];exact ay h
 ·cases hg
theorem A9{E:Env}{V:View}{H:List aa}{args:List AV}{vs:Array SO}{nt:Nat}(hc:Conc E V H)(hd:cN E args vs)(cP:args.length<=nt):At E V ⟨br 0 args,H⟩ {tmps:=vs++TE (nt-vs.size) undef,defers:=[]} nt:=by
 have aU:(vs++TE (nt-vs.size) undef).size=nt:=by simp[hd.1];omega
 refine⟨hc,λq a e=> ?_,aU⟩;obtain⟨_,e⟩:=LX args 0 q a e;simp only[Z0]at e;have hq:q<args.length:=(SN.1 e).1;have s_:q<vs.size:=by rw[hd.1];exact hq
 refine⟨by rw[aU];omega,?_⟩;have:=hd.2 q a e;rw[SI,Yc s_];rwa [SI]at this
def yw (E:Env)(c:AV×List AV)(d:UX):Prop:=∃f first cV fa ca vs,c.1=.fn (.func f) first cV/\d=⟨.fn (.func f) ca,fa++vs⟩/\cN E first fa/\cN E cV ca/\cN E c.2 vs
theorem yw.mono{E E':Env}(h:E.Le E'){c:AV×List AV}{d:UX}(k:yw E c d):yw E' c d:=by
 obtain⟨f,first,cV,fa,ca,vs,h1,h2,h3,h4,h5⟩:=k;exact⟨f,first,cV,fa,ca,vs,h1,h2,h3.mono h,h4.mono h,h5.mono h⟩
def NM (E:Env):Option AV->U9->Prop
 |none,md=>md=.returning
 |some pv,md=>∃v,md=.panicking [{v,recovered:=false}]/\aq E pv v
def qI (lv:Bool)(P:SK)(c:AV×List AV)(H:List aa)(m:Option AV)(kr kp:List aa->Prop):Prop:=
 ∀(E:Env)(V:View)(d:UX)(md:U9),Conc E V H->yw E c d->NM E m md->aR P V (invoke d.target d.args) (λnx V'=>∃g args,nx=.enter g args/\yx lv P g args md V' λnR aP=>∃E' H',E.Le E'/\aP.role=V.role/\aP.deaf=V.deaf/\Conc E' aP H'/\((nR=.returning/\kr H')\/(nR=md/\m.isSome=true/\kp H'))) (λ_ _=>False)
def AD (n0:Nat)(kr:List aa->Prop):ao->AS->Prop
 |.normal,s|.ret,s=>kr s.H\/∃H' G,s.H=H'++G/\n0<=H'.length/\bQ H'/\kr H'
 |_,_=>False
theorem AD.out{n0:Nat}{E0 E:Env}{V':View}{H:List aa}{kr:List aa->Prop}(h:kr H\/∃H' G,H=H'++G/\n0<=H'.length/\bQ H'/\kr H')(hc:Conc E V' H)(hle:E0.Le E)(hn:E0.n=n0):∃E' H',E0.Le E'/\Conc E' V' H'/\kr H':=by
 rcases h with h|⟨H',G,rfl,h1,h2,h3⟩
 ·exact⟨E,H,hle,hc,h⟩
 ·exact⟨{E with n:=H'.length},H',Df h1 (by rw[hc.n];simp) hle hn,hc.trim h2,h3⟩
theorem results_none{fn:YD}{tmps:Array SO}{V:View}(hr:fn.results=#[]):aR P V (results fn tmps) (λx V'=>x=.tuple #[]/\V'=V) (λ_ _=>False):=by
 unfold results;rw[show fn.results=([]:List UM).toArray from hr,X4];refine az ?_;refine az ?_;rw[UF];refine ay (ay (ay ⟨?_,rfl⟩));simp
theorem agh{g:TN}{fn:YD}{id nt:Nat}{ops:Array Tx}{c2:T7}{o:Tx}{cl:Xq}{first cV aG:List AV}{H:List aa}{m:Option AV}{kr kp:List aa->Prop}
  (hg:qH P g=true) (hf:P.funcs[g]?=some fn) (hb:fn.body=some (.seq (.region id ops false) c2)) (hr:fn.results=#[]) (hn:fn.ntmps=nt) (ho:ops[0]?=some o) (sT:o.guard=none) (au:o.op=.call cl) (aY:cl.callee=.builtin .recover) (cR:jT nt ops=true) (cP:(first++aG++cV).length<=nt)
  (h:h_ lv P ops (ops.toList.drop 1) ((⟨br 0 (first++aG++cV),H⟩:AS).put o.dst (m.getD (.val .nilIface))) (λs'=>aX lv P none nt c2 s' (AD H.length kr)) (λ_ _=>False)):qI lv P (.fn (.func g) first cV,aG) H m kr kp:=by
 intro E V d md hc hd qh;obtain⟨f,asK,asF,fa,ca,vs,h1,rfl,h3,h4,h5⟩:=hd;cases h1;unfold invoke;dsimp only;refine MS hg ⟨g,_,rfl,?_⟩;obtain⟨v0,hv,akh⟩:∃v0,aq E (m.getD (.val .nilIface)) v0/\(md=.panicking [{v:=v0,recovered:=false}]\/(md=.returning/\v0=.nilIface)):=by
  cases m with
  |none=>exact⟨.nilIface,.val _,.inr ⟨qh,rfl⟩⟩
  |some pv=>obtain⟨v,e,hv⟩:=qh;exact⟨v,hv,.inl e⟩
 refine agi hf hb ho sT au aY akh ?_;have ah:=A9 (nt:=nt) hc (Bi (Bi h3 h5) h4) cP;rw[hn];have aU:0<ops.size:=(SS.1 ho).1;have fI:o∈ops:=W5 ho;have aQ:At E V ((⟨br 0 (first++aG++cV),H⟩:AS).put o.dst (m.getD (.val .nilIface))) (({tmps:=fa++vs++ca++TE (nt-(fa++vs++ca).size) undef,defers:=[]}:Act).put o.dst v0) nt:=
  ⟨by rw[ft];exact ah.bm,ah.tok.gZ (λd e=>by rw[ah.size];exact(jT.out cR fI).1 d e) hv,(dP _ _ _).trans ah.size⟩
 refine yd (r:=none) (Φ:=λe s'=>match e with
  |.normal=>aX lv P none nt c2 s' (AD H.length kr)
  |_=>False) (λo ho d e=>(jT.out cR ho).1 d e) (λ_ _=> .inl rfl) (ops.size-1) 1 _ (by omega) h E V _ _ aQ λae e E' V' a' s' hk ajo he hΦ=> ?_
 cases ae<;>cases e<;>first
  |exact he.elim
  |exact hΦ.elim
  |skip
 refine hΦ E' V' a' _ ajo λae e bE aP bT b8 aE cQ kj tj=> ?_;have fin:(kr b8.H\/∃H' G,b8.H=H'++G/\H.length<=H'.length/\bQ H'/\kr H')->DC P fn (λaP=>∃E' H',E.Le E'/\aP.role=V.role/\aP.deaf=V.deaf/\Conc E' aP H'/\((Yr=.returning/\kr H')\/(Yr=md/\m.isSome=true/\kp H'))) .ret bT aP:=λtj=>by
  obtain⟨E3,H',q1,q2,q3⟩:=AD.out (E0:=E) tj cQ.bm (hk.le.trans aE.le) hc.n;have bz:bT.defers=[]:=by rw[aE.defers,hk.defers];exact put_defers _ _ _
  exact⟨bz,_,results_none hr,E3,H',q1,aE.role.trans hk.role,aE.deaf.trans hk.deaf,q2,.inl ⟨rfl,q3⟩⟩
 cases ae<;>cases e<;>first
  |exact kj.elim
  |exact tj.elim
  |exact fin tj
theorem OW{g:TN}{fn:YD}{id nt:Nat}{ops:Array Tx}{c2:T7}{o:Tx}{l:List Tx}{d0:Option Nat}{cl:Xq}{first cV aG:List AV}{H:List aa}{m:Option AV}{kr kp:List aa->Prop}
  (hg:qH P g=true) (hf:P.funcs[g]?=some fn) (hb:fn.body=some (.seq (.region id ops false) c2)) (hr:fn.results=#[]) (hn:fn.ntmps=nt) (hl:ops.toList=o::l) (sT:o.guard=none) (aS:o.dst=d0) (au:o.op=.call cl) (aY:cl.callee=.builtin .recover) (cR:jT nt ops=true) (cP:(first++aG++cV).length<=nt)
  (h:h_ lv P ops l ((⟨br 0 (first++aG++cV),H⟩:AS).put d0 (m.getD (.val .nilIface))) (λs'=>aX lv P none nt c2 s' (AD H.length kr)) (λ_ _=>False)):qI lv P (.fn (.func g) first cV,aG) H m kr kp:=by
 subst aS;refine agh hg hf hb hr hn (o:=o) (cl:=cl) ?_ sT au aY cR cP (by rw[hl];simpa using h);have:ops.toList[0]?=some o:=by rw[hl];rfl
 simpa using this
end
section
variable {lv:Bool}{P:SK}{r:Option Nat}{s:AS}
theorem GA{nt:Nat}{all:Array Tx}{Φ:ao->AS->Prop}(cR:∀o∈all,∀d,o.dst=some d->d<nt)(nB:r=none):∀(n k:Nat)(s:AS),k+n<=all.size->h_ lv P all ((all.toList.drop k).take n) s (Φ .normal) (λpv s=>Φ (.panic pv) s)->
  ∀(E:Env)(V:View)(a:Act)(Q:Ex->Act->View->Prop),At E V s a nt->(∀ae e E' V' a' s',Kept E E' V V' a a'->At E' V' s' a' nt->pI E' ae e->Φ ae s'->Q e a' V')->da lv P r all Q (T4 k n) a V
 |0,k,s,hk,h,E,V,a,Q,ah,hQ=>by
  rw[an_]at h;exact hQ .normal .normal E V a s (Kept.refl E V a) ah trivial h
 |n+1,k,s,hk,h,E,V,a,Q,ah,hQ=>by
  have hlt:k<all.size:=by omega
  have hd:all.toList.drop k=all[k]::all.toList.drop (k+1):=by
   rw[TW (by simpa using hlt)];simp
  rw[hd,VQ]at h;have fI:all[k]∈all:=XX hlt;have ho:all[k]?=some all[k]:=SJ hlt;simp only[VR,da,ho];have go:∀s:AS,At E V s a nt->mB lv P s all[k] (λs'=>h_ lv P all ((all.toList.drop (k+1)).take n) s' (Φ .normal) (λpv s=>Φ (.panic pv) s)) (λpv s=>Φ (.panic pv) s)->vg lv P r all[k] a V (da lv P r all Q (T4 (k+1) n)) Q:=λs ah h=>by
   refine h.sound (lv:=lv) (r:=r) E V a _ Q ah.bm ah.tok (λd e=>by rw[ah.size];exact cR _ fI d e) (.inl nB) (λE' V' a' s' aE ba ml hn=> ?_) (λE' V' s' pv v aE ba ml bp hb=> ?_)
   ·exact GA cR nB n (k+1) s' (by omega) hn E' V' a' Q ⟨ba,ml,aE.size.trans ah.size⟩ (λae e bE aP bT b8 fW cQ he hΦ=>hQ ae e bE aP bT b8 (aE.trans fW) cQ he hΦ)
   ·exact hQ (.panic pv) (.panic _) E' V' a s' aE ⟨ba,ml,ah.size⟩ ⟨v,rfl,bp⟩ hb
  simp only[h_]at h;split at h
  ·rename_i hg;have hw:Tc all[k] (yielded all a.tmps)=true:=(by unfold Tc;rw[hg]);rw[if_pos hw];exact .inl (go s ah h)
  ·rename_i j bJ hg;obtain⟨d,eF,h⟩:=h.out;obtain⟨av,h1,h⟩:=h.out;obtain⟨b,rfl,h2,h3⟩:=A7 h;have hv:=(ah.tok d _ h1).2;have hy:yielded all a.tmps j=some b:=by
    obtain⟨oj,gX,fH⟩:=S_.1 eF;generalize hx:a.tmps.getD d undef=x at hv;cases hv;have mh:d<a.tmps.size:=(ah.tok d _ h1).1;rw[SI,SJ mh]at hx;simp only[S8]at hx;simp[yielded,gX,fH,SJ mh,hx]
   have pw:∀b',b=b'->At E V ⟨(d,.val (.bool b'))::s.T,s.H⟩ a nt:=λb' dq=>by
    subst dq;refine⟨ah.bm,λt x e=> ?_,ah.size⟩;simp only[look]at e;split at e
    ·rename_i e';subst e';cases e;exact ah.tok d _ h1
    ·exact ah.tok t x e
   by_cases hb:b=bJ
   ·have hw:Tc all[k] (yielded all a.tmps)=true:=(by unfold Tc;rw[hg];simp[hy,hb]);rw[if_pos hw];exact .inl (go _ (pw bJ hb) (h2 hb))
   ·have hw:¬Tc all[k] (yielded all a.tmps)=true:=(by unfold Tc;rw[hg];simp[hy,hb]);rw[if_neg hw];have dq:b= !bJ:=(by cases b<;>cases bJ<;>simp_all);have vJ:=h3 dq;have ah:=pw _ dq;exact GA cR nB n (k+1) ((⟨(d,.val (.bool !bJ))::s.T,s.H⟩:AS).put all[k].dst (.val undef)) (by omega) vJ E V (a.put all[k].dst undef) Q
     ⟨by rw[ft];exact ah.bm,ah.tok.gZ (λd e=>by rw[ah.size];exact cR _ fI d e) (.val undef),by rw[dP];exact ah.size⟩
     (λae e bE aP bT b8 fW cQ he hΦ=>hQ ae e bE aP bT b8 ⟨fW.le,fW.size.trans (dP _ _ _),fW.defers.trans (put_defers _ _ _),fW.role,fW.deaf⟩ cQ he hΦ)
theorem mG.mono{o:Tx}{a:Act}{N N':Act->View->Prop}{Q Q':Ex->Act->View->Prop}(hN:∀a V,N a V->N' a V)(hQ:∀ch a V,Q (.panic ch) a V->Q' (.panic ch) a V){nx:Next}{V:View}(h:mG lv P r o a N Q nx V):mG lv P r o a N' Q' nx V:=by
 cases nx with
 |value v=>exact hN _ _ h
 |skip=>exact hN _ _ h
 | «defer» d => exact ⟨h.1, hN _ _ h.2⟩
 |enter f args=>
  refine Body.mono (R:=fun
   |.ret v,V'=>N (a.put o.dst v) V'
   |.panic ch,V'=>Q (.panic ch) a V') (R':=fun
   |.ret v,V'=>N' (a.put o.dst v) V'
   |.panic ch,V'=>Q' (.panic ch) a V') h λot V' h=> ?_
  cases ot
  ·exact hN _ _ h
  ·exact hQ _ _ _ h
 |round l f tmps aG b=>
  refine na.mono (R:=fun
   |.ret v,V'=>N (a.put o.dst v) V'
   |.panic ch,V'=>Q (.panic ch) a V') (R':=fun
   |.ret v,V'=>N' (a.put o.dst v) V'
   |.panic ch,V'=>Q' (.panic ch) a V') h λot V' h=> ?_
  cases ot
  ·exact hN _ _ h
  ·exact hQ _ _ _ h
 |_=>exact h.elim
theorem Aw{ops:Array Tx}{Q:Ex->Act->View->Prop}{l2:List Nat}:∀(l1:List Nat)(a:Act)(V:View),da lv P r ops (Ex.then (da lv P r ops Q l2) Q) l1 a V->da lv P r ops Q (l1++l2) a V
 |[],a,V,h=>h
 |i::l1,a,V,h=>by
  simp only[VE,da]at h⊢;cases ho:ops[i]?with
  |none=>rw[ho]at h;exact Aw l1 a V h
  |some o=>
   rw[ho]at h;dsimp only at h⊢;split at h
   ·rename_i hw;rw[if_pos hw];rcases h with h|h
    rotate_left
    ·exact .inr (h.mono λa V h=>Aw l1 a V h)
    obtain⟨h1,h2⟩:=h;exact .inl ⟨h1,h2.mono (λnx V' h=>mG.mono (λa V h=>Aw l1 a V h) (λ_ _ _ h=>h) h) λ_ _ h=>h⟩
   ·rename_i hw;rw[if_neg hw];exact Aw l1 _ V h
def wM (E:Env):List (AV×List AV)->List UX->Prop
 |[],[]=>True
 |c::ds,d::l=>yw E c d/\wM E ds l
 |_,_=>False
theorem wM.mono{E E':Env}(h:E.Le E'):∀{ds:List (AV×List AV)}{l:List UX},wM E ds l->wM E' ds l
 |[],[],_=>trivial
 |_::_,_::_,k=>⟨k.1.mono h,wM.mono h k.2⟩
 |[],_::_,k=>k.elim
 |_::_,[],k=>k.elim
structure qL (E E':Env)(V V':View)(a a':Act):Prop where
 le:E.Le E'
 size:a'.tmps.size=a.tmps.size
 role:V'.role=V.role
 deaf:V'.deaf=V.deaf
theorem qL.trans{E E' bE:Env}{V V' aP:View}{a a' bT:Act}(h:qL E E' V V' a a')(k:qL E' bE V' aP a' bT):qL E bE V aP a bT:=⟨h.le.trans k.le,k.size.trans h.size,k.role.trans h.role,k.deaf.trans h.deaf⟩
theorem Kept.d{E E':Env}{V V':View}{a a':Act}(h:Kept E E' V V' a a'):qL E E' V V' a a':=⟨h.le,h.size,h.role,h.deaf⟩
def Ay (lv:Bool)(P:SK)(nt:Nat)(c:T7)(s:AS)(ds:List (AV×List AV))(Φ:ao->AS->List (AV×List AV)->Prop):Prop:=
 ∀(E:Env)(V:View)(a:Act)(Q:Ex->Act->View->Prop),At E V s a nt->wM E ds a.defers->(∀ae e E' V' a' s' nk,qL E E' V V' a a'->At E' V' s' a' nt->wM E' nk a'.defers->pI E' ae e->Φ ae s' nk->Q e a' V')->WP lv P none c Q a V
def ao.wG (next:AS->List (AV×List AV)->Prop)(Φ:ao->AS->List (AV×List AV)->Prop):ao->AS->List (AV×List AV)->Prop
 |.normal,s,ds=>next s ds
 |e,s,ds=>Φ e s ds
theorem afe{nt id n:Nat}{ops:Array Tx}{o:Tx}{c:Xq}{x:Tl}{ds:List (AV×List AV)}{Φ:ao->AS->List (AV×List AV)->Prop}(hn:ops.size=n+1)(ho:ops[n]?=some o)(hg:o.guard=none)(au:o.op=.defer c)(aY:c.callee=.value x)
  (cR:(ops.all λo=>o.dst.all (·<nt))=true)
  (h:h_ lv P ops (ops.toList.take n) s (λs'=>ap (s'.ev x) λf=>ap (fl s' c.args.toList) λaG=>(∃g first cV,f=.fn (.func g) first cV)/\Φ .normal (s'.put o.dst (.val undef)) ((f,aG)::ds)) (λpv s'=>Φ (.panic pv) s' ds)):Ay lv P nt (.region id ops false) s ds Φ:=by
 intro E V a Q ah hd hQ;refine wp_region ?_;have hr:S0 ops.size=T4 0 n++[n]:=by
  have:=Y7 (s:=0) (m:=n) (n:=1);rw[Vo,hn,<- this];simp
 rw[hr];have QT:∀o∈ops,∀d,o.dst=some d->d<nt:=λo ho d e=>by
  have:=(UE.1 cR) o ho;rw[e]at this;simpa using this
 refine Aw _ _ _ (GA (r:=none) (Φ:=λe s'=>match e with
  |.normal=>ap (s'.ev x) λf=>ap (fl s' c.args.toList) λaG=>(∃g first cV,f=.fn (.func g) first cV)/\Φ .normal (s'.put o.dst (.val undef)) ((f,aG)::ds)
  |e=>Φ e s' ds) QT rfl n 0 s (by omega) (by simpa using h) E V a _ ah λae e E' V' a' s' hk aQ he hΦ=> ?_)
 cases ae<;>cases e<;>first
  |exact he.elim
  |exact hQ _ _ E' V' a' s' ds hk.d aQ (by rw[hk.defers];exact hd.mono hk.le) he hΦ
  |skip
 obtain⟨f,h1,hA⟩:=ap.out hΦ;obtain⟨aG,h2,⟨g,first,cV,rfl⟩,hB⟩:=hA.out;simp only[Ex.then,da,ho];rw[if_pos (by unfold Tc;rw[hg])];refine .inl ⟨.inl rfl,?_⟩;unfold execOp;rw[au];dsimp only;unfold resolve;rw[aY];dsimp only;have bz:=aq.ev aQ.tok h1;generalize cr:a'.eval x=cv at bz;cases bz with
 |fn dD fY q1 q2=>
  rename_i fa ca;unfold U3;refine az (ay (ay ?_));refine⟨rfl,?_⟩;have fI:o∈ops:=W5 ho;have e:c.args.map a'.eval=(c.args.toList.map a'.eval).toArray:=by apply VC;simp
  refine hQ .normal .normal E' V' _ (s'.put o.dst (.val undef)) ((.fn (.func g) first cV,aG)::ds) ⟨hk.le,(dP _ _ _).trans hk.size,hk.role,hk.deaf⟩ ⟨by rw[ft];exact aQ.bm,aQ.tok.gZ (a:={a' with defers:=⟨.fn (.func g) ca,fa++c.args.map a'.eval⟩::a'.defers}) (λd e=>by rw[aQ.size];exact QT o fI d e) (.val _),(dP _ _ _).trans aQ.size⟩ ?_ trivial hB;rw[put_defers];refine⟨⟨g,first,cV,fa,ca,_,rfl,rfl,⟨dD,q1⟩,⟨fY,q2⟩,?_⟩,by rw[hk.defers];exact hd.mono hk.le⟩;rw[e];exact yY aQ.tok h2
theorem Ol{nt id n:Nat}{ops:Array Tx}{o:Tx}{c:Xq}{x:Tl}{ds:List (AV×List AV)}{Φ:ao->AS->List (AV×List AV)->Prop}(hn:ops.size=n+1)(ho:ops[n]?=some o)(hg:o.guard=none)(aS:o.dst=none)(au:o.op=.defer c)(aY:c.callee=.value x)
  (cR:(ops.all λo=>o.dst.all (·<nt))=true)
  (h:h_ lv P ops (ops.toList.take n) s (λs'=>ap (s'.ev x) λf=>ap (fl s' c.args.toList) λaG=>(∃g first cV,f=.fn (.func g) first cV)/\Φ .normal s' ((f,aG)::ds)) (λpv s'=>Φ (.panic pv) s' ds)):Ay lv P nt (.region id ops false) s ds Φ:=by
 refine afe hn ho hg au aY cR ?_;rw[aS];exact h
end
section
variable {lv:Bool}{P:SK}
theorem abI{rs:List UM}{fn:YD}{n nt:Nat}{k kp:AV->List aa->Prop}{E E':Env}{V V':View}{s':AS}{a':Act}(hr:fn.results=rs.toArray)(ah:At E' V' s' a' nt)(hle:E.Le E')(hn:E.n=n)(bY:V'.role=V.role)(eQ:V'.deaf=V.deaf)(hΦ:ap (g_ P s' rs) λl=>cw n s'.H (iU l) k):
  ∃v,aR P V' (results fn a'.tmps) (λx aP=>x=v/\aP=V') (λ_ _=>False)/\gO E V k kp (.ret v) V':=by
 obtain⟨l,h1,h2⟩:=hΦ.out;have gA:∃v,aq E' (iU l) v/\aR P V' (results fn a'.tmps) (λx aP=>x=v/\aP=V') (λ_ _=>False):=by
  obtain⟨vs,hl,lT,xL⟩:=GV ah rs l h1;refine⟨if h:vs.length=1 then vs[0]else .tuple vs.toArray,?_,?_⟩
  ·match l,vs,hl,lT with
   |[x],[v],_,lT=>exact lT 0 x rfl
   |[],[],_,lT=>exact .aJ rfl (by simp)
   |x::y::l,v::w::vs,hl,lT=>exact .aJ (by simpa using hl) (λi z hz=>by simpa[SI,SE]using lT i z hz)
  ·unfold results;rw[hr,X4];refine az ?_;refine az (xL ?_);refine ay (ay ⟨?_,rfl⟩);simp
 obtain⟨v,bp,qn⟩:=gA;obtain⟨b,bE,H',q1,q2,q3,q4⟩:=xb h2 ah.bm bp hle hn;exact⟨v,qn,b,bE,H',q1,bY,eQ,q2,q3,q4⟩
def yA (lv:Bool)(P:SK)(rs:List UM)(n:Nat)(k kp:AV->List aa->Prop):ao->AS->List (AV×List AV)->Prop
 |.normal,s,[]|.ret,s,[]=>ap (g_ P s rs) λl=>cw n s.H (iU l) k
 |.panic pv,s,[]=>cw n s.H pv kp
 |.normal,s,[c]|.ret,s,[c]=>qI lv P c s.H none (λH'=>ap (g_ P ⟨s.T,H'⟩ rs) λl=>cw n H' (iU l) k) (λ_=>False)
 |.panic pv,s,[c]=>qI lv P c s.H (some pv) (λH'=>ap (g_ P ⟨s.T,H'⟩ rs) λl=>cw n H' (iU l) k) (λH'=>cw n H' pv kp)
 |_,_,_=>False
theorem yx.mono{g:TN}{args:Array SO}{md:U9}{V:View}{R R':U9->View->Prop}(h:yx lv P g args md V R)(hr:∀m V,R m V->R' m V):yx lv P g args md V R':=λmain J C fr cs hm hR=>h main J C fr cs hm λnR V' r=>hR nR V' (hr _ _ r)
@[congr] theorem asx {nt : Nat} {c : T7} {s s' : AS} {ds nk : List (AV × List AV)} {Φ : ao -> AS -> List (AV × List AV) -> Prop} (h : s = s') (hd : ds = nk) : Ay lv P nt c s ds Φ = Ay lv P nt c s' nk Φ := by rw [h, hd]
theorem aqX(K:AS->List (AV×List AV)->Prop)(Φ:ao->AS->List (AV×List AV)->Prop)(s:AS)(ds:List (AV×List AV)):ao.wG K Φ .normal s ds=K s ds:=by rw[ao.wG]
theorem aqZ(K:AS->List (AV×List AV)->Prop)(Φ:ao->AS->List (AV×List AV)->Prop)(s:AS)(ds:List (AV×List AV)):ao.wG K Φ .ret s ds=Φ .ret s ds:=by rw[ao.wG];simp
theorem aqY(K:AS->List (AV×List AV)->Prop)(Φ:ao->AS->List (AV×List AV)->Prop)(a:AV)(s:AS)(ds:List (AV×List AV)):ao.wG K Φ (.panic a) s ds=Φ (.panic a) s ds:=by rw[ao.wG];simp
@[congr] theorem atl {K : AS -> List (AV × List AV) -> Prop} {Φ : ao -> AS -> List (AV × List AV) -> Prop} {e e' : ao} {s s' : AS} {ds nk : List (AV × List AV)} (he : e = e') (h : s = s') (hd : ds = nk) : ao.wG K Φ e s ds = ao.wG K Φ e' s' nk := by rw [he, h, hd]
@[congr] theorem asL {rs : List UM} {n : Nat} {k kp : AV -> List aa -> Prop} {e e' : ao} {s s' : AS} {ds nk : List (AV × List AV)} (he : e = e') (h : s = s') (hd : ds = nk) : yA lv P rs n k kp e s ds = yA lv P rs n k kp e' s' nk := by rw [he, h, hd]
theorem aiC(rs:List UM)(n:Nat)(k kp:AV->List aa->Prop)(s:AS):yA lv P rs n k kp .ret s []=ap (g_ P s rs) λl=>cw n s.H (iU l) k:=by rw[yA]
theorem aiB(rs:List UM)(n:Nat)(k kp:AV->List aa->Prop)(s:AS)(pv:AV):yA lv P rs n k kp (.panic pv) s []=cw n s.H pv kp:=by rw[yA]
attribute [seval] aqX aqZ aqY aiC aiB
end
section
variable {P:SK}
theorem acH{ι:Type}{body:ι->PUnit->Sem (ForInStep PUnit)}:∀(l:List ι),(∀i∈l,cD P (body i ⟨⟩) (.yield ⟨⟩))->cD P (forIn l ⟨⟩ body) ⟨⟩
 |[],_=>by simpa using iA PUnit.unit
 |i::l,h=>by
  rw[W3];exact lB (h i (TC ..)) (acH l λj hj=>h j (Ta _ hj))
theorem aqH{t:TypeId}{k0 k:TU}{d:Nat}{b:Bool}{x:Int}(h:P.underlying t=some (.int k0)):cD P (Vb b (d+1) t (.int k x)) ():=by
 rw[Vb];exact wF h (iA _)
theorem acG{t e:TypeId}{k0 k:TU}{n d:Nat}{i:Wl}{b:Bool}{xs:List Int}(ht:P.underlying t=some (.array n e))(he:P.underlying e=some (.int k0))(hi:P.info? e=some i)(hs:i.size=1)(hx:xs.length=n):
  cD P (Vb b (d+2) t (.agg (xs.map (SG k)).toArray)) ():=by
 rw[Vb];refine wF ht ?_;dsimp only;simp only[Ww,Xu];refine lB (a:=⟨⟩) ?_ (iA _);refine acH _ λj hj=> ?_;have hn:(n-0+1-1)/1=n:=by simp
 have o_:j<n:=by rw[hn]at hj;simp[X0]at hj;omega
 have gx:xs[j]?=some (xs[j]'(by omega)):=SP _;refine M9 hi ?_;rw[hs,ZP];refine Dc he rfl (v:=.int k (xs[j]'(by omega))) (by simp[gx]) ?_;exact lB (aqH he) (iA _)
def eI (x:List Int×Nat):Wm:={key:=.agg (x.1.map (SG .i64)).toArray,val:=.bool true,born:=x.2}
def pX (x:List Int):List (List Int×Nat)->Nat->Option (Nat×SO)
 |[],_=>none
 |y::ts,i=>if x==y.1 then some (i,.bool true)else pX x ts (i+1)
theorem acJ{t e:TypeId}{k0:TU}{n:Nat}{i:Wl}{x:List Int}(ht:P.underlying t=some (.array n e))(he:P.underlying e=some (.int k0))(hi:P.info? e=some i)(hs:i.size=1)(hx:x.length=n):∀(ts:List (List Int×Nat))(j:Nat),(∀y∈ts,y.1.length=n)->
  cD P (XI t (.agg (x.map (SG .i64)).toArray) (ts.map eI) j) (pX x ts j)
 |[],j,_=>by rw[List.map_nil,XI,pX];exact iA _
 |y::ts,j,h=>by
  rw[UW,XI,pX];refine lB (acI ht he hi hs hx (h y (TC ..))) ?_;by_cases we:(x==y.1)=true
  ·rw[if_pos we,if_pos we];exact iA _
  ·rw[if_neg we,if_neg we];exact acJ ht he hi hs hx ts (j+1) λz hz=>h z (Ta _ hz)
theorem acK{t e:TypeId}{k0:TU}{n:Nat}{i:Wl}{x:List Int}(ht:P.underlying t=some (.array n e))(he:P.underlying e=some (.int k0))(hi:P.info? e=some i)(hs:i.size=1)(hx:x.length=n){ts:List (List Int×Nat)}(h:∀y∈ts,y.1.length=n):
  cD P (VN t (.agg (x.map (SG .i64)).toArray) (ts.map eI)) (pX x ts 0):=by
 unfold VN;refine wF ht ?_;cases ts with
 |nil=>exact iA _
 |cons y ts=>
  have e1:Instr.findNow (.array n e) (.agg (x.map (SG .i64)).toArray) ((y::ts).map eI) 0=none:=rfl;rw[e1];exact acJ ht he hi hs hx (y::ts) 0 h
theorem PI{x:List Int}:∀{ts:List (List Int×Nat)}{j i:Nat}{v:SO},pX x ts j=some (i,v)->∃b,j<=i/\ts[i-j]?=some (x,b)/\v=.bool true
 |y::ts,j,i,v,h=>by
  rw[pX]at h;split at h
  ·rename_i we;cases h;obtain⟨y1,b⟩:=y;have:x=y1:=(by simpa using we);subst this;exact⟨b,SU _,by simp,rfl⟩
  ·obtain⟨b,h1,h2,h3⟩:=PI h;refine⟨b,by omega,?_,h3⟩;have:i-j=(i-(j+1))+1:=(by omega);rw[this,UH];exact h2
theorem PH{x:List Int}:∀{ts:List (List Int×Nat)}{j:Nat},pX x ts j=none->∀y∈ts,y.1≠x
 |y::ts,j,h,z,hz=>by
  rw[pX]at h;split at h
  ·cases h
  ·rename_i we;rcases SL.1 hz with rfl|hz
   ·intro e;exact we (by simp[e])
   ·exact PH h z hz
end
theorem apx(xs:List Int):WB 10000 (.agg (xs.map (SG .i64)).toArray) (.agg (xs.map (SG .i64)).toArray)=true:=by
 show WB (9999+1) _ _=true;rw[WB];simp only[beq_self_eq_true,U5,Tv]
 rintro⟨a,b⟩ h
 have:a=b/\a∈xs.map (SG .i64):=by
  have key:∀l:List SO,(a,b)∈l.zip l->a=b/\a∈l:=by
   intro l;induction l with
   |nil=>intro h;cases h
   |cons x l ih=>
    intro h;rw[List.zip_cons_cons]at h;rcases SL.1 h with h|h
    ·cases h;exact⟨rfl,TC ..⟩
    ·exact⟨(ih h).1,Ta _ (ih h).2⟩
  exact key _ h
 obtain⟨rfl,hm⟩:=this;obtain⟨x,_,rfl⟩:=Tn.1 hm;simp[WB]
theorem abz(ts:List (List Int×Nat))(ck:Nat)(x:List Int):wB (ts.map eI).toArray ck (.agg (x.map (SG .i64)).toArray) (.bool true) none=.map ((ts++[(x,ck)]).map eI).toArray (ck+1):=by
 simp[wB,eI]
theorem aoe{ts:List (List Int×Nat)}{ck i b:Nat}{x:List Int}{v:SO}(h:ts[i]?=some (x,b)):wB (ts.map eI).toArray ck (.agg (x.map (SG .i64)).toArray) (.bool true) (some (i,v))=.map (ts.map eI).toArray ck:=by
 simp only[wB];congr 1;apply Array.ext_getElem?;intro j;rw[Wj];by_cases hj:i=j
 ·subst hj;rw[if_pos rfl];simp[h,eI]
 ·rw[if_neg hj]
theorem ano(xs:List Int):AV.of (.agg (xs.map (SG .i64)).toArray)=.agg (xs.map iv):=by
 simp only[AV.of,X2];congr 1
theorem OD(ts:List (List Int×Nat))(ck:Nat)(h:∀y∈ts,y.2<ck):((ts.map eI).toArray.all (λe=>decide (e.born>=ck))=false\/(ts.map eI).toArray.isEmpty=true):=by
 cases ts with
 |nil=>right;rfl
 |cons y ts=>
  left;have:=h y (TC ..);simp[eI];omega
theorem CS{α β:Type}(f:α->β):∀{l:List α},(l.map f).Nodup->l.Nodup
 |[],_=>WN
 |x::l,h=>by
  rw[UW,VS]at h;exact VS.2 ⟨λhm=>h.1 (Tn.2 ⟨x,hm,rfl⟩),CS f h.2⟩
theorem abU{ts vs:List (List Int×Nat)}(hv:(vs.map (·.2)).Nodup)(ht:(ts.map (·.2)).Nodup)(lR:∀y∈vs,y∈ts)(dX:∀y∈ts,y.2∈vs.map (·.2)):vs.Perm ts:=by
 have uF:vs.Nodup:=CS _ hv;have ml:ts.Nodup:=CS _ ht;refine(List.perm_ext_iff_of_nodup uF ml).2 λy=>⟨lR y,λhy=> ?_⟩;obtain⟨z,hz,e⟩:=Tn.1 (dX y hy);have Ld:=lR z hz;have:∀(l:List (List Int×Nat)),(l.map (·.2)).Nodup->z∈l->y∈l->z=y:=by
  intro l;induction l with
  |nil=>intro _ h;cases h
  |cons x l ih=>
   intro hn h1 h2;rw[UW,VS]at hn;rcases SL.1 h1 with e1|Jl
   ·rcases SL.1 h2 with e2|zb
    ·rw[e1,e2]
    ·exact absurd (show x.2∈l.map (·.2)from Tn.2 ⟨y,zb,by rw[<- e1];exact e.symm⟩) hn.1
   ·rcases SL.1 h2 with e2|zb
    ·exact absurd (show x.2∈l.map (·.2)from Tn.2 ⟨z,Jl,by rw[<- e2];exact e⟩) hn.1
    ·exact ih hn.2 Jl zb
 rw[<- this ts ht Ld hy];exact hz
theorem PK{y:List Int×Nat}:∀{ts:List (List Int×Nat)},(ts.map (·.2)).Nodup->y∈ts->(ts.map eI).toArray.find? (λe=>e.born==y.2)=some (eI y):=by
 intro ts hn hy;rw[List.find?_toArray];induction ts with
 |nil=>cases hy
 |cons z ts ih=>
  rw[UW,VS]at hn;rw[UW];by_cases h:z.2=y.2
  ·rw[List.find?_cons_of_pos (by simp[eI,h])];rcases SL.1 hy with e|pt
   ·rw[e]
   ·exact absurd (show z.2∈ts.map (·.2)from Tn.2 ⟨y,pt,h.symm⟩) hn.1
  ·rw[List.find?_cons_of_neg (by simp[eI,h])];rcases SL.1 hy with e|pt
   ·exact absurd (by rw[e]) h
   ·exact ih hn.2 pt
theorem abc(y:List Int×Nat):AV.of (eI y).key=.agg (y.1.map iv):=ano y.1
section
variable {lv:Bool}{P:SK}
theorem apB{l:Nat}{r:asI}{V:View}(ho:V.own l=some (.loop r))(hs:r.state=.ready)(hc:V.role.chan≠some l):aR P V (do XJ l;pure Next.skip) (λnx V'=>nx=.skip/\V'=V.upd l (.loop {r with state:=.busy})) (λ_ _=>False):=by
 unfold XJ WJ;refine az (az (az ?_));unfold getObj;refine nV ho rfl rfl hc (cM ?_);dsimp only;refine ay ?_;refine az ?_;unfold setObj;refine yk ho rfl rfl hc (cM ?_);rw[hs];exact ay (ay ⟨rfl,rfl⟩)
theorem apF{l:Nat}{r:asI}{V:View}(pu:Option T7)(ho:V.own l=some (.loop r))(hc:V.role.chan≠some l):aR P V (W7 l pu) (λv V'=>v=.bool pu.isNone/\V'=V.upd l (.loop {r with state:=if pu.isNone then .ready else .done,pending:=pu})) (λ_ _=>False):=by
 unfold W7 WJ;refine az (az ?_);unfold getObj;refine nV ho rfl rfl hc (cM ?_);dsimp only;refine ay ?_;refine az ?_;unfold setObj;refine yk ho rfl rfl hc (cM ?_);exact ay ⟨rfl,rfl⟩
theorem apE{l:Nat}{r:asI}{V:View}(ho:V.own l=some (.loop r))(hs:r.state≠ .busy)(hc:V.role.chan≠some l):aR P V (ZN l) (λv V'=>v=r.pending/\V'=V.upd l (.loop {r with state:=.exhausted})) (λ_ _=>False):=by
 unfold ZN WJ;refine az (az ?_);unfold getObj;refine nV ho rfl rfl hc (cM ?_);dsimp only;refine ay ?_;have:(r.state==asg)=false:=by simpa using hs
 rw[if_neg (by rw[this];simp)];refine az ?_;unfold setObj;refine yk ho rfl rfl hc (cM ?_);exact ay ⟨rfl,rfl⟩
theorem apG{fn:TN}{tmps:Array SO}{ps:Array Tmp}{bM body:T7}{V:View}:aR P V (WZ fn tmps ps bM body none) (λx V1=>∃d l,V.fresh d/\(V.upd d (.deferred (some []))).fresh l/\x=(l,[{target:=.collected d,args:=#[]}])/\
  V1=(V.upd d (.deferred (some []))).upd l (.loop {state:=.ready,pending:=none,fn,tmps,params:=ps,assign:=bM,body,defers:=d})) (λ_ _=>False):=by
 unfold WZ;dsimp only;refine az ?_;unfold newObj;refine oI λd hd=>cM ?_;refine az (ay ?_);dsimp only;refine az (oI λl hl=>cM (ay ?_));exact⟨d,l,hd,hl,rfl,rfl⟩
theorem MW{d:Nat}{V:View}(ho:V.own d=some (.deferred (some [])))(hc:V.role.chan≠some d):aR P V (Y4 d) (λv V'=>v=[]/\V'=V.upd d (.deferred none)) (λ_ _=>False):=by
 unfold Y4;refine az ?_;unfold getObj;refine nV ho rfl rfl hc (cM ?_);dsimp only;refine az ?_;unfold setObj;refine yk ho rfl rfl hc (cM ?_);exact ay ⟨rfl,rfl⟩
def adB (l:Nat)(R:Out->View->Prop):Ex->Act->View->Prop
 |.normal,_,V=>∃r,V.own l=some (.loop r)/\V.role.chan≠some l/\R (.ret (.bool true)) (V.upd l (.loop {r with state:=.ready,pending:=none}))
 |.ret,_,V=>∃r,V.own l=some (.loop r)/\V.role.chan≠some l/\R (.ret (.bool false)) (V.upd l (.loop {r with state:=.done,pending:=some .ret}))
 |.exit i,_,V=>∃r,V.own l=some (.loop r)/\V.role.chan≠some l/\R (.ret (.bool false)) (V.upd l (.loop {r with state:=.done,pending:=some (.exit i)}))
 |.goto i,_,V=>∃r,V.own l=some (.loop r)/\V.role.chan≠some l/\R (.ret (.bool false)) (V.upd l (.loop {r with state:=.done,pending:=some (.goto i)}))
 |.panic ch,a,V=>a.defers=[]/\R (.panic ch) V
def adz (lv:Bool)(P:SK)(l:Nat)(body:T7)(R:Out->View->Prop):Ex->Act->View->Prop
 |.normal,a,V=>∃r,V.own l=some (.loop r)/\V.role.chan≠some l/\r.state=.ready/\WP lv P (some l) body (adB l R) a (V.upd l (.loop {r with state:=.busy}))
 |_,_,_=>False
theorem aph{l f:Nat}{tmps:Array SO}{bM body:T7}{V:View}{R:Out->View->Prop}(h:WP lv P (some l) bM (adz lv P l body R) {tmps,defers:=[]} V):na lv P (Xb l f tmps bM body .normal) V R:=by
 intro main J C c cs h1 h2;let b:T8:={(default:T8)with fn:=f,kind:=.normal,roundOf:=some l};have akZ:Xb l f tmps bM body .normal=on b {tmps,defers:=[]} [.code bM,.beginRound,.code body]:=rfl;rw[akZ];have leave:∀(a:Act)(V':View)(r:asI)(pu:Option T7)(todo:List WW),V'.own l=some (.loop r)->V'.role.chan≠some l->R (.ret (.bool pu.isNone)) (V'.upd l (.loop {r with state:=if pu.isNone then .ready else .done,pending:=pu}))->
   (∀w,stepG P main (G (on b a todo) (c::cs)) w=TZ (seen P b.fn ((W7 l pu).runT P w #[]).2) (match((W7 l pu).runT P w #[]).1 with
    |.ok v w=>doReturn P main (on b a todo) (c::cs) none v w
    | .halt _ w => .ended (.stuck "range over a function: no such loop" ((on b a todo).pos P)) w)) -> J V' (G (on b a todo) (c :: cs)) := by
  intro a V' r pu todo ho fe hR aT;refine C.step _ _ rfl λw fB=> ?_;obtain⟨es,w',aP,k1,k2,k3⟩:=(apF (P:=P) pu ho fe).runs fB;rcases k3 with⟨v,k3,rfl,rfl⟩|⟨_,_,hx⟩
  ·refine⟨G (c.finish (.bool pu.isNone)) cs,w',seen P b.fn es,_,?_,k1.seen P b.fn,h1 _ _ hR⟩;rw[aT w];simp[TB,k3,k2,doReturn,TZ,on,b,G]
  ·exact hx.elim
 refine h main J C b [.beginRound,.code body] (c::cs) (by show Y6≠U7;decide) rfl λe a' V' q=> ?_;cases e with
 |normal=>
  obtain⟨r,ho,fe,hs,hw⟩:=q;refine C.step _ _ rfl λw fB=> ?_;obtain⟨es,w',aP,k1,k2,k3⟩:=(apB (P:=P) ho hs fe).runs fB;rcases k3 with⟨nx,k3,rfl,rfl⟩|⟨_,_,hx⟩
  ·refine⟨G (on b a' [.code body]) (c::cs),w',seen P b.fn es,_,?_,k1.seen P b.fn,?_⟩
   ·have:stepG P main (G (on b a' [.beginRound,.code body]) (c::cs)) w=stepG.apply P true (on b a' [.beginRound,.code body]) (c::cs) none (do XJ l;pure Next.skip) w:=by
     simp[G,stepG,Ub,on,b]
    rw[this];have jW:((on b a' [.beginRound,.code body]).kind==U7)=false:=(by simp[on,b]);simp only[stepG.apply,TB,if_true,k3,k2,jW,TZ];rfl
   ·refine hw main J C b [] (c::cs) (by show Y6≠U7;decide) rfl λe bT aP q=> ?_;cases e with
    |normal=>
     obtain⟨r',aO,nA,hR⟩:=q;refine leave bT aP r' none [] aO nA hR λw=> ?_;simp[G,stepG,Ub,on,b];rfl
    |ret=>
     obtain⟨r',aO,nA,hR⟩:=q;intro k;refine leave bT aP r' (some .ret) _ aO nA hR λw=> ?_;simp[G,stepG,Ub,on,b];rfl
    |exit i=>
     obtain⟨r',aO,nA,hR⟩:=q;refine .inr ⟨rfl,λk2 ce=> ?_⟩;refine leave bT aP r' (some (.exit i)) _ aO nA hR λw=> ?_;simp[G,stepG,Ub,on,b,ce];rfl
    |goto i=>
     obtain⟨r',aO,nA,hR⟩:=q;refine .inr ⟨rfl,λk2 ce=> ?_⟩;refine leave bT aP r' (some (.goto i)) _ aO nA hR λw=> ?_;simp[G,stepG,Ub,on,b,ce];rfl
    |panic ch=>
     obtain⟨hd,hR⟩:=q;intro todo alc;refine C.idle rfl (λw=> ?_) (h2 _ _ hR);have ajv:ZW P {on b bT todo with mode:=.panicking ch}=false:=by
      unfold ZW
      match todo,alc with
      |.call .. ::_,h=>cases h
      |[],_=>split<;>simp_all[on]
      |x::k,_=>cases x<;>(split<;>simp_all[on,aaT])
     have bz:({on b bT todo with mode:=.panicking ch}:T8).defers=[]:=hd;simp only[G,stepG,unwind,bz,ajv];simp
  ·exact hx.elim
 |_=>exact q.elim
def mark (a:Act)(d:Nat):Act:={a with defers:={target:=.collected d,args:=#[]}::a.defers}
def wR (l:Nat)(Q:Ex->Act->View->Prop)(a:Act):Out->View->Prop
 |.ret _,V=>∃r,V.own l=some (.loop r)/\V.role.chan≠some l/\r.state≠ .busy/\(match r.pending with
  |none=>Q .normal a (V.upd l (.loop {r with state:=.exhausted}))
  |some .ret=>Q .ret a (V.upd l (.loop {r with state:=.exhausted}))
  |some (.exit i)=>Q (.exit i) a (V.upd l (.loop {r with state:=.exhausted}))
  |some (.goto i)=>Q (.goto i) a (V.upd l (.loop {r with state:=.exhausted}))
  |_=>False)
 |.panic ch,V=>Q (.panic ch) a V
abbrev DO (l d:Nat)(Q:Ex->Act->View->Prop)(a:Act):Out->View->Prop:=wR l Q (mark a d)
theorem abF{rr:Option Nat}{f:Tl}{ps:Array Tmp}{bM body:T7}{Q:Ex->Act->View->Prop}{a a1:Act}{V1:View}{l:Nat}{main:Bool}{J:View->SH->Prop}(C:Closed lv P main J){b:T8}{k:List WW}{cs:List T8}(hb:b.kind≠ .early)(hr:b.roundOf=rr)(hL:∀e a' V',Q e a' V'->vf J b k cs e a' V'){w w1:Tq}{es:Array Uq}{V:View}
  (h:aR P V1 (do let dd<- U3 (a.eval f) #[.func (.yield l) #[] #[]];invoke dd.target dd.args) (λnx V'=>Nx lv P (wR l Q a1) nx V') (λv V'=>wR l Q a1 (.panic [{v,recovered:=false}]) V'))
  (s1:dj V w V1 w1 (fL es)) (aT:stepG P main (G (on b a (.code (.rangeFunc f ps bM body)::k)) cs) w=TZ (seen P b.fn es) (stepG.apply P true (on b a1 (.inRangeFunc l::k)) cs none (do let dd<- U3 (a.eval f) #[.func (.yield l) #[] #[]];invoke dd.target dd.args) w1)):
  ∃g' w' es V',stepG P main (G (on b a (.code (.rangeFunc f ps bM body)::k)) cs) w=.go g' w' es/\dj V w V' w' es/\J V' g':=by
 have fin:∀(v:SO)(V':View),wR l Q a1 (.ret v) V'->J V' (G (on b a1 (.endRangeFunc l::k)) cs):=by
  intro v V' ⟨r,ho,fe,hs,hq⟩;refine C.step _ _ rfl λw fB=> ?_;obtain⟨es,w',aP,k1,k2,k3⟩:=(apE (P:=P) ho hs fe).runs fB;rcases k3 with⟨x,k3,rfl,rfl⟩|⟨_,_,hx⟩
  ·refine⟨G (on b a1 ((r.pending.map Item.code).toList++k)) cs,w',seen P b.fn es,_,?_,k1.seen P b.fn,?_⟩
   ·simp[G,stepG,Ub,on,TB,k3,k2,TZ]
   ·generalize r.pending=pe at hq⊢
    match pe,hq with
    |none,hq=>exact hL _ _ _ hq
    |some .ret,hq=>exact hL _ _ _ hq _
    |some (.exit i),hq=>exact aad C (hL _ _ _ hq)
    |some (.goto i),hq=>exact alx C (hL _ _ _ hq)
  ·exact hx.elim
 obtain⟨nm,w2,V2,t1,t2,t3⟩:=h.runs s1.sat;have jW:((on b a1 (.inRangeFunc l::k)).kind==U7)=false:=by simpa[on]using hb
 rw[aT];rcases t3 with⟨nx,t3,hU⟩|⟨v,t3,hU⟩
 ·cases nx with
  |value v=>exact⟨_,w2,seen P b.fn es++seen P b.fn nm,V2,by simp only[stepG.apply,TB,if_true,t3,t2,jW,TZ];rfl,(s1.seen P _).trans (t1.seen P _),fin v _ hU⟩
  |skip=>exact⟨_,w2,seen P b.fn es++seen P b.fn nm,V2,by simp only[stepG.apply,TB,if_true,t3,t2,jW,TZ];rfl,(s1.seen P _).trans (t1.seen P _),fin undef _ hU⟩
  |enter g args=>
   refine⟨G (Frame.enter P g args .normal) (on b a1 (.inRangeFunc l::k)::cs),w2,seen P b.fn es++seen P b.fn nm,V2,by simp only[stepG.apply,TB,if_true,t3,t2,jW,TZ];rfl,(s1.seen P _).trans (t1.seen P _),?_⟩;refine Body.runs hU main J C _ cs (λv aP hR=> ?_) (λch aP hR=> ?_)
   ·exact fin v _ hR
   ·exact hL _ _ _ hR _ rfl
  |round l2 f2 arb as2 b2=>
   refine⟨G (Xb l2 f2 arb as2 b2 .normal) (on b a1 (.inRangeFunc l::k)::cs),w2,seen P b.fn es++seen P b.fn nm,V2,by simp only[stepG.apply,TB,if_true,t3,t2,jW,TZ];rfl,(s1.seen P _).trans (t1.seen P _),?_⟩;refine hU main J C _ cs (λv aP hR=> ?_) (λch aP hR=> ?_)
   ·exact fin v _ hR
   ·exact hL _ _ _ hR _ rfl
  |_=>exact hU.elim
 ·exact⟨_,w2,seen P b.fn es++seen P b.fn nm,V2,by simp only[stepG.apply,TB,if_true,t3,t2,jW,TZ];rfl,(s1.seen P _).trans (t1.seen P _),hL _ _ _ hU _ rfl⟩
theorem adk{f:Tl}{ps:Array Tmp}{bM body:T7}{Q:Ex->Act->View->Prop}{a:Act}{V:View}
  (h:∀(fn d l:Nat),V.fresh d->(V.upd d (.deferred (some []))).fresh l->aR P ((V.upd d (.deferred (some []))).upd l (.loop {state:=.ready,pending:=none,fn,tmps:=a.tmps,params:=ps,assign:=bM,body,defers:=d}))
   (do let dd<- U3 (a.eval f) #[.func (.yield l) #[] #[]];invoke dd.target dd.args) (λnx V'=>Nx lv P (DO l d Q a) nx V') (λv V'=>DO l d Q a (.panic [{v,recovered:=false}]) V')):WP lv P none (.rangeFunc f ps bM body) Q a V:=by
 intro main J C b k cs hb hr hL;refine C.step _ _ rfl λw fB=> ?_;obtain⟨es,w1,V1,s1,s2,s3⟩:=(apG (P:=P) (fn:=b.fn) (tmps:=a.tmps) (ps:=ps) (bM:=bM) (body:=body)).runs fB;rcases s3 with⟨x,s3,d,l,hd,hl,rfl,rfl⟩|⟨_,_,hx⟩
 ·refine abF C hb hr hL (h b.fn d l hd hl) s1 ?_;have cr:∀(todo:List WW)(x:Tl),(on b (mark a d) todo).eval x=a.eval x:=λtodo x=>by rw[Gy];cases x<;>rfl
  have e:=cr (.inRangeFunc l::k) f;have e2:=cr (.inRangeFunc l::k) (.const (.func (.yield l) #[] #[]));simp only[on,mark]at e e2;simp[G,stepG,Ub,on,TB,s3,s2,hr,mark,resolve];rw[hr]at e;rw[e];rfl
 ·exact hx.elim
theorem apI{fn:TN}{tmps:Array SO}{ps:Array Tmp}{bM body:T7}{V:View}{l0:Nat}{r0:asI}(ho:V.own l0=some (.loop r0))(hc:V.role.chan≠some l0):aR P V (WZ fn tmps ps bM body (some l0)) (λx V1=>∃l,V.fresh l/\x=(l,[])/\
  V1=V.upd l (.loop {state:=.ready,pending:=none,fn,tmps,params:=ps,assign:=bM,body,defers:=r0.defers})) (λ_ _=>False):=by
 unfold WZ WJ;dsimp only;refine az (az ?_);unfold getObj;refine nV ho rfl rfl hc (cM ?_);dsimp only;refine ay (az (ay ?_));dsimp only;refine az ?_;unfold newObj;refine oI λl hl=>cM (ay ?_);exact⟨l,hl,rfl,rfl⟩
theorem arO{f:Tl}{ps:Array Tmp}{bM body:T7}{Q:Ex->Act->View->Prop}{a:Act}{V:View}{l0:Nat}{r0:asI}(ho:V.own l0=some (.loop r0))(hc:V.role.chan≠some l0)
  (h:∀(fn l:Nat),V.fresh l->aR P (V.upd l (.loop {state:=.ready,pending:=none,fn,tmps:=a.tmps,params:=ps,assign:=bM,body,defers:=r0.defers}))
   (do let dd<- U3 (a.eval f) #[.func (.yield l) #[] #[]];invoke dd.target dd.args) (λnx V'=>Nx lv P (wR l Q a) nx V') (λv V'=>wR l Q a (.panic [{v,recovered:=false}]) V')):WP lv P (some l0) (.rangeFunc f ps bM body) Q a V:=by
 intro main J C b k cs hb hr hL;refine C.step _ _ rfl λw fB=> ?_;obtain⟨es,w1,V1,s1,s2,s3⟩:=(apI (P:=P) (fn:=b.fn) (tmps:=a.tmps) (ps:=ps) (bM:=bM) (body:=body) ho hc).runs fB;rcases s3 with⟨x,s3,l,hl,rfl,rfl⟩|⟨_,_,hx⟩
 ·refine abF C hb hr hL (h b.fn l hl) s1 ?_;have e:=Gy b a (.inRangeFunc l::k) f;simp only[on]at e;simp[G,stepG,Ub,on,TB,s3,s2,hr,resolve];rw[hr]at e;rw[e];rfl
 ·exact hx.elim
theorem Conc.ym{E:Env}{V:View}{H:List aa}(hc:Conc E V H){id r fn nt df:Nat}{st:aa_}{pe:Option T7}{T:List (Nat×AV)}{ps:Array Tmp}{bM body:T7}(hk:H[id]?=some (.loop r st pe fn T nt ps bM body df)):
  E.blk id=r/\V.role.chan≠some r/\∃tmps,V.own r=some (.loop {state:=st,pending:=pe,fn,tmps,params:=ps,assign:=bM,body,defers:=E.blk df})/\tmps.size=nt/\cj E T tmps/\
   ∀st' wA,Conc E (V.upd r (.loop {state:=st',pending:=wA,fn,tmps,params:=ps,assign:=bM,body,defers:=E.blk df})) (H.set id (.loop r st' wA fn T nt ps bM body df)):=by
 obtain⟨⟨tmps,p1,p2,p3⟩,p4,p5,p6⟩:=hc.obj id _ hk;have fe:=(hc.jk hk (b:=E.blk id) rfl).2;subst p6;refine⟨rfl,fe,tmps,p1,p2,p3,λst' wA=> ?_⟩;refine hc.iW id (.loop (E.blk id) st' wA fn T nt ps bM body df) (Env.Le.refl E) hc.I (by simpa using hc.n) lW rfl (λ_ _ _=>rfl) (λb z hb hz=>⟨?_,λ_=>rfl⟩) ⟨⟨tmps,by simp[View.upd],p2,p3⟩,p4,p5,rfl⟩ (λb h=> .inl ⟨_,hk,h⟩);have:b≠E.blk id:=λe=>hb _ hk (by rw[e];rfl);simpa[View.upd,this]using hz
theorem Conc.C8{E:Env}{V:View}{H:List aa}(hc:Conc E V H){id:Nat}(x:aa)(hk:H[id]?=some x)(y:Obj){b:Nat}(hb:bN E id x=some b):Conc E (V.upd b y) (H.set id .gone):=by
 refine hc.iW id .gone (Env.Le.refl E) hc.I (by simpa using hc.n) lW rfl (λ_ _ _=>rfl) (λb' z dq hz=>⟨?_,λ_=>rfl⟩) trivial (λb h=>by cases h);have:b'≠b:=λe=>dq _ hk (by rw[e];exact hb);simpa[View.upd,this]using hz
def sf:List Nat->List AV->List (Nat×AV)->List (Nat×AV)
 |t::ts,a::aG,T=>sf ts aG ((t,a)::T)
 |_,_,T=>T
theorem adp{E:Env}{nt:Nat}:∀(ts:List Nat)(aG:List AV)(vs:List SO)(T:List (Nat×AV))(tmps:Array SO),vs.length=aG.length->(∀(i:Nat) a,aG[i]?=some a->aq E a (vs.getD i undef))->(∀t∈ts,t<nt)->tmps.size=nt->cj E T tmps->
  cj E (sf ts aG T) ((ts.zip vs).foldl (λtmps (x:Nat×SO)=>tmps.setIfInBounds x.1 x.2) tmps)/\((ts.zip vs).foldl (λtmps (x:Nat×SO)=>tmps.setIfInBounds x.1 x.2) tmps).size=nt
 |[],aG,vs,T,tmps,_,_,_,hs,hT=>by cases aG<;>cases vs<;>exact⟨hT,hs⟩
 |t::ts,[],[],T,tmps,_,_,_,hs,hT=>⟨hT,hs⟩
 |t::ts,[],_::_,T,tmps,h,_,_,hs,hT=>by cases h
 |t::ts,_::_,[],T,tmps,h,_,_,hs,hT=>by cases h
 |t::ts,a::aG,v::vs,T,tmps,hl,hd,ht,hs,hT=>by
  have h0:aq E a v:=by simpa using hd 0 a rfl
  have h1:t<tmps.size:=by rw[hs];exact ht t (by simp)
  exact adp ts aG vs ((t,a)::T) (tmps.setIfInBounds t v) (by simpa using hl) (λi x hx=>by simpa using hd (i+1) x (by simpa using hx)) (λx hx=>ht x (by simp[hx])) (by simpa using hs) (hT.put h1 h0)
def oQ (id n:Nat)(k:AV->List aa->Prop)(st':aa_)(wA:Option T7)(b:Bool)(s:AS):Prop:=∃r st pe fn T nt ps bM body df,s.H[id]?=some (.loop r st pe fn T nt ps bM body df)/\cw n (s.H.set id (.loop r st' wA fn T nt ps bM body df)) (.val (.bool b)) k
def adA (id n:Nat)(k kp:AV->List aa->Prop):ao->AS->Prop
 |.normal,s=>oQ id n k .ready none true s
 |.ret,s=>oQ id n k .done (some .ret) false s
 |.exit i,s=>oQ id n k .done (some (.exit i)) false s
 |.goto i,s=>oQ id n k .done (some (.goto i)) false s
 |.panic pv,s=>cw n s.H pv kp
def tT (lv:Bool)(P:SK)(l nt id n:Nat)(body:T7)(k kp:AV->List aa->Prop):ao->AS->Prop
 |.normal,s=>∃pe fn T jl ps bM fw df,s.H[id]?=some (.loop l .ready pe fn T jl ps bM fw df)/\aX lv P (some l) nt body ⟨s.T,s.H.set id (.loop l .busy pe fn T jl ps bM fw df)⟩ (adA id n k kp)
 |_,_=>False
theorem vC{l id fn nt df:Nat}{pe:Option T7}{T:List (Nat×AV)}{ps:Array Tmp}{bM body:T7}{H:List aa}{args:List AV}{k kp:AV->List aa->Prop}(cu:H[id]?=some (.loop l .ready pe fn T nt ps bM body df))(hlen:args.length=ps.size)(rE:ps.all (·<nt)=true)
  (h:bQ H->(∀a∈args,Lt H.length a)->aX lv P (some l) nt bM ⟨sf ps.toList args T,H⟩ (tT lv P l nt id H.length body k kp)):iY lv P (.fn (.yield l) [] []) H args k kp:=by
 intro E V cv vs hc hd o5;cases hd with
 |fn dD fY h1 h2=>
  rename_i fa ca;have e1:fa=#[]:=by apply VC;simpa using dD
  subst e1;have hlt:∀a∈args,Lt H.length a:=λa ha=>by
   obtain⟨i,hi⟩:=pA ha;rw[<- hc.n];exact(o5.2 i a hi).lt
  obtain⟨hb,fe,tmps,ho,aU,hT,_⟩:=hc.ym cu;unfold U3;refine az (ay ?_);unfold invoke;dsimp only;unfold Instr.yield WJ;refine az (az ?_);unfold getObj;refine nV ho rfl rfl fe (cM ?_);dsimp only;refine ay ?_;have lT:(#[]++vs).size=ps.size:=by simp[o5.1,hlen]
  rw[if_neg (by simp[o5.1,hlen])];refine ay ?_;show na lv P _ V (gO E V k kp);have hz:=adp (nt:=nt) ps.toList args vs.toList T tmps (by simpa using o5.1) (λi a e=>by
   have:=o5.2 i a e;simpa[SI,SE]using this) (λt ht=>by
    have:=(UE.1 rE) t (by simpa using ht);simpa using this) aU hT
  have agK:(ps.zip (#[]++vs)).foldl (λtmps (x:Nat×SO)=>tmps.setIfInBounds x.1 x.2) tmps=(ps.toList.zip vs.toList).foldl (λtmps (x:Nat×SO)=>tmps.setIfInBounds x.1 x.2) tmps:=by
   rw[<- Array.foldl_toList,Array.toList_zip];simp
  have agL:Array.foldl (λtmps x=>match x with|(t,a)=>tmps.setIfInBounds t a) tmps (ps.zip (#[]++vs))=(ps.toList.zip vs.toList).foldl (λtmps (x:Nat×SO)=>tmps.setIfInBounds x.1 x.2) tmps:=agK;rw[agL];refine aph ?_;refine h hc.am hlt E V _ _ ⟨hc,hz.1,hz.2⟩ λae e E' V' a' s' hk aQ he hΦ=> ?_;cases ae<;>cases e<;>first
   |exact he.elim
   |exact hΦ.elim
   |skip
  obtain⟨wA,fE,T',jl,gC,gh,fw,gk,aj2,hw⟩:=hΦ;obtain⟨dq,nA,qF,aO,KW,sO,zG⟩:=aQ.bm.ym aj2;refine⟨_,aO,nA,rfl,?_⟩;refine hw E' _ a' _ ⟨zG .busy wA,aQ.tok,aQ.size⟩ λae e bE aP bT b8 ce cQ BZ FY=> ?_;have fin:∀(st':aa_)(GL:Option T7)(b:Bool),(∃r st pe fn T nt ps bM body df,b8.H[id]?=some (.loop r st pe fn T nt ps bM body df)/\cw H.length (b8.H.set id (.loop r st' GL fn T nt ps bM body df)) (.val (.bool b)) k)->
    ∃r,aP.own l=some (.loop r)/\aP.role.chan≠some l/\gO E V k kp (.ret (.bool b)) (aP.upd l (.loop {r with state:=st',pending:=GL})):=by
   intro st' GL b ⟨r,st,pe3,fn3,T3,nt3,MH,ast,asC,df3,aj3,vZ⟩;obtain⟨EQ,ajz,atp,KC,as8,hT3,ak3⟩:=cQ.bm.ym aj3;have hlt:id<E.n:=(by rw[hc.n];exact(SN.1 cu).1);have hle:E.Le bE:=hk.le.trans ce.le;have hr:r=l:=(by rw[<- EQ,<- hb];exact hle.blk id hlt);subst hr;obtain⟨x,E4,H4,q1,q2,q3,q4⟩:=xb vZ (ak3 st' GL) (.val _) hle hc.n;exact⟨_,KC,ajz,x,E4,H4,q1,ce.role.trans hk.role,ce.deaf.trans hk.deaf,q2,q3,q4⟩
  cases ae<;>cases e<;>first
   |exact BZ.elim
   |exact fin .ready none true FY
   |exact fin .done (some .ret) false FY
   |(have e:_=_:=BZ
     subst e;exact fin .done _ false FY)
   |skip
  obtain⟨v,ajy,bp⟩:=BZ;subst ajy;obtain⟨x,E4,H4,q1,q2,q3,q4⟩:=xb FY cQ.bm bp (hk.le.trans ce.le) hc.n;refine⟨by rw[ce.defers,hk.defers],x,v,E4,H4,rfl,q1,ce.role.trans hk.role,ce.deaf.trans hk.deaf,q2,q3,q4⟩
def Marks (E:Env)(ms:List Nat)(l:List UX):Prop:=l=ms.map (λi=>({target:=.collected (E.blk i),args:=#[]}:UX))/\∀i∈ms,i<E.n
theorem Marks.mono{E E':Env}(h:E.Le E'){ms:List Nat}{l:List UX}(k:Marks E ms l):Marks E' ms l:=
 ⟨by rw[k.1];exact VA λi hi=>by rw[h.blk i (k.2 i hi)],λi hi=>Td (k.2 i hi) h.n⟩
def mC (lv:Bool)(P:SK)(nt:Nat)(c:T7)(s:AS)(ms:List Nat)(Φ:ao->AS->List Nat->Prop):Prop:=
 ∀(E:Env)(V:View)(a:Act)(Q:Ex->Act->View->Prop),At E V s a nt->Marks E ms a.defers->(∀ae e E' V' a' s' cH,qL E E' V V' a a'->At E' V' s' a' nt->Marks E' cH a'.defers->pI E' ae e->Φ ae s' cH->Q e a' V')->WP lv P none c Q a V
variable {s:AS}{ms:List Nat}{nt:Nat}
theorem Ia{c:T7}{Φ:ao->AS->List Nat->Prop}(h:aX lv P none nt c s λe s'=>Φ e s' ms):mC lv P nt c s ms Φ:=λE V a Q ah hd hQ=>
 h E V a Q ah λae e E' V' a' s' hk aQ he hΦ=>hQ ae e E' V' a' s' ms hk.d aQ (by rw[hk.defers];exact hd.mono hk.le) he hΦ
def ao.r6 (next:AS->List Nat->Prop)(Φ:ao->AS->List Nat->Prop):ao->AS->List Nat->Prop
 |.normal,s,ms=>next s ms
 |e,s,ms=>Φ e s ms
theorem Ib{x y:T7}{Φ:ao->AS->List Nat->Prop}(h:mC lv P nt x s ms (ao.r6 (λs' cH=>mC lv P nt y s' cH Φ) Φ)):mC lv P nt (.seq x y) s ms Φ:=by
 intro E V a Q ah hd hQ;refine wp_seq (h E V a _ ah hd λae e E' V' a' s' cH hk aQ cq he hΦ=> ?_);cases ae<;>cases e<;>first
  |exact he.elim
  |exact hΦ E' V' a' Q aQ cq λae e bE aP bT b8 CP aE cQ zo kj tj=>hQ ae e bE aP bT b8 CP (hk.trans aE) cQ zo kj tj
  |exact hQ _ _ E' V' a' s' cH hk aQ cq he hΦ
theorem ng{x y:T7}{Φ:ao->AS->List Nat->Prop}(h:aX lv P none nt x s (ao.then (λs'=>mC lv P nt y s' ms Φ) λe s'=>Φ e s' ms)):mC lv P nt (.seq x y) s ms Φ:=by
 refine Ib (Ia (h.mono λe s' hs=> ?_));cases e<;>exact hs
def sv (Φ:ao->AS->List Nat->Prop)(s:AS)(ms:List Nat):Option T7->Prop
 |none=>Φ .normal s ms
 |some .ret=>Φ .ret s ms
 |some (.exit i)=>Φ (.exit i) s ms
 |some (.goto i)=>Φ (.goto i) s ms
 |_=>False
theorem afg{f:Tl}{ps:Array Tmp}{bM body:T7}{fv:AV}{Φ:ao->AS->List Nat->Prop}(hf:s.ev f=some fv)
  (h:∀l fn:Nat,iY lv P fv (s.H++[.obj (.deferred (some [])),.loop l .ready none fn s.T nt ps bM body s.H.length]) [.fn (.yield l) [] []]
   (λ_ H'=>∃st pe fE T' jl gC gh fw gk,H'[s.H.length+1]?=some (.loop l st pe fE T' jl gC gh fw gk)/\st≠ .busy/\sv Φ ⟨s.T,H'.set (s.H.length+1) .gone⟩ (s.H.length::ms) pe)
   (λpv H'=>Φ (.panic pv) ⟨s.T,H'⟩ (s.H.length::ms))):mC lv P nt (.rangeFunc f ps bM body) s ms Φ:=by
 intro E V a Q ah hm hQ;refine adk λfn d l hd hl=> ?_;have hc:=ah.bm;have dt:Conc (E.add d V.ab) (V.upd d (.deferred (some []))) (s.H++[.obj (.deferred (some []))]):=by
  refine hc.add hd _ ⟨?_,rfl,rfl,λo=> ?_⟩ (λb e=> ?_)
  ·rw[Env.dL];simp[View.upd]
  ·rw[Env.dL];exact hd.2 o
  ·simp only[bN,Env.dL,Tm]at e;exact e.symm
 have B8:E.Le (E.add d V.ab):=E.qw d (λb o v h=>by rw[<- hc.I];exact h);have BR:(E.add d V.ab).blk s.H.length=d:=by rw[<- hc.n];exact E.dL d _
 let E1:=E.add d V.ab;let V1:=V.upd d (.deferred (some []));have pj:E1.n=s.H.length+1:=by rw[dt.n];simp
 have qf:E1.Le (E1.add l V1.ab):=E1.qw l (λb o v h=>by rw[<- dt.I];exact h);have cE:Conc (E1.add l V1.ab) (V1.upd l (.loop {state:=.ready,pending:=none,fn,tmps:=a.tmps,params:=ps,assign:=bM,body,defers:=d})) ((s.H++[.obj (.deferred (some []))])++[.loop l .ready none fn s.T nt ps bM body s.H.length]):=by
  refine dt.add hl _ ⟨⟨a.tmps,?_,ah.size,(ah.tok.mono B8).mono qf⟩,?_,λo=> ?_,?_⟩ (λb e=> ?_)
  ·have e:(E1.add l V1.ab).blk s.H.length=d:=(by rw[qf.blk s.H.length (by rw[pj];omega)];exact BR);rw[e,Env.dL];simp[View.upd]
  ·show s.H.length<E1.n+1;omega
  ·rw[Env.dL];exact hl.2 o
  ·exact Env.dL _ _ _
  ·simp only[bN,Env.dL,Tm]at e;exact e.symm
 have hle:E.Le (E1.add l V1.ab):=B8.trans qf;have bX:(E1.add l V1.ab).blk (s.H.length+1)=l:=by rw[<- pj];exact E1.dL l _
 have JK:(E1.add l V1.ab).blk s.H.length=d:=by rw[qf.blk s.H.length (by rw[pj];omega)];exact BR
 rw[SD]at cE;have pf:∀E',(E1.add l V1.ab).Le E'->Marks E' (s.H.length::ms) (mark a d).defers:=λE' hE=>by
  refine Marks.mono hE ⟨?_,λi hi=> ?_⟩
  ·have:=(hm.mono hle).1;simp only[mark,UW,JK];rw[<- this]
  ·rcases SL.1 hi with rfl|hi
   ·show _<E1.n+1;omega
   ·exact Td (hm.2 i hi) hle.n
 have bz:=aq.ev ah.tok hf;have BT:=h l fn (E1.add l V1.ab) (V1.upd l (.loop {state:=.ready,pending:=none,fn,tmps:=a.tmps,params:=ps,assign:=bM,body,defers:=d})) (a.eval f) #[.func (.yield l) #[] #[]] cE (bz.mono hle) ⟨rfl,λi x hx=>by
  match i,hx with
  |0,hx=>cases hx;exact .fn rfl rfl (by simp) (by simp)⟩
 have key:∀o V',gO (E1.add l V1.ab) (V1.upd l (.loop {state:=.ready,pending:=none,fn,tmps:=a.tmps,params:=ps,assign:=bM,body,defers:=d}))
   (λ_ H'=>∃st pe fE T' jl gC gh fw gk,H'[s.H.length+1]?=some (.loop l st pe fE T' jl gC gh fw gk)/\st≠ .busy/\sv Φ ⟨s.T,H'.set (s.H.length+1) .gone⟩ (s.H.length::ms) pe)
   (λpv H'=>Φ (.panic pv) ⟨s.T,H'⟩ (s.H.length::ms)) o V'->DO l d Q a o V':=by
  intro o V' hr;cases o with
  |ret v=>
   obtain⟨av,E',H',hE,bY,eQ,_,ba,st,pe,fE,T',jl,gC,gh,fw,gk,cu,aT,hp⟩:=hr;obtain⟨dq,nA,qF,aO,KW,sO,zG⟩:=ba.ym cu;refine⟨_,aO,nA,aT,?_⟩;have hg:Conc E' (V'.upd l (.loop {state:=.exhausted,pending:=pe,fn:=fE,tmps:=qF,params:=gC,assign:=gh,body:=fw,defers:=E'.blk gk})) (H'.set (s.H.length+1) .gone):=ba.C8 _ cu _ (by simp only[bN,dq]);have aQ:At E' (V'.upd l (.loop {state:=.exhausted,pending:=pe,fn:=fE,tmps:=qF,params:=gC,assign:=gh,body:=fw,defers:=E'.blk gk})) ⟨s.T,H'.set (s.H.length+1) .gone⟩ (mark a d) nt:=⟨hg,ah.tok.mono (hle.trans hE),ah.size⟩;have dC:qL E E' V (V'.upd l (.loop {state:=.exhausted,pending:=pe,fn:=fE,tmps:=qF,params:=gC,assign:=gh,body:=fw,defers:=E'.blk gk})) a (mark a d):=⟨hle.trans hE,rfl,bY,eQ⟩;dsimp only
   match pe,hp,aQ,dC with
   |none,hp,aQ,dC=>exact hQ .normal .normal E' _ _ _ _ dC aQ (pf E' hE) trivial hp
   |some .ret,hp,aQ,dC=>exact hQ .ret .ret E' _ _ _ _ dC aQ (pf E' hE) trivial hp
   |some (.exit i),hp,aQ,dC=>exact hQ (.exit i) (.exit i) E' _ _ _ _ dC aQ (pf E' hE) rfl hp
   |some (.goto i),hp,aQ,dC=>exact hQ (.goto i) (.goto i) E' _ _ _ _ dC aQ (pf E' hE) rfl hp
  |panic ch=>
   obtain⟨pv,v,E',H',rfl,hE,bY,eQ,bp,ba,hp⟩:=hr;exact hQ (.panic pv) (.panic _) E' V' (mark a d) ⟨s.T,H'⟩ _ ⟨hle.trans hE,rfl,bY,eQ⟩ ⟨ba,ah.tok.mono (hle.trans hE),ah.size⟩ (pf E' hE) ⟨v,rfl,bp⟩ hp
 exact BT.mono (λnx V' hn=>Nx.mono key hn) (λv V' hr=>key _ _ hr)
def tS (Φ:ao->AS->Prop)(s:AS):Option T7->Prop
 |none=>Φ .normal s
 |some .ret=>Φ .ret s
 |some (.exit i)=>Φ (.exit i) s
 |some (.goto i)=>Φ (.goto i) s
 |_=>False
theorem ae5{f:Tl}{ps:Array Tmp}{bM body:T7}{fv:AV}{Φ:ao->AS->Prop}{l0 F0 Je L_ df:Nat}{M3:aa_}{Mm:Option T7}{T0:List (Nat×AV)}{MG:Array Tmp}{H7 Ii:T7}(hf:s.ev f=some fv)(h0:s.H[F0]?=some (.loop l0 M3 Mm Je T0 L_ MG H7 Ii df))
  (h:∀l fn:Nat,iY lv P fv (s.H++[.loop l .ready none fn s.T nt ps bM body df]) [.fn (.yield l) [] []]
   (λ_ H'=>∃st pe fE T' jl gC gh fw gk,H'[s.H.length]?=some (.loop l st pe fE T' jl gC gh fw gk)/\st≠ .busy/\tS Φ ⟨s.T,H'.set s.H.length .gone⟩ pe)
   (λpv H'=>Φ (.panic pv) ⟨s.T,H'⟩)):aX lv P (some l0) nt (.rangeFunc f ps bM body) s Φ:=by
 intro E V a Q ah hQ;have hc:=ah.bm;obtain⟨sQ,ajx,ato,ho0,KX,hT0,_⟩:=hc.ym h0;obtain⟨_,bz,_⟩:=hc.obj F0 _ h0;refine arO ho0 ajx λfn l hl=> ?_;have hle:E.Le (E.add l V.ab):=E.qw l (λb o v h=>by rw[<- hc.I];exact h);have bX:(E.add l V.ab).blk s.H.length=l:=by rw[<- hc.n];exact E.dL l _
 have cE:Conc (E.add l V.ab) (V.upd l (.loop {state:=.ready,pending:=none,fn,tmps:=a.tmps,params:=ps,assign:=bM,body,defers:=E.blk df})) (s.H++[.loop l .ready none fn s.T nt ps bM body df]):=by
  refine hc.add hl _ ⟨⟨a.tmps,?_,ah.size,ah.tok.mono hle⟩,?_,λo=> ?_,?_⟩ (λb e=> ?_)
  ·rw[Env.dL,hle.blk df bz];simp[View.upd]
  ·show df<E.n+1;omega
  ·rw[Env.dL];exact hl.2 o
  ·exact Env.dL _ _ _
  ·simp only[bN,Env.dL,Tm]at e;exact e.symm
 have ajQ:=aq.ev ah.tok hf;have BT:=h l fn (E.add l V.ab) (V.upd l (.loop {state:=.ready,pending:=none,fn,tmps:=a.tmps,params:=ps,assign:=bM,body,defers:=E.blk df})) (a.eval f) #[.func (.yield l) #[] #[]] cE (ajQ.mono hle) ⟨rfl,λi x hx=>by
  match i,hx with
  |0,hx=>cases hx;exact .fn rfl rfl (by simp) (by simp)⟩
 have key:∀o V',gO (E.add l V.ab) (V.upd l (.loop {state:=.ready,pending:=none,fn,tmps:=a.tmps,params:=ps,assign:=bM,body,defers:=E.blk df}))
   (λ_ H'=>∃st pe fE T' jl gC gh fw gk,H'[s.H.length]?=some (.loop l st pe fE T' jl gC gh fw gk)/\st≠ .busy/\tS Φ ⟨s.T,H'.set s.H.length .gone⟩ pe)
   (λpv H'=>Φ (.panic pv) ⟨s.T,H'⟩) o V'->wR l Q a o V':=by
  intro o V' hr;cases o with
  |ret v=>
   obtain⟨av,E',H',hE,bY,eQ,_,ba,st,pe,fE,T',jl,gC,gh,fw,gk,cu,aT,hp⟩:=hr;obtain⟨dq,nA,qF,aO,KW,sO,zG⟩:=ba.ym cu;refine⟨_,aO,nA,aT,?_⟩;have hg:Conc E' (V'.upd l (.loop {state:=.exhausted,pending:=pe,fn:=fE,tmps:=qF,params:=gC,assign:=gh,body:=fw,defers:=E'.blk gk})) (H'.set s.H.length .gone):=ba.C8 _ cu _ (by simp only[bN,dq]);have aQ:At E' (V'.upd l (.loop {state:=.exhausted,pending:=pe,fn:=fE,tmps:=qF,params:=gC,assign:=gh,body:=fw,defers:=E'.blk gk})) ⟨s.T,H'.set s.H.length .gone⟩ a nt:=⟨hg,ah.tok.mono (hle.trans hE),ah.size⟩;have dC:Kept E E' V (V'.upd l (.loop {state:=.exhausted,pending:=pe,fn:=fE,tmps:=qF,params:=gC,assign:=gh,body:=fw,defers:=E'.blk gk})) a a:=⟨hle.trans hE,rfl,rfl,bY,eQ⟩;dsimp only
   match pe,hp,aQ,dC with
   |none,hp,aQ,dC=>exact hQ .normal .normal E' _ _ _ dC aQ trivial hp
   |some .ret,hp,aQ,dC=>exact hQ .ret .ret E' _ _ _ dC aQ trivial hp
   |some (.exit i),hp,aQ,dC=>exact hQ (.exit i) (.exit i) E' _ _ _ dC aQ rfl hp
   |some (.goto i),hp,aQ,dC=>exact hQ (.goto i) (.goto i) E' _ _ _ dC aQ rfl hp
  |panic ch=>
   obtain⟨pv,v,E',H',rfl,hE,bY,eQ,bp,ba,hp⟩:=hr;exact hQ (.panic pv) (.panic _) E' V' a ⟨s.T,H'⟩ ⟨hle.trans hE,rfl,rfl,bY,eQ⟩ ⟨ba,ah.tok.mono (hle.trans hE),ah.size⟩ ⟨v,rfl,bp⟩ hp
 exact BT.mono (λnx V' hn=>Nx.mono key hn) (λv V' hr=>key _ _ hr)
def wW (P:SK)(fn:YD)(R:Out->View->Prop):List UX->U9->Array SO->View->Prop
 |[],.returning,tmps,V=>∃v,aR P V (results fn tmps) (λx V'=>x=v/\V'=V) (λ_ _=>False)/\R (.ret v) V
 |[],.panicking ch,_,V=>R (.panic ch) V
 |d::ds,md,tmps,V=>(md matches .run)=false/\∃b,d={target:=.collected b,args:=#[]}/\V.own b=some (.deferred (some []))/\V.role.chan≠some b/\wW P fn R ds md tmps (V.upd b (.deferred none))
 |[],.run,_,_=>False
theorem Hk{f:TN}{fn:YD}{kd:Xg}{R:Out->View->Prop}(hf:P.funcs[f]?=some fn){main:Bool}{J:View->SH->Prop}(C:Closed lv P main J){cs:List T8}(hR:∀o V' Br,R o V'->Leaves P Br f kd o V'->J V' (G Br cs)):∀(ds:List UX)(md:U9)(V:View)(fr:T8),fr.fn=f->fr.kind=kd->fr.mode=md->fr.defers=ds->wW P fn R ds md fr.tmps V->J V (G fr cs)
 |[],.returning,V,fr,h1,h2,h3,h4,h=>by
  obtain⟨v,hs,hr⟩:=h;exact hR _ _ _ hr ⟨h1,h4,h2,fn,hf,h3,hs⟩
 |[],.panicking ch,V,fr,h1,h2,h3,h4,h=>hR _ _ _ h ⟨h1,h4,h2,fn,hf,h3⟩
 |[],.run,_,_,_,_,_,_,h=>h.elim
 |d::ds,md,V,fr,h1,h2,h3,h4,h=>by
  obtain⟨hm,b,rfl,ho,fe,hu⟩:=h;refine C.step _ _ rfl λw hw=> ?_;obtain⟨es,w',V',k1,k2,k3⟩:=(MW (P:=P) ho fe).runs hw;rcases k3 with⟨x,k3,rfl,rfl⟩|⟨_,_,hx⟩
  ·refine⟨G {fr with defers:=ds} cs,w',seen P fr.fn es,_,?_,k1.seen P fr.fn,?_⟩
   ·have e:∀main,stepG P main (G fr cs) w=unwind P main fr cs none w:=λmain=>by
     cases md with
     |run=>cases hm
     |returning=>simp[G,stepG,h3]
     |panicking ch=>simp[G,stepG,h3]
    rw[e];simp only[unwind,h4];simp[TB,k3,k2,TZ,G]
   ·exact Hk hf C hR ds md _ {fr with defers:=ds} h1 h2 h3 rfl hu
  ·exact hx.elim
def adu (P:SK)(fn:YD)(R:Out->View->Prop):Ex->Act->View->Prop
 |.normal,a,V|.ret,a,V=>wW P fn R a.defers .returning a.tmps V
 |.panic ch,a,V=>wW P fn R a.defers (.panicking ch) a.tmps V
 |_,_,_=>False
theorem afQ{f:TN}{fn:YD}{c:T7}{args:Array SO}{kd:Xg}{V:View}{R:Out->View->Prop}(hk:kd≠ .early)(hf:P.funcs[f]?=some fn)(hb:fn.body=some c)
  (h:WP lv P none c (adu P fn R) {tmps:=args++TE (fn.ntmps-args.size) undef,defers:=[]} V):Body lv P f args kd V R:=by
 intro main J C cs hR;let b:T8:={(default:T8)with fn:=f,kind:=kd,roundOf:=none};have ut:Frame.enter P f args kd=on b {tmps:=args++TE (fn.ntmps-args.size) undef,defers:=[]} [.code c]:=by
  simp[Frame.enter,on,hf,hb,b]
 rw[ut];refine h main J C b [] cs hk rfl λe a' V' q=> ?_;cases e with
 |normal=>exact C.idle rfl (λw=>C4 rfl) (Hk hf C hR _ _ _ _ rfl rfl rfl rfl q)
 |ret=>intro k;exact C.idle rfl (λw=>C5 rfl) (Hk hf C hR _ _ _ _ rfl rfl rfl rfl q)
 |panic ch=>intro todo _;exact Hk hf C hR _ _ _ _ rfl rfl rfl rfl q
 |exit id=>exact q.elim
 |goto l=>exact q.elim
def iK:List Nat->List aa->Option (List aa)
 |[],H=>some H
 |i::ms,H=>match H[i]?with
  |some (.obj (.deferred (some [])))=>iK ms (H.set i .gone)
  |_=>none
def sk (P:SK)(rs:List UM)(n:Nat)(k kp:AV->List aa->Prop):ao->AS->List Nat->Prop
 |.normal,s,ms|.ret,s,ms=>ap (iK ms s.H) λH'=>ap (g_ P ⟨s.T,H'⟩ rs) λl=>cw n H' (iU l) k
 |.panic pv,s,ms=>ap (iK ms s.H) λH'=>cw n H' pv kp
 |_,_,_=>False
theorem Nk{fn:YD}{R:Out->View->Prop}{tmps:Array SO}{md:U9}(hm:(md matches .run)=false):∀(ms:List Nat)(H H':List aa)(E:Env)(V:View)(l:List UX),iK ms H=some H'->Conc E V H->Marks E ms l->(∀V',V'.role=V.role->V'.deaf=V.deaf->Conc E V' H'->wW P fn R [] md tmps V')->wW P fn R l md tmps V
 |[],H,H',E,V,l,hg,hc,rA,hk=>by
  cases hg;have:l=[]:=rA.1;subst this;exact hk V rfl rfl hc
 |i::ms,H,H',E,V,l,hg,hc,rA,hk=>by
  simp only[iK]at hg;split at hg
  ·rename_i hi;obtain⟨e,hlt⟩:=rA;simp only[UW]at e;subst e;obtain⟨p1,p2,p3,p4⟩:=hc.obj i _ hi;exact⟨hm,_,rfl,p1,(hc.jk hi rfl).2,Nk hm ms _ H' E _ _ hg (hc.C8 _ hi _ rfl) ⟨rfl,λj hj=>hlt j (by simp[hj])⟩ λV' h1 h2 h3=>hk V' h1 h2 h3⟩
  ·cases hg
theorem PS{f:TN}{fn:YD}{c:T7}{rs:List UM}{nt:Nat}{H:List aa}{args:List AV}{k kp:AV->List aa->Prop}(hf:P.funcs[f]?=some fn)(hb:fn.body=some c)(hr:fn.results=rs.toArray)(hn:fn.ntmps=nt)(cP:args.length<=nt)
  (h:bQ H->(∀a∈args,Lt H.length a)->mC lv P nt c ⟨br 0 args,H⟩ [] (sk P rs H.length k kp)):bc lv P f H args k kp:=by
 intro E V vs hc hd;have hlt:∀a∈args,Lt H.length a:=λa ha=>by
  obtain⟨i,hi⟩:=pA ha;rw[<- hc.n];exact(hd.2 i a hi).lt
 have ah:=A9 (nt:=nt) hc hd cP;refine afQ (by simp) hf hb ?_;rw[hn];refine h hc.am hlt E V _ _ ah ⟨rfl,by simp⟩ λae e E' V' a' s' cH hk aQ fX he hΦ=> ?_;have fin:sk P rs H.length k kp .ret s' cH->wW P fn (gO E V k kp) a'.defers .returning a'.tmps V':=λhΦ=>by
  obtain⟨H',hg,hΦ⟩:=ap.out hΦ;exact Nk rfl cH _ H' E' V' _ hg aQ.bm fX λaP h1 h2 h3=>abI (s':=⟨s'.T,H'⟩) (a':=a') hr ⟨h3,aQ.tok,aQ.size⟩ hk.le hc.n (h1.trans hk.role) (h2.trans hk.deaf) hΦ
 cases ae<;>cases e<;>first
  |exact he.elim
  |exact fin hΦ
  |exact hΦ.elim
  |skip
 rename_i pv ch;obtain⟨v,fe,bp⟩:∃v,ch=[{v,recovered:=false}]/\aq E' pv v:=he;subst fe;obtain⟨H',hg,hΦ⟩:=ap.out hΦ;refine Nk rfl cH _ H' E' V' _ hg aQ.bm fX λaP h1 h2 h3=> ?_;obtain⟨b,bE,tP,r1,r2,r3,r4⟩:=xb hΦ h3 bp hk.le hc.n;exact⟨b,v,bE,tP,rfl,r1,h1.trans hk.role,h2.trans hk.deaf,r2,r3,r4⟩
end
def Env.frame (E:Env)(f:Nat->Option Obj):Env:={E with fr:=f}
theorem aq.frame{E:Env}{a:AV}{v:SO}(h:aq E a v)(f:Nat->Option Obj):aq (E.frame f) a v:=by
 induction h with
 |val x=>exact .val x
 |agg hs _ ih=>exact .agg hs ih
 |aJ hs _ ih=>exact .aJ hs ih
 |sl b o cap g hc he h1 _ ih=>exact .sl b o cap g hc (by cases kj:‹End›<;>(subst kj;exact he)) h1 ih
 |nil he=>exact .nil (by cases kj:‹End›<;>(subst kj;exact he))
 |bK hi dT=>exact .bK (E:=E.frame f) hi dT
 |rp b o g h1 _ ih=>exact .rp b o g h1 ih
 |op hi=>exact .op (E:=E.frame f) hi
 |fn dD fY _ _ mT lz=>exact .fn dD fY mT lz
 |c9 _ ih=>exact .c9 ih
 |mp hi=>exact .mp (E:=E.frame f) hi
theorem cN.frame{E:Env}{l:List AV}{cs:Array SO}(h:cN E l cs)(f:Nat->Option Obj):cN (E.frame f) l cs:=⟨h.1,λi a e=>(h.2 i a e).frame f⟩
theorem j5.frame{E:Env}{l:List AV}{cs:Array SO}(h:j5 E l cs)(f:Nat->Option Obj):j5 (E.frame f) l cs:=⟨h.1,λi a e=>(h.2 i a e).frame f⟩
theorem cj.frame{E:Env}{T:List (Nat×AV)}{tmps:Array SO}(h:cj E T tmps)(f:Nat->Option Obj):cj (E.frame f) T tmps:=λt a e=>⟨(h t a e).1,(h t a e).2.frame f⟩
theorem vv(E:Env)(f:Nat->Option Obj)(k:Nat)(x:aa):bN (E.frame f) k x=bN E k x:=by cases x<;>rfl
theorem fQ.frame{E:Env}{V:View}{k:Nat}{x:aa}(h:fQ E V k x)(f:Nat->Option Obj):fQ (E.frame f) V k x:=by
 cases x with
 |cells l el=>obtain⟨⟨cs,h1,h2⟩,h3⟩:=h;exact⟨⟨cs,h1,h2.frame f⟩,h3⟩
 |part p l el=>obtain⟨⟨cs,h1,h2,h4⟩,h3⟩:=h;exact⟨⟨cs,h1,h2.frame f,h4⟩,h3⟩
 |own sz l el=>obtain⟨⟨cs,h1,h2,h4⟩,h3⟩:=h;exact⟨⟨cs,h1,h2.frame f,h4⟩,h3⟩
 |tail n sz el=>exact h
 |obj x=>exact h
 |iter=>exact h
 |loop=>obtain⟨⟨tmps,h1,h2,h3⟩,h4,h5⟩:=h;exact⟨⟨tmps,h1,h2,h3.frame f⟩,h4,h5⟩
 |gone=>trivial
 |main=>exact h
theorem Conc.yh{E:Env}{V V':View}{H:List aa}(h:Conc E V H)(f:Nat->Option Obj)(hI:V'.ab=V.ab)
  (ho:∀b x k y,H[k]?=some y->bN E k y=some b->V.own b=some x->V'.own b=some x)
  (hg:∀g,V'.role.group=some g->V'.own g≠none/\(∀o,V'.ab g o=none)/\∀(k:Nat) x,H[k]?=some x->bN E k x≠some g)
  (hc:∀g,V'.role.chan=some g->V'.own g≠none/\(∀o,V'.ab g o=none)/\∀(k:Nat) x,H[k]?=some x->bN E k x≠some g)
  (ht:E.main=true->V'.role=.plain/\V'.deaf=0) (hf:∀b y,f b=some y->V'.own b=some y/\(∀o,V'.ab b o=none)/\∀(k:Nat) x,H[k]?=some x->bN E k x≠some b):Conc (E.frame f) V' H:=by
 have hlt:∀(k:Nat) y,H[k]?=some y->k<E.n:=λk y e=>by rw[h.n];exact(SN.1 e).1
 refine⟨by rw[hI];exact h.I,h.n,λk x e=>fQ.frame ((h.obj k x e).mono (Env.Le.refl E) (hlt k x e) rfl (λb y hb hy=>ho b y k x e hb hy) (λb _ o=>by rw[hI])) f,λi j x y b h1 h2 h3 h4=> ?_,λg e=> ?_,λg e=> ?_,ht,λb y e=> ?_⟩
 ·rw[vv]at h3 h4;exact h.inj i j x y b h1 h2 h3 h4
 ·obtain⟨a,b,c⟩:=hg g e;exact⟨a,b,λk x e=>by rw[vv];exact c k x e⟩
 ·obtain⟨a,b,c⟩:=hc g e;exact⟨a,b,λk x e=>by rw[vv];exact c k x e⟩
 ·obtain⟨a,b',c⟩:=hf b y e;exact⟨a,b',λk x e=>by rw[vv];exact c k x e⟩
theorem Conc.CU{E:Env}{V:View}{H:List aa}(h:Conc E V H){b:Nat}{x:Obj}(hb:E.fr b=some x){k:Nat}{y:aa}(hk:H[k]?=some y){b':Nat}(dq:bN E k y=some b'):b'≠b:=λe=>by subst e;exact(h.fr _ x hb).2.2 k y hk dq
theorem Conc.aiQ{E:Env}{V:View}{H:List aa}(h:Conc E V H){b:Nat}{x:Obj}(hb:E.fr b=some x)(y:Obj):Conc (E.frame λb'=>if b'=b then some y else E.fr b') (V.upd b y) H:=by
 obtain⟨p1,p2,p3⟩:=h.fr b x hb;refine h.yh _ rfl (λb' z k w hk kE hz=> ?_) (λg hg=> ?_) (λg hg=> ?_) h.top (λb' z hz=> ?_)
 ·have:b'≠b:=h.CU hb hk kE;simpa[View.upd,this]using hz
 ·obtain⟨q1,q2,q3⟩:=h.group g hg;refine⟨?_,q2,q3⟩;simp only[View.upd];split
  ·simp
  ·exact q1
 ·obtain⟨q1,q2,q3⟩:=h.chan g hg;refine⟨?_,q2,q3⟩;simp only[View.upd];split
  ·simp
  ·exact q1
 ·by_cases e:b'=b
  ·subst e;rw[if_pos rfl]at hz;cases hz;exact⟨by simp[View.upd],p2,p3⟩
  ·rw[if_neg e]at hz;obtain⟨q1,q2,q3⟩:=h.fr b' z hz;exact⟨by simpa[View.upd,e]using q1,q2,q3⟩
theorem Conc.aiO{E:Env}{V:View}{H:List aa}(h:Conc E V H){b:Nat}(hb:V.fresh b)(y:Obj):Conc (E.frame λb'=>if b'=b then some y else E.fr b') (V.upd b y) H:=by
 have aC:∀(k:Nat) x,H[k]?=some x->bN E k x≠some b:=λk x hk e=>by
  obtain⟨z,hz⟩:=(h.obj k x hk).A' e;rw[hb.1]at hz;cases hz
 refine h.yh _ rfl (λb' z k w hk kE hz=> ?_) (λg hg=> ?_) (λg hg=> ?_) h.top (λb' z hz=> ?_)
 ·have:b'≠b:=λe=>by subst e;exact aC k w hk kE
  simpa[View.upd,this]using hz
 ·obtain⟨q1,q2,q3⟩:=h.group g hg;refine⟨?_,q2,q3⟩;simp only[View.upd];split
  ·simp
  ·exact q1
 ·obtain⟨q1,q2,q3⟩:=h.chan g hg;refine⟨?_,q2,q3⟩;simp only[View.upd];split
  ·simp
  ·exact q1
 ·by_cases e:b'=b
  ·subst e;rw[if_pos rfl]at hz;cases hz;exact⟨by simp[View.upd],hb.2,aC⟩
  ·rw[if_neg e]at hz;obtain⟨q1,q2,q3⟩:=h.fr b' z hz;exact⟨by simpa[View.upd,e]using q1,q2,q3⟩
theorem Conc.aiP{E:Env}{V:View}{H:List aa}(h:Conc E V H){id:Nat}{l:List AV}{el:TypeId}(hk:H[id]?=some (.cells l el)):∃cs,cN E l cs/\V.own (E.blk id)=some (.cells cs el (0,0))/\(∀o,V.ab (E.blk id) o=none)/\
  Conc (E.frame λb'=>if b'=E.blk id then some (.cells cs el (0,0))else E.fr b') V (H.set id .gone):=by
 obtain⟨⟨cs,h1,h2⟩,h3⟩:=h.obj id _ hk;refine⟨cs,h2,h1,h3,?_⟩;have hg:Conc E V (H.set id .gone):=by
  refine h.iW id .gone (Env.Le.refl E) h.I (by simpa using h.n) lW rfl (λ_ _ _=>rfl) (λb y _ hy=>⟨hy,λ_=>rfl⟩) trivial (λb e=>by cases e)
 have aC:∀(k:Nat) x,(H.set id .gone)[k]?=some x->bN E k x≠some (E.blk id):=λk x hx e=>by
  rcases lW k x hx with⟨rfl,rfl⟩|⟨aC,hx⟩
  ·cases e
  ·exact aC (h.inj k id x _ _ hx hk e rfl)
 refine hg.yh _ rfl (λ_ _ _ _ _ _ hz=>hz) hg.group hg.chan h.top (λb' z hz=> ?_);by_cases e:b'=E.blk id
 ·subst e;rw[if_pos rfl]at hz;cases hz;exact⟨h1,h3,aC⟩
 ·rw[if_neg e]at hz;exact hg.fr b' z hz
theorem Conc.GP{E:Env}{V:View}{H:List aa}(h:Conc E V H){id:Nat}{l:List AV}{el:TypeId}(hk:H[id]?=some (.cells l el))(p:Nat)(hp:p<=l.length):∃V',ee V V'/\V'.own=V.own/\V'.role=V.role/\V'.deaf=V.deaf/\E.Le {E with I:=V'.ab}/\Conc {E with I:=V'.ab} V' (H.set id (.part p l el))/\
  aq {E with I:=V'.ab} (.rp (l.take p)) (.pointer (some ⟨E.blk id,0,none⟩)):=by
 obtain⟨⟨cs,h1,h2⟩,h3⟩:=h.obj id _ hk;let V':=V.iz (E.blk id) cs λo=>decide (o<p);have nE:∀b o,b≠E.blk id->V'.ab b o=V.ab b o:=λb o hb=>by simp[V',View.iz,hb]
 have cW:∀o,o<p->V'.ab (E.blk id) o=cs[o]?:=λo ho=>by simp[V',View.iz,ho]
 have akz:∀o,p<=o->V'.ab (E.blk id) o=none:=λo ho=>by simp[V',View.iz,Nat.not_lt.2 ho,h3]
 have hle:E.Le {E with I:=V'.ab}:=⟨λb o v e=>by
  rw[h.I]at e;have hb:b≠E.blk id:=λhb=>by subst hb;rw[h3]at e;cases e
  show V'.ab b o=some v;rw[nE b o hb];exact e,SU _,λ_ _=>rfl,λ_ _=>SU _,λ_ _ _ _=>rfl,rfl,rfl⟩
 refine⟨V',y8 h1 (λo _=>h3 o),rfl,rfl,rfl,hle,?_,?_⟩
 ·refine h.iW (E':={E with I:=V'.ab}) id (.part p l el) hle rfl (by simpa using h.n) lW rfl (λ_ _ _=>rfl) (λb y hb hy=>⟨hy,λo=>nE b o λe=>hb _ hk (by rw[e];rfl)⟩) ⟨⟨cs,h1,(h2.mono hle).p,cW⟩,akz⟩ (λb e=> .inl ⟨_,hk,e⟩)
 ·refine .rp (E.blk id) 0 (λi=>cs.getD i undef) (λi hi=> ?_) λi x hx=> ?_
  ·have cG:i<p:=(by simp at hi;omega);rw[Wt];show V'.ab (E.blk id) i=_;rw[cW i cG];have:i<cs.size:=(by have:=h2.1;omega);simp[SI,SJ this]
  ·rw[Ua]at hx;split at hx
   ·exact(h2.2 i x hx).mono hle
   ·cases hx
theorem Conc.amc{E:Env}{V V':View}{H:List aa}(h:Conc E V H)(ho:V'.own=V.own)(nE:∀b o v,V.ab b o=some v->V'.ab b o=some v)(jg:∀b o,V.own b≠none->V.ab b o=none->V'.ab b o=none)
  (hg:V'.role.group=none) (hc:V'.role.chan=none) (ht:E.main=true->V'.role=.plain/\V'.deaf=0):E.Le {E with I:=V'.ab}/\Conc {E with I:=V'.ab} V' H:=by
 have hle:E.Le {E with I:=V'.ab}:=⟨λb o v e=>by rw[h.I]at e;exact nE b o v e,SU _,λ_ _=>rfl,λ_ _=>SU _,λ_ _ _ _=>rfl,rfl,rfl⟩;have hlt:∀(k:Nat) y,H[k]?=some y->k<E.n:=λk y e=>by rw[h.n];exact(SN.1 e).1
 have key:∀b o,V.own b≠none->V'.ab b o=V.ab b o:=λb o hb=>by
  cases e:V.ab b o with
  |none=>exact jg b o hb e
  |some v=>exact nE b o v e
 refine⟨hle,rfl,h.n,λk x e=>(h.obj k x e).mono hle (hlt k x e) rfl (λb y _ hy=>by rw[ho];exact hy) (λb hb o=> ?_),h.inj,λg e=>(by rw[hg]at e;cases e),λg e=>(by rw[hc]at e;cases e),ht,λb y e=> ?_⟩
 ·obtain⟨y,hy⟩:=(h.obj k x e).A' hb;exact key b o (by rw[hy];simp)
 ·obtain⟨q1,q2,q3⟩:=h.fr b y e;exact⟨by rw[ho];exact q1,λo=>by rw[key b o (by rw[q1];simp)];exact q2 o,q3⟩
section
variable {lv:Bool}{P:SK}{nt id:Nat}{ops:Array Tx}{s:AS}{E:Env}{V:View}{a:Act}{Q:Ex->Act->View->Prop}{K:AS->Prop}
theorem Hq(n m:Nat)(hn:ops.size=n+m)(cR:jT nt ops=true)(ah:At E V s a nt)(h:h_ lv P ops (ops.toList.take n) s K (λ_ _=>False))
  (hk:∀E' V' a' s',Kept E E' V V' a a'->At E' V' s' a' nt->K s'->da lv P none ops Q (T4 n m) a' V'):WP lv P none (.region id ops false) Q a V:=by
 refine wp_region ?_;have hr:S0 ops.size=T4 0 n++T4 n m:=by
  have:=Y7 (s:=0) (m:=n) (n:=m);rw[Vo,hn,<- this];simp
 rw[hr];refine Aw _ _ _ (GA (r:=none) (Φ:=λe s'=>match e with
  |.normal=>K s'
  |_=>False) (λo ho d e=>(jT.out cR ho).1 d e) rfl n 0 s (by omega) (by simpa using h) E V a _ ah λae e E' V' a' s' aE aQ he hΦ=> ?_)
 cases ae<;>cases e<;>first
  |exact he.elim
  |exact hΦ.elim
  |exact hk E' V' a' s' aE aQ hΦ
theorem Nv{n:Nat}{o:Tx}(ho:ops[n]?=some o)(hg:o.guard=none)(h:vn lv P o a V λa' V'=>Q .normal a' V'):da lv P none ops Q (T4 n 1) a V:=by
 simp only[List.range'_one,da,ho];rw[if_pos (by unfold Tc;rw[hg])];exact .inr h
end
section
variable {lv main:Bool}{P:SK}{J:View->SH->Prop}
theorem adb(C:Closed lv P main J){V:View}{fr:T8}{cs:List T8}{g:TN}{ca aG:Array SO}{ds:List UX}(hd:fr.defers=⟨.fn (.func g) ca,aG⟩::ds)(hm:(fr.mode matches .run)=false)(hg:qH P g=true)
  (h:J V (G (Frame.enter P g (aG++ca) .deferred) ({fr with defers:=ds}::cs))):J V (G fr cs):=by
 refine C.step _ _ rfl λw hw=> ?_;have hs:aR P V (invoke (.fn (.func g) ca) aG) (λnx V'=>nx=.enter g (aG++ca)/\V'=V) (λ_ _=>False):=by
  unfold invoke;exact MS hg ⟨rfl,rfl⟩
 obtain⟨es,w',V',k1,k2,k3⟩:=hs.runs hw;rcases k3 with⟨nx,k3,rfl,rfl⟩|⟨_,_,h⟩
 ·refine⟨G (Frame.enter P g (aG++ca) .deferred) ({fr with defers:=ds}::cs),w',seen P fr.fn es,V',?_,k1.seen P fr.fn,h⟩;have e:stepG P main (G fr cs) w=unwind P main fr cs none w:=by
   obtain⟨fn,tmps,todo,defers,mode,kind,ro⟩:=fr;cases mode with
   |run=>cases hm
   |returning=>simp[G,stepG]
   |panicking ch=>simp[G,stepG]
  rw[e];simp only[unwind,hd];simp[callDeferred,TB,k3,k2,TZ,G]
 ·exact h.elim
theorem agQ(C:Closed lv P main J){f:TN}{fn:YD}{c:T7}{args:Array SO}{kd:Xg}{V:View}{cs:List T8}{Q:Act->View->Prop}(hk:kd≠ .early)(hf:P.funcs[f]?=some fn)(hb:fn.body=some c)
  (h:WP lv P none c (λe a V=>(match e with|.normal|.ret=>True|_=>False)/\Q a V) {tmps:=args++TE (fn.ntmps-args.size) undef,defers:=[]} V)
  (hQ:∀a V todo,Q a V->J V (G {fn:=f,tmps:=a.tmps,todo,defers:=a.defers,mode:=.returning,kind:=kd,roundOf:=none} cs)):J V (G (Frame.enter P f args kd) cs):=by
 let b:T8:={(default:T8)with fn:=f,kind:=kd,roundOf:=none};have ut:Frame.enter P f args kd=on b {tmps:=args++TE (fn.ntmps-args.size) undef,defers:=[]} [.code c]:=by
  simp[Frame.enter,on,hf,hb,b]
 rw[ut];refine h main J C b [] cs hk rfl λe a' V' q=> ?_;cases e with
 |normal=>exact C.idle rfl (λw=>C4 rfl) (hQ a' V' [] q.2)
 |ret=>intro k;exact C.idle rfl (λw=>C5 rfl) (hQ a' V' (.code .ret::k) q.2)
 |panic ch=>exact q.1.elim
 |exit id=>exact q.1.elim
 |goto l=>exact q.1.elim
end
def Env.fu (E:Env)(m:Bool):Env:={E with main:=m}
theorem aq.fu{E:Env}{a:AV}{v:SO}(h:aq E a v)(m:Bool):aq (E.fu m) a v:=by
 induction h with
 |val x=>exact .val x
 |agg hs _ ih=>exact .agg hs ih
 |aJ hs _ ih=>exact .aJ hs ih
 |sl b o cap g hc he h1 _ ih=>exact .sl b o cap g hc (by cases kj:‹End›<;>(subst kj;exact he)) h1 ih
 |nil he=>exact .nil (by cases kj:‹End›<;>(subst kj;exact he))
 |bK hi dT=>exact .bK (E:=E.fu m) hi dT
 |rp b o g h1 _ ih=>exact .rp b o g h1 ih
 |op hi=>exact .op (E:=E.fu m) hi
 |fn dD fY _ _ mT lz=>exact .fn dD fY mT lz
 |c9 _ ih=>exact .c9 ih
 |mp hi=>exact .mp (E:=E.fu m) hi
theorem cN.fu{E:Env}{l:List AV}{cs:Array SO}(h:cN E l cs)(m:Bool):cN (E.fu m) l cs:=⟨h.1,λi a e=>(h.2 i a e).fu m⟩
theorem j5.fu{E:Env}{l:List AV}{cs:Array SO}(h:j5 E l cs)(m:Bool):j5 (E.fu m) l cs:=⟨h.1,λi a e=>(h.2 i a e).fu m⟩
theorem cj.fu{E:Env}{T:List (Nat×AV)}{tmps:Array SO}(h:cj E T tmps)(m:Bool):cj (E.fu m) T tmps:=λt a e=>⟨(h t a e).1,(h t a e).2.fu m⟩
theorem vw(E:Env)(m:Bool)(k:Nat)(x:aa):bN (E.fu m) k x=bN E k x:=by cases x<;>rfl
theorem fQ.fu{E:Env}{V:View}{k:Nat}{x:aa}(h:fQ E V k x)(m:Bool)(hm:x=.main->m=true):fQ (E.fu m) V k x:=by
 cases x with
 |cells l el=>obtain⟨⟨cs,h1,h2⟩,h3⟩:=h;exact⟨⟨cs,h1,h2.fu m⟩,h3⟩
 |part p l el=>obtain⟨⟨cs,h1,h2,h4⟩,h3⟩:=h;exact⟨⟨cs,h1,h2.fu m,h4⟩,h3⟩
 |own sz l el=>obtain⟨⟨cs,h1,h2,h4⟩,h3⟩:=h;exact⟨⟨cs,h1,h2.fu m,h4⟩,h3⟩
 |tail n sz el=>exact h
 |obj x=>exact h
 |iter=>exact h
 |loop=>obtain⟨⟨tmps,h1,h2,h3⟩,h4,h5⟩:=h;exact⟨⟨tmps,h1,h2,h3.fu m⟩,h4,h5⟩
 |gone=>trivial
 |main=>exact hm rfl
def strip:aa->aa
 |.main=> .gone
 |x=>x
theorem tY(E:Env)(k:Nat)(x:aa):bN E k (strip x)=bN E k x:=by cases x<;>rfl
theorem Conc.agj{E:Env}{V:View}{H:List aa}(h:Conc E V H):Conc (E.fu false) V (H.map strip):=by
 have get:∀(k:Nat) y,(H.map strip)[k]?=some y->∃x,H[k]?=some x/\strip x=y:=λk y e=>by
  rw[Tj]at e;obtain⟨x,e1,e2⟩:=Tp.1 e;exact⟨x,e1,e2⟩
 refine⟨h.I,by rw[To];exact h.n,λk y e=> ?_,λi j x y b h1 h2 h3 h4=> ?_,λg hg=> ?_,λg hg=> ?_,(λe=>by cases e),λb y e=> ?_⟩
 ·obtain⟨x,hx,rfl⟩:=get k y e;have lO:=h.obj k x hx;cases x<;>first
   |exact fQ.fu lO false (λe=>by cases e)
   |exact True.intro
 ·obtain⟨x',hx,rfl⟩:=get i x h1;obtain⟨y',hy,rfl⟩:=get j y h2;rw[vw,tY]at h3 h4;exact h.inj i j x' y' b hx hy h3 h4
 ·obtain⟨a,b,c⟩:=h.group g hg;exact⟨a,b,λk y e=>by obtain⟨x,hx,rfl⟩:=get k y e;rw[vw,tY];exact c k x hx⟩
 ·obtain⟨a,b,c⟩:=h.chan g hg;exact⟨a,b,λk y e=>by obtain⟨x,hx,rfl⟩:=get k y e;rw[vw,tY];exact c k x hx⟩
 ·obtain⟨a,b',c⟩:=h.fr b y e;exact⟨a,b',λk y e=>by obtain⟨x,hx,rfl⟩:=get k y e;rw[vw,tY];exact c k x hx⟩
theorem Conc.aoY{E:Env}{V:View}{H:List aa}(h:Conc E V (H.map strip))(m:Bool)(f:Nat->Option Obj)(hm:∀(k:Nat),H[k]?=some aa.main->m=true)(ht:m=true->V.role=.plain/\V.deaf=0)(hf:∀b y,f b=some y->E.fr b=some y):Conc ((E.fu m).frame f) V H:=by
 have get:∀(k:Nat) x,H[k]?=some x->(H.map strip)[k]?=some (strip x):=λk x e=>by rw[Tj,e];rfl
 refine⟨h.I,h.n.trans (by rw[To]),λk x e=>fQ.frame ?_ f,λi j x y b h1 h2 h3 h4=> ?_,λg hg=> ?_,λg hg=> ?_,ht,λb y e=> ?_⟩
 ·have lO:=h.obj k _ (get k x e);cases x<;>first
   |exact fQ.fu lO m (λe=>by cases e)
   |exact hm k e
 ·rw[vv,vw]at h3 h4;exact h.inj i j _ _ b (get i x h1) (get j y h2) (by rw[tY];exact h3) (by rw[tY];exact h4)
 ·obtain⟨a,b,c⟩:=h.group g hg;exact⟨a,b,λk x e=>by rw[vv,vw,<- tY];exact c k _ (get k x e)⟩
 ·obtain⟨a,b,c⟩:=h.chan g hg;exact⟨a,b,λk x e=>by rw[vv,vw,<- tY];exact c k _ (get k x e)⟩
 ·obtain⟨a,b',c⟩:=h.fr b y (hf b y e);exact⟨a,b',λk x e=>by rw[vv,vw,<- tY];exact c k _ (get k x e)⟩
section
variable {lv:Bool}{P:SK}{nt id:Nat}{ops:Array Tx}{s:AS}{E:Env}{V:View}{a:Act}{Q:Ex->Act->View->Prop}{N:Act->View->Prop}{o:Tx}
theorem adl(ho:ops[0]?=some o)(hg:o.guard=none)(h:AM lv P none o a V (da lv P none ops Q (T4 1 (ops.size-1))) Q):WP lv P none (.region id ops false) Q a V:=by
 refine wp_region ?_;have aU:0<ops.size:=(SS.1 ho).1;have KO:S0 ops.size=0::T4 1 (ops.size-1):=by
  rw[Vo];obtain⟨n,hn⟩:∃n,ops.size=n+1:=⟨ops.size-1,by omega⟩;rw[hn,VR];rfl
 rw[KO];simp only[da,ho];rw[if_pos (by unfold Tc;rw[hg])];exact h
theorem arQ{k n:Nat}(ho:ops[k]?=some o)(hg:o.guard=none)(h:AM lv P none o a V (da lv P none ops Q (T4 (k+1) n)) Q):da lv P none ops Q (T4 k (n+1)) a V:=by
 rw[VR];simp only[da,ho];rw[if_pos (by unfold Tc;rw[hg])];exact h
theorem arR{k:Nat}(h:Q .normal a V):da lv P none ops Q (T4 k 0) a V:=h
theorem Nw{k n:Nat}(s3:AS)(hk:k+n=ops.size)(cR:jT nt ops=true)(ah:At E V s a nt)(h:h_ lv P ops (ops.toList.drop k) s (λs'=>s'.Sub s3) (λ_ _=>False))(hQ:∀E' V' a',Kept E E' V V' a a'->At E' V' s3 a' nt->Q .normal a' V'):da lv P none ops Q (T4 k n) a V:=by
 refine yd (r:=none) (Φ:=λe s'=>match e with
  |.normal=>s'.Sub s3
  |_=>False) (λo ho d e=>(jT.out cR ho).1 d e) (λ_ _=> .inl rfl) n k s hk h E V a Q ah λae e E' V' a' s' aE aQ he hΦ=> ?_
 cases ae<;>cases e<;>first
  |exact he.elim
  |exact hΦ.elim
  |exact hQ E' V' a' aE (aQ.sub hΦ)
theorem anw{c:Xq}{f:TN}(au:o.op=.call c)(aY:c.callee=.value (.func f))(hf:qH P f=true)(h:Body lv P f (c.args.map a.eval) .normal V (fun
  |.ret v,V'=>N (a.put o.dst v) V'
  |.panic _,_=>False)):AM lv P none o a V N Q:=by
 refine .inl ⟨.inl rfl,?_⟩;unfold execOp;rw[au];dsimp only;unfold resolve;rw[aY];dsimp only;have e:a.eval (.func f)=.func (.func f) #[] #[]:=rfl;rw[e];unfold U3;refine az (ay ?_);unfold invoke;dsimp only;refine MS hf ?_;have e2:#[]++c.args.map a.eval++#[]=c.args.map a.eval:=by simp
 rw[e2];exact h.mono λo V' hx=>by
  cases o with
  |ret v=>exact hx
  |panic ch=>exact hx.elim
theorem anx{t el:TypeId}{d:ChanDir}{i:Wl}(au:o.op=.makeChan t (.const (.int .i64 0)))(h1:P.underlying t=some (.chan d el))(h2:P.info? el=some i)(h:∀c,V.fresh c->N (a.put o.dst (.chan (some c))) (V.upd c (.chan 0 #[] false 0 0 false))):AM lv P none o a V N Q:=by
 refine .inl ⟨.inl rfl,?_⟩;unfold execOp;rw[au];dsimp only;have e:a.eval (.const (.int .i64 0))=.int .i64 0:=rfl;rw[e];unfold Instr.makeChan;refine az (az ?_);unfold asInt;refine ay ?_;refine ey h1 ?_;dsimp only;refine yl h2 ?_;rw[if_neg (by simp[IntKind.max,atx,atw])];refine az ?_;unfold newObj;exact oI λc hf=>cM (ay (ay (h c hf)))
end
theorem arP{lv:Bool}{P:SK}{r:Option Nat}{code:T7}{Q:Ex->Act->View->Prop}{a:Act}{V:View}{c Wg:Nat}(sY:lv=true)(hr:V.role=.plain)(aC:c≠Wg)(hc:V.own c=some (.chan 0 #[] false 0 0 false)) (hW:V.own Wg≠none) (ou:∀o,V.ab Wg o=none)
  (h:WP lv P r code Q a {V with role:=.fork c Wg []}):WP lv P r code Q a V:=λmain J C b k cs hb bY hL=>
 (C.more sY).start _ _ c Wg hr aC hc hW ou (h main J C b k cs hb bY hL)
structure Env.Lo (E E':Env):Prop where
 I:∀b o v,E.I b o=some v->E'.I b o=some v
 n:E.n<=E'.n
 blk:∀k,k<E.n->E'.blk k=E.blk k
 fD:∀k,k<E.n->E.fD k<=E'.fD k
 room:∀k v,k<E.n->v<=E.fD k->E'.room k v=E.room k v
theorem Env.Le.lo{E E':Env}(h:E.Le E'):E.Lo E':=⟨h.I,h.n,h.blk,h.fD,h.room⟩
theorem Env.Lo.refl(E:Env):E.Lo E:=(Env.Le.refl E).lo
theorem Env.Lo.trans{E E' bE:Env}(h:E.Lo E')(k:E'.Lo bE):E.Lo bE:=
 ⟨λb o v e=>k.I b o v (h.I b o v e),UB h.n k.n,λi hi=>(k.blk i (Td hi h.n)).trans (h.blk i hi),λi hi=>UB (h.fD i hi) (k.fD i (Td hi h.n)),
  λi v hi hv=>(k.room i v (Td hi h.n) (UB hv (h.fD i hi))).trans (h.room i v hi hv)⟩
theorem Env.Lo.le{E E':Env}(h:E.Lo E'):E.Le ((E'.fu E.main).frame E.fr):=⟨h.I,h.n,h.blk,h.fD,h.room,rfl,rfl⟩
theorem aq.lo{E E':Env}(h:E.Lo E'){a:AV}{v:SO}(d:aq E a v):aq E' a v:=by
 have:=((d.mono h.le).fu E'.main).frame E'.fr;exact this
theorem Env.Ge(E:Env)(f:Nat->Option Obj):E.Lo (E.frame f):=⟨λ_ _ _ h=>h,SU _,λ_ _=>rfl,λ_ _=>SU _,λ_ _ _ _=>rfl⟩
theorem Env.amv(E:Env)(m:Bool):E.Lo (E.fu m):=⟨λ_ _ _ h=>h,SU _,λ_ _=>rfl,λ_ _=>SU _,λ_ _ _ _=>rfl⟩
theorem Env.Lo.cut{E E':Env}(h:E.Lo E'){n:Nat}(hn:E.n<=n):E.Lo {E' with n:=n}:=⟨h.I,hn,h.blk,h.fD,h.room⟩
def Env.bare (E:Env):Env:=((({E with n:=0}:Env).fu false).frame λ_=>none)
theorem aq.bare{E:Env}{a:AV}{v:SO}(h:aq E a v)(hl:Lt 0 a):aq E.bare a v:=((h.trim hl).fu false).frame _
theorem af8{E:Env}{I:cC}{ro:m_}(hI:E.I=I)(hg:ro.group=none)(hc:ro.chan=none):Conc E.bare {ab:=I,own:=λ_=>none,deaf:=0,role:=ro} []:=
 ⟨hI,rfl,λk x e=>(by cases e),λi j x y b h1=>(by cases h1),λg e=>(by rw[hg]at e;cases e),λg e=>(by rw[hc]at e;cases e),λe=>(by cases e),λb y e=>(by cases e)⟩
theorem At.arD{E:Env}{V:View}{s:AS}{a:Act}{nt t id off:Nat}(h:At E V s a nt)(hl:look s.T t=some (.op id off)):a.eval (.tmp t)=.pointer (some ⟨E.blk id,off,none⟩):=by
 have hd:=(h.tok t _ hl).2;show a.tmps.getD t undef=_;generalize a.tmps.getD t undef=v at hd;cases hd;rfl
section
variable {lv:Bool}{P:SK}{s:AS}{ms:List Nat}{nt:Nat}
def ao.pS (id:Nat)(Φ:ao->AS->List Nat->Prop):ao->AS->List Nat->Prop
 |.exit i,s,ms=>if i=id then Φ .normal s ms else Φ (.exit i) s ms
 |e,s,ms=>Φ e s ms
theorem aff{id:Nat}{c:T7}{Φ:ao->AS->List Nat->Prop}(h:mC lv P nt c s ms (ao.pS id Φ)):mC lv P nt (.block id c) s ms Φ:=by
 intro E V a Q ah hd hQ;refine wp_block (h E V a _ ah hd λae e E' V' a' s' cH hk aQ cq he hΦ=> ?_);cases ae<;>cases e<;>first
  |exact he.elim
  |skip
 ·exact hQ .normal .normal E' V' a' s' cH hk aQ cq trivial hΦ
 ·rename_i i j;have e:i=j:=he;subst e;by_cases cu:i=id
  ·simp only[Ex.inBlock,cu,if_true];simp only[ao.pS,cu,if_true]at hΦ;exact hQ .normal _ E' V' a' s' cH hk aQ cq trivial hΦ
  ·simp only[Ex.inBlock,cu,if_false];simp only[ao.pS,cu,if_false]at hΦ;exact hQ (.exit i) _ E' V' a' s' cH hk aQ cq rfl hΦ
 ·exact hQ _ _ E' V' a' s' cH hk aQ cq he hΦ
 ·exact hQ _ _ E' V' a' s' cH hk aQ cq he hΦ
 ·exact hQ _ _ E' V' a' s' cH hk aQ cq he hΦ
def ao.uZ (Φ:ao->AS->List Nat->Prop):ao->AS->List Nat->Prop
 |.goto _,_,_=>False
 |e,s,ms=>Φ e s ms
theorem afi{c:T7}{Φ:ao->AS->List Nat->Prop}(h:mC lv P nt c s ms (ao.uZ Φ)):mC lv P nt (.scope c) s ms Φ:=by
 intro E V a Q ah hd hQ;refine adm (λ_ _ _ _=>False) ⟨0,h E V a _ ah hd λae e E' V' a' s' cH hk aQ cq he hΦ=> ?_⟩ λ_ _ _ _ _ _ hf=>hf.elim;cases ae<;>cases e<;>first
  |exact he.elim
  |exact hΦ.elim
  |exact hQ _ _ E' V' a' s' cH hk aQ cq he hΦ
theorem afE(id:Nat)(Φ:ao->AS->List Nat->Prop)(s:AS)(ms:List Nat):ao.pS id Φ .normal s ms=Φ .normal s ms:=by rw[ao.pS];simp
theorem aqk(Φ:ao->AS->List Nat->Prop)(s:AS)(ms:List Nat):ao.uZ Φ .normal s ms=Φ .normal s ms:=by rw[ao.uZ];simp
theorem aqm(Φ:ao->AS->List Nat->Prop)(s:AS)(ms:List Nat):ao.uZ Φ .ret s ms=Φ .ret s ms:=by rw[ao.uZ];simp
theorem aq0(K:AS->List Nat->Prop)(Φ:ao->AS->List Nat->Prop)(s:AS)(ms:List Nat):ao.r6 K Φ .normal s ms=K s ms:=by rw[ao.r6]
theorem aq2(K:AS->List Nat->Prop)(Φ:ao->AS->List Nat->Prop)(s:AS)(ms:List Nat):ao.r6 K Φ .ret s ms=Φ .ret s ms:=by rw[ao.r6];simp
@[congr] theorem asy {c : T7} {s s' : AS} {ms cH : List Nat} {Φ : ao -> AS -> List Nat -> Prop} (h : s = s') (hd : ms = cH) : mC lv P nt c s ms Φ = mC lv P nt c s' cH Φ := by rw [h, hd]
@[congr] theorem atm {K : AS -> List Nat -> Prop} {Φ : ao -> AS -> List Nat -> Prop} {e e' : ao} {s s' : AS} {ms cH : List Nat} (he : e = e') (h : s = s') (hd : ms = cH) : ao.r6 K Φ e s ms = ao.r6 K Φ e' s' cH := by rw [he, h, hd]
@[congr] theorem atj {Φ : ao -> AS -> List Nat -> Prop} {e e' : ao} {s s' : AS} {ms cH : List Nat} (he : e = e') (h : s = s') (hd : ms = cH) : ao.uZ Φ e s ms = ao.uZ Φ e' s' cH := by rw [he, h, hd]
@[congr] theorem asM {rs : List UM} {n : Nat} {k kp : AV -> List aa -> Prop} {e e' : ao} {s s' : AS} {ms cH : List Nat} (he : e = e') (h : s = s') (hd : ms = cH) : sk P rs n k kp e s ms = sk P rs n k kp e' s' cH := by rw [he, h, hd]
theorem aiF(rs:List UM)(n:Nat)(k kp:AV->List aa->Prop)(s:AS)(ms:List Nat):sk P rs n k kp .ret s ms=ap (iK ms s.H) λH'=>ap (g_ P ⟨s.T,H'⟩ rs) λl=>cw n H' (iU l) k:=by rw[sk]
theorem y_(H:List aa):iK [] H=some H:=by rw[iK]
theorem y9{i:Nat}{ms:List Nat}{H:List aa}(h:H[i]?=some (.obj (.deferred (some [])))):iK (i::ms) H=iK ms (H.set i .gone):=by rw[iK];rw[h]
attribute [seval] afE aqk aqm aq0 aq2 aiF y_
end
section
variable {lv:Bool}{P:SK}{r:Option Nat}{s:AS}
theorem O3{E:Env}{I:cC}(hI:∀b o v,E.I b o=some v->I b o=some v){n:Nat}{l:List AV}{v:SO}(h:aq E (.sl n l .exact) v):∃a,aq (E.tok I (a,n) n) (.sl n l (.opn E.n)) v:=by
 cases h with
 |sl b o cap f dT he q1 q2=>
  have EV:cap=n:=he;subst EV;refine⟨some ⟨b,o,none⟩,?_⟩;have hle:=E.LQ (I:=I) hI (some ⟨b,o,none⟩,cap) cap;exact .sl b o cap f dT ⟨by simp[Env.tok],by simp[Env.tok],by simp[Env.tok]⟩ (λi hi=>hle.I _ _ _ (q1 i hi)) (λi x hx=>(q2 i x hx).mono hle)
 |nil he=>exact⟨_,.nil ⟨by simp[Env.tok],by simp[Env.tok],by simp[Env.tok];rfl⟩⟩
theorem vu{nt t n sz:Nat}{c:T7}{l:List AV}{el:TypeId}{Φ:ao->AS->Prop}(ht:look s.T t=some (.sl n l .exact))(h:aX lv P r nt c ⟨(t,.sl n l (.opn s.H.length))::s.T,s.H++[.tail n sz el]⟩ Φ):aX lv P r nt c s Φ:=λE V a Q ah hQ=>by
 obtain⟨hlt,hd⟩:=ah.tok t _ ht;obtain⟨ad,cq⟩:=O3 (I:=V.ab) (λb o v h=>by rw[<- ah.bm.I];exact h) hd;obtain⟨hc,hle⟩:=ah.bm.Nb (n:=n) sz el ad;refine h _ V a Q ⟨hc,λt' x hx=> ?_,ah.size⟩ λae e E' V' a' s' hk=>hQ ae e E' V' a' s' ((⟨hle,rfl,rfl,rfl,rfl⟩:Kept E _ V V a a).trans hk);simp only[look]at hx;split at hx
 ·rename_i e;subst e;cases hx;rw[<- ah.bm.n];exact⟨hlt,cq⟩
 ·exact⟨(ah.tok t' x hx).1,(ah.tok t' x hx).2.mono hle⟩
theorem O4{E:Env}{l:List AV}{cs:Array SO}{j:Nat}{a b:AV}(h:cN E l cs)(hj:l[j]?=some a)(hb:∀v,aq E a v->aq E b v):cN E (l.set j b) cs:=by
 refine⟨by rw[TQ];exact h.1,λi x hx=> ?_⟩;by_cases e:i=j
 ·subst e;rw[W_ (SN.1 hj).1]at hx;cases hx;exact hb _ (h.2 i a hj)
 ·rw[T5 (Ne.symm e)]at hx;exact h.2 i x hx
theorem H_{nt id j n sz:Nat}{c:T7}{l l':List AV}{el gn:TypeId}{Φ:ao->AS->Prop}(cu:s.H[id]?=some (.cells l el))(hj:l[j]?=some (.sl n l' .exact))(h:aX lv P r nt c ⟨s.T,s.H.set id (.cells (l.set j (.sl n l' (.opn s.H.length))) el)++[aa.tail n sz gn]⟩ Φ):aX lv P r nt c s Φ:=λE V a Q ah hQ=>by
 have hc:=ah.bm;obtain⟨⟨cs,jg,hd⟩,nE⟩:=hc.obj id _ cu;obtain⟨ad,cq⟩:=O3 (I:=V.ab) (λb o v h=>by rw[<- hc.I];exact h) (hd.2 j _ hj);obtain⟨ba,hle⟩:=hc.Nb (n:=n) sz gn ad;have hlt:=(SN.1 cu).1;have hn:(E.tok V.ab (ad,n) n).n=s.H.length+1:=by simp[Env.tok,hc.n]
 have e:s.H.set id (.cells (l.set j (.sl n l' (.opn s.H.length))) el)++[aa.tail n sz gn]=(s.H++[aa.tail n sz gn]).set id (.cells (l.set j (.sl n l' (.opn s.H.length))) el):=(Wz _ _ hlt).symm;rw[e]at h;have E_:cN (E.tok V.ab (ad,n) n) (l.set j (.sl n l' (.opn s.H.length))) cs:=by
  have h0:=hd.mono hle;refine⟨by rw[TQ];exact h0.1,λi x hx=> ?_⟩;by_cases ei:i=j
  ·subst ei;rw[W_ (SN.1 hj).1]at hx;cases hx;rw[<- hc.n];exact cq
  ·rw[T5 (Ne.symm ei)]at hx;exact h0.2 i x hx
 have hb:(E.tok V.ab (ad,n) n).blk id=E.blk id:=hle.blk id (by rw[hc.n];exact hlt);have cE:Conc (E.tok V.ab (ad,n) n) V ((s.H++[aa.tail n sz gn]).set id (.cells (l.set j (.sl n l' (.opn s.H.length))) el)):=by
  have db:(s.H++[aa.tail n sz gn])[id]?=some (.cells l el):=by rw[SW hlt];exact cu
  refine ba.iW id _ (Env.Le.refl _) ba.I (by rw[ba.n,TQ]) lW rfl (λ_ _ _=>rfl) (λb y _ hy=>⟨hy,λ_=>rfl⟩) ⟨⟨cs,by rw[hb];exact jg,E_⟩,λo=>by rw[hb];exact nE o⟩ (λb dq=> .inl ⟨_,db,dq⟩)
 refine h _ V a Q ⟨cE,ah.tok.mono hle,ah.size⟩ λae e E' V' a' s' hk=>hQ ae e E' V' a' s' ((⟨hle,rfl,rfl,rfl,rfl⟩:Kept E _ V V a a).trans hk)
theorem afd{nt id j:Nat}{c:T7}{l:List AV}{x y:AV}{el:TypeId}{Φ:ao->AS->Prop}(cu:s.H[id]?=some (.cells l el))(hj:l[j]?=some x)(hw:Wk x y)(h:aX lv P r nt c ⟨s.T,s.H.set id (.cells (l.set j y) el)⟩ Φ):aX lv P r nt c s Φ:=λE V a Q ah hQ=>by
 have hc:=ah.bm;obtain⟨⟨cs,jg,hd⟩,nE⟩:=hc.obj id _ cu;have cE:Conc E V (s.H.set id (.cells (l.set j y) el)):=
  hc.iW id _ (Env.Le.refl _) hc.I (by rw[hc.n,TQ]) lW rfl (λ_ _ _=>rfl) (λb y _ hy=>⟨hy,λ_=>rfl⟩) ⟨⟨cs,jg,O4 hd hj (hw E)⟩,nE⟩ (λb dq=> .inl ⟨_,cu,dq⟩)
 exact h E V a Q ⟨cE,ah.tok,ah.size⟩ hQ
end
structure wQ (X Y Z:Prop):Type where
 n:Nat
def UG (a:AV)(bJ:Bool)(X Y Z:Prop)(_t:wQ X Y Z):Prop:=(∃b,a=.val (.bool b)/\(b=bJ->X)/\(b= !bJ->Y))\/(a=.val undef/\Z)
theorem Hj{b bJ:Bool}{X Y Z:Prop}{t:wQ X Y Z}:UG (.val (.bool b)) bJ X Y Z t=((b=bJ->X)/\(b= !bJ->Y)):=by
 unfold UG;refine propext ⟨λh=> ?_,λh=> .inl ⟨b,rfl,h⟩⟩;rcases h with⟨b',e,h⟩|⟨e,_⟩
 ·cases e;exact h
 ·cases e
theorem arx(X Y Z:Prop)(t:wQ X Y Z):UG (.val (.bool true)) true X Y Z t=X:=by rw[Hj];simp
theorem arw(X Y Z:Prop)(t:wQ X Y Z):UG (.val (.bool true)) false X Y Z t=Y:=by rw[Hj];simp
theorem arv(X Y Z:Prop)(t:wQ X Y Z):UG (.val (.bool false)) true X Y Z t=Y:=by rw[Hj];simp
theorem aru(X Y Z:Prop)(t:wQ X Y Z):UG (.val (.bool false)) false X Y Z t=X:=by rw[Hj];simp
theorem ary(bJ:Bool)(X Y Z:Prop)(t:wQ X Y Z):UG (.val undef) bJ X Y Z t=Z:=by
 unfold UG;refine propext ⟨λh=> ?_,λh=> .inr ⟨rfl,h⟩⟩;rcases h with⟨b',e,_⟩|⟨_,h⟩
 ·cases e
 ·exact h
section
variable (lv:Bool)(P:SK)
def oc (all:Array Tx):List Tx->AS->(AS->Prop)->(AV->AS->Prop)->Prop
 |[],s,next,_=>next s
 |o::rest,s,next,bad=>match o.guard with
  |none=>mB lv P s o (λs'=>oc all rest s' next bad) bad
  |some (j,bJ)=>ap ((all[j]?).bind (·.dst)) λd=>ap (look s.T d) λa=>UG a bJ (mB lv P ⟨(d,.val (.bool bJ))::s.T,s.H⟩ o (λs'=>oc all rest s' next bad) bad) (oc all rest ((⟨(d,.val (.bool !bJ))::s.T,s.H⟩:AS).put o.dst (.val undef)) next bad) (oc all rest (s.put o.dst (.val undef)) next bad) ⟨0⟩
end
theorem art:type_of% @oc.eq_1:=by intros;rw[oc.eq_1]
theorem ars:type_of% @oc.eq_2:=by intros;rw[oc.eq_2]
@[congr] theorem atq {lv : Bool} {P : SK} {s s' : AS} {all : Array Tx} {l : List Tx} {next : AS -> Prop} {bad : AV -> AS -> Prop} (h : s = s') : oc lv P all l s next bad = oc lv P all l s' next bad := by rw [h]
attribute [seval] art ars arx arw arv aru ary
section
variable {lv:Bool}{P:SK}{r:Option Nat}{s:AS}
theorem Hl{nt:Nat}{all:Array Tx}{Φ:ao->AS->Prop}(cR:∀o∈all,∀d,o.dst=some d->d<nt)(nB:∀o∈all,r=none\/mo o.op=false):∀(n k:Nat)(s:AS),k+n=all.size->oc lv P all (all.toList.drop k) s (Φ .normal) (λpv s=>Φ (.panic pv) s)->
  ∀(E:Env)(V:View)(a:Act)(Q:Ex->Act->View->Prop),At E V s a nt->(∀ae e E' V' a' s',Kept E E' V V' a a'->At E' V' s' a' nt->pI E' ae e->Φ ae s'->Q e a' V')->da lv P r all Q (T4 k n) a V
 |0,k,s,hk,h,E,V,a,Q,ah,hQ=>by
  have:all.toList.drop k=[]:=by simp;omega
  rw[this]at h;exact hQ .normal .normal E V a s (Kept.refl E V a) ah trivial h
 |n+1,k,s,hk,h,E,V,a,Q,ah,hQ=>by
  have hlt:k<all.size:=by omega
  have hd:all.toList.drop k=all[k]::all.toList.drop (k+1):=by
   rw[TW (by simpa using hlt)];simp
  rw[hd]at h;have fI:all[k]∈all:=XX hlt;have ho:all[k]?=some all[k]:=SJ hlt;simp only[VR,da,ho];have go:∀s:AS,At E V s a nt->mB lv P s all[k] (λs'=>oc lv P all (all.toList.drop (k+1)) s' (Φ .normal) (λpv s=>Φ (.panic pv) s)) (λpv s=>Φ (.panic pv) s)->vg lv P r all[k] a V (da lv P r all Q (T4 (k+1) n)) Q:=λs ah h=>by
   refine h.sound (lv:=lv) (r:=r) E V a _ Q ah.bm ah.tok (λd e=>by rw[ah.size];exact cR _ fI d e) (nB _ fI) (λE' V' a' s' aE ba ml hn=> ?_) (λE' V' s' pv v aE ba ml bp hb=> ?_)
   ·exact Hl cR nB n (k+1) s' (by omega) hn E' V' a' Q ⟨ba,ml,aE.size.trans ah.size⟩ (λae e bE aP bT b8 fW cQ he hΦ=>hQ ae e bE aP bT b8 (aE.trans fW) cQ he hΦ)
   ·exact hQ (.panic pv) (.panic _) E' V' a s' aE ⟨ba,ml,ah.size⟩ ⟨v,rfl,bp⟩ hb
  simp only[oc]at h;split at h
  ·rename_i hg;have hw:Tc all[k] (yielded all a.tmps)=true:=(by unfold Tc;rw[hg]);rw[if_pos hw];exact .inl (go s ah h)
  ·rename_i j bJ hg;obtain⟨d,eF,h⟩:=h.out;obtain⟨av,h1,h⟩:=h.out;rcases h with⟨b,rfl,h2,h3⟩|⟨rfl,h3⟩
   case inr=>
    have hv:=(ah.tok d _ h1).2;have hy:yielded all a.tmps j≠some bJ:=by
     obtain⟨oj,gX,fH⟩:=S_.1 eF;generalize hx:a.tmps.getD d undef=x at hv;cases hv;have mh:d<a.tmps.size:=(ah.tok d _ h1).1;rw[SI,SJ mh]at hx;simp only[S8]at hx;simp[yielded,gX,fH,SJ mh,hx,undef]
    have hw:¬Tc all[k] (yielded all a.tmps)=true:=by
     unfold Tc;rw[hg];intro h;exact hy (by simpa using h)
    rw[if_neg hw];exact Hl cR nB n (k+1) (s.put all[k].dst (.val undef)) (by omega) h3 E V (a.put all[k].dst undef) Q
     ⟨by rw[ft];exact ah.bm,ah.tok.gZ (λd e=>by rw[ah.size];exact cR _ fI d e) (.val undef),by rw[dP];exact ah.size⟩
     (λae e bE aP bT b8 fW cQ he hΦ=>hQ ae e bE aP bT b8 ⟨fW.le,fW.size.trans (dP _ _ _),fW.defers.trans (put_defers _ _ _),fW.role,fW.deaf⟩ cQ he hΦ)
   have hv:=(ah.tok d _ h1).2;have hy:yielded all a.tmps j=some b:=by
    obtain⟨oj,gX,fH⟩:=S_.1 eF;generalize hx:a.tmps.getD d undef=x at hv;cases hv;have mh:d<a.tmps.size:=(ah.tok d _ h1).1;rw[SI,SJ mh]at hx;simp only[S8]at hx;simp[yielded,gX,fH,SJ mh,hx]
   have pw:∀b',b=b'->At E V ⟨(d,.val (.bool b'))::s.T,s.H⟩ a nt:=λb' dq=>by
    subst dq;refine⟨ah.bm,λt x e=> ?_,ah.size⟩;simp only[look]at e;split at e
    ·rename_i e';subst e';cases e;exact ah.tok d _ h1
    ·exact ah.tok t x e
   by_cases hb:b=bJ
   ·have hw:Tc all[k] (yielded all a.tmps)=true:=(by unfold Tc;rw[hg];simp[hy,hb]);rw[if_pos hw];exact .inl (go _ (pw bJ hb) (h2 hb))
   ·have hw:¬Tc all[k] (yielded all a.tmps)=true:=(by unfold Tc;rw[hg];simp[hy,hb]);rw[if_neg hw];have dq:b= !bJ:=(by cases b<;>cases bJ<;>simp_all);have vJ:=h3 dq;have ah:=pw _ dq;exact Hl cR nB n (k+1) ((⟨(d,.val (.bool !bJ))::s.T,s.H⟩:AS).put all[k].dst (.val undef)) (by omega) vJ E V (a.put all[k].dst undef) Q
     ⟨by rw[ft];exact ah.bm,ah.tok.gZ (λd e=>by rw[ah.size];exact cR _ fI d e) (.val undef),by rw[dP];exact ah.size⟩
     (λae e bE aP bT b8 fW cQ he hΦ=>hQ ae e bE aP bT b8 ⟨fW.le,fW.size.trans (dP _ _ _),fW.defers.trans (put_defers _ _ _),fW.role,fW.deaf⟩ cQ he hΦ)
theorem ae8{nt id:Nat}{ops:Array Tx}{Φ:ao->AS->Prop}(hd:jT nt ops=true)(h:oc lv P ops ops.toList s (Φ .normal) (λpv s=>Φ (.panic pv) s)):aX lv P r nt (.region id ops false) s Φ:=by
 intro E V a Q ah hQ;refine wp_region ?_;rw[Vo];exact Hl (Φ:=Φ) (λo ho d e=>(jT.out hd ho).1 d e) (λo ho=> .inr (jT.out hd ho).2) ops.size 0 s (by omega) (by simpa using h) E V a Q ah hQ
end
section
variable (lv:Bool)(P:SK)
def n_ (all:Array Tx):List Tx->AS->(AS->Prop)->Prop
 |[],s,K=>K s
 |o::rest,s,K=>match o.guard with
  |none=>AQ lv P s o λav=>n_ all rest (s.put o.dst av) K
  |some (j,bJ)=>ap ((all[j]?).bind (·.dst)) λd=>ap (look s.T d) λa=>UG a bJ (AQ lv P ⟨(d,.val (.bool bJ))::s.T,s.H⟩ o λav=>n_ all rest ((⟨(d,.val (.bool bJ))::s.T,s.H⟩:AS).put o.dst av) K) (n_ all rest ((⟨(d,.val (.bool !bJ))::s.T,s.H⟩:AS).put o.dst (.val undef)) K) (n_ all rest (s.put o.dst (.val undef)) K) ⟨0⟩
end
theorem aoS:type_of% @n_.eq_1:=by intros;rw[n_.eq_1]
theorem aoR:type_of% @n_.eq_2:=by intros;rw[n_.eq_2]
@[congr] theorem ath {lv : Bool} {P : SK} {s s' : AS} {all : Array Tx} {l l' : List Tx} {K : AS -> Prop} (hl : l = l') (h : s = s') : n_ lv P all l s K = n_ lv P all l' s' K := by rw [hl, h]
attribute [seval] aoS aoR
def vc (lv:Bool)(P:SK)(r:Option Nat)(ops:Array Tx)(T0:List (Nat×AV))(H:List aa)(f:Nat->AV)(i:Nat)(o:Tx):Prop:=
 match o.guard with
 |none=>dh lv P r o ⟨fx ops f o++T0,H⟩ (f i)
 |some (j,bJ)=>∃d,b9 ops j=some d/\((∃b,look (fx ops f o++T0) d=some (.val (.bool b))/\(b=bJ->dh lv P r o ⟨fx ops f o++T0,H⟩ (f i))/\(b= !bJ->f i=.val undef))\/(look (fx ops f o++T0) d=some (.val undef)/\f i=.val undef))
section
variable {lv:Bool}{P:SK}{r:Option Nat}{s:AS}{ops:Array Tx}{nt p:Nat}
theorem GU(am:vd nt p ops){K:AS->Prop}:∀(n:Nat)(fs:List AV)(s':AS),fs.length+n=p->lD s ops fs s'->n_ lv P ops ((ops.toList.take p).drop fs.length) s' K->
  ∃gs,(fs++gs).length=p/\(∀i o,fs.length<=i->i<p->ops[i]?=some o->vc lv P r ops (mK s ops p) s.H (λj=>(fs++gs).getD j (.val undef)) i o)/\∃b8,lD s ops (fs++gs) b8/\K b8
 |0,fs,s',hn,hr,h=>by
  have:(ops.toList.take p).drop fs.length=[]:=by
   apply TO;simp;omega
  rw[this]at h;exact⟨[],by simp;omega,λi o h1 h2=>absurd h2 (by omega),s',by simpa using hr,h⟩
 |n+1,fs,s',hn,hr,h=>by
  have hp:fs.length<p:=by omega
  have aU:fs.length<ops.size:=Td hp am.le;have ho:ops[fs.length]?=some ops[fs.length]:=SJ aU;generalize Cg:ops[fs.length]=o at ho;have hd:(ops.toList.take p).drop fs.length=o::(ops.toList.take p).drop (fs.length+1):=by
   rw[TW (by simp;omega)];simp[Cg]
  rw[hd]at h;have KE:∀t,ZB t∈o.op.operands->∀j,j<p->b9 ops j=some t->j∈cK o:=λt ht j hj e=>am.Gz fs.length o t j hp ho ht hj e;have cr:∀(s1:AS)(gs:List AV),lD s ops fs s1->∀x∈o.op.operands,AS.ev s1 x=AS.ev ⟨fx ops (λj=>(fs++gs).getD j (.val undef)) o++mK s ops p,s.H⟩ x:=λs1 gs rF x hx=>by
   cases x with
   |tmp t=>exact(rF.seen am hp ho (KE t hx)).symm
   |_=>rfl
  have go:∀(s1:AS),lD s ops fs s1->(AQ lv P s1 o λav=>n_ lv P ops ((ops.toList.take p).drop (fs.length+1)) (s1.put o.dst av) K)->
    ∃av gs,(fs++av::gs).length=p/\dh lv P r o ⟨fx ops (λj=>(fs++av::gs).getD j (.val undef)) o++mK s ops p,s.H⟩ av/\(∀i o,fs.length+1<=i->i<p->ops[i]?=some o->vc lv P r ops (mK s ops p) s.H (λj=>(fs++av::gs).getD j (.val undef)) i o)/\∃b8,lD s ops (fs++av::gs) b8/\K b8:=λs1 rF h1=>by
   obtain⟨av0,_,_⟩:=h1.sound (r:=r);have dD:s1=⟨s1.T,s.H⟩:=(by rw[<- rF.H]);rw[dD]at h1;have h2:=AQ.congr (T':=fx ops (λj=>(fs++[]).getD j (.val undef)) o++mK s ops p) (λx hx=>by rw[<- dD];exact cr s1 [] rF x hx) h1;obtain⟨av,hq,h3⟩:=h2.sound (r:=r);obtain⟨gs,g1,g2,b8,g3,g4⟩:=GU am n (fs++[av]) (s1.put o.dst av) (by simp;omega) (rF.put am hp ho av) (by rw[<- dD]at h3;simpa using h3);have e:fs++[av]++gs=fs++av::gs:=(by simp);rw[e]at g1 g2 g3;refine⟨av,gs,g1,?_,λi o hi=>g2 i o (by simpa using hi),b8,g3,g4⟩;have ed:fx ops (λj=>(fs++av::gs).getD j (.val undef)) o=fx ops (λj=>(fs++[]).getD j (.val undef)) o:=by
    unfold fx;apply I5;intro j hj;have eR:=am.low fs.length o ho j hj;simp[SE,SW eR]
   rw[ed];exact hq
  simp only[n_]at h;split at h
  ·rename_i hg;obtain⟨av,gs,g1,g2,g3,g4⟩:=go s' hr h;refine⟨av::gs,g1,λi o' hi io aO=> ?_,g4⟩;by_cases cS:i=fs.length
   ·subst cS;rw[ho]at aO;cases aO;unfold vc;rw[hg];simpa[SE]using g2
   ·exact g3 i o' (by omega) io aO
  ·rename_i j bJ hg;obtain⟨d,eF,hA⟩:=h.out;obtain⟨a,eM,hB⟩:=hA.out;have gT:=am.za fs.length o j bJ hp ho hg;have eR:=am.low fs.length o ho j gT;have xQ:∀gs,look (fx ops (λj=>(fs++gs).getD j (.val undef)) o++mK s ops p) d=some a:=λgs=>by
    rw[hr.seen am hp ho λj' gH e=> ?_]
    ·exact eM
    ·have get:∀i,i<p->∃o,ops[i]?=some o:=λi hi=>⟨_,SJ (Td hi am.le)⟩;rcases Wb j j' with hlt|hlt|hlt
     ·obtain⟨o',aO⟩:=get j' gH;exact absurd eF (am.dx j' j o' d hlt gH aO (by simpa[b9,aO]using e))
     ·rw[<- hlt];exact gT
     ·obtain⟨o',aO⟩:=get j (by omega);exact absurd e (am.dx j j' o' d hlt (by omega) aO (by simpa[b9,aO]using eF))
   rcases hB with⟨b,e1,hC,hD⟩|⟨e1,hZ⟩
   case inr=>
    subst e1;obtain⟨gs,g1,g2,b8,g3,g4⟩:=GU am n (fs++[.val undef]) _ (by simp;omega) (hr.put am hp ho (.val undef)) (by simpa using hZ);have e:fs++[.val undef]++gs=fs++ .val undef::gs:=(by simp);rw[e]at g1 g2 g3;refine⟨.val undef::gs,g1,λi o' hi io aO=> ?_,b8,g3,g4⟩;by_cases cS:i=fs.length
    ·subst cS;rw[ho]at aO;cases aO;unfold vc;rw[hg];exact⟨d,eF,.inr ⟨xQ _,by simp[SE]⟩⟩
    ·exact g2 i o' (by simp;omega) io aO
   subst e1;by_cases hb:b=bJ
   ·subst hb;obtain⟨av,gs,g1,g2,g3,g4⟩:=go _ (hr.pw eM) (hC rfl);refine⟨av::gs,g1,λi o' hi io aO=> ?_,g4⟩;by_cases cS:i=fs.length
    ·subst cS;rw[ho]at aO;cases aO;unfold vc;rw[hg];refine⟨d,eF,.inl ⟨b,xQ _,λ_=>by simpa[SE]using g2,λe=>by cases b<;>cases e⟩⟩
    ·exact g3 i o' (by omega) io aO
   ·have dq:b= !bJ:=(by cases b<;>cases bJ<;>simp_all);subst dq;have h3:=hD rfl;obtain⟨gs,g1,g2,b8,g3,g4⟩:=GU am n (fs++[.val undef]) _ (by simp;omega) ((hr.pw eM).put am hp ho (.val undef)) (by simpa using h3);have e:fs++[.val undef]++gs=fs++ .val undef::gs:=(by simp);rw[e]at g1 g2 g3;refine⟨.val undef::gs,g1,λi o' hi io aO=> ?_,b8,g3,g4⟩;by_cases cS:i=fs.length
    ·subst cS;rw[ho]at aO;cases aO;unfold vc;rw[hg];exact⟨d,eF,.inl ⟨!bJ,xQ _,λe=>absurd e hb,λ_=>by simp[SE]⟩⟩
    ·exact g2 i o' (by simp;omega) io aO
theorem agx{T0:List (Nat×AV)}{H:List aa}{f:Nat->AV}(am:vd nt p ops)(JJ:∀j,j<p->∀d,b9 ops j=some d->look T0 d=none)(au:∀(i:Nat) o,i<p->ops[i]?=some o->vc lv P r ops T0 H f i o){X l:List Nat}(hs:lF ops X l):
  (∀i∈X,i<p)->(∀i∈X,∀o,ops[i]?=some o->∀j∈cK o,j∈X)->∀(E:Env)(V:View)(a:Act)(Q:Ex->Act->View->Prop),yu E V ops T0 H f X a nt->
   (∀E' V' a' X',Kept E E' V V' a a'->yu E' V' ops T0 H f X' a' nt->(∀i,i<p->i∈X')->da lv P r ops Q (T4 p (ops.size-p)) a' V')->da lv P r ops Q l a V:=by
 have full:∀X:List Nat,(∀i∈X,i<p)->(∀i,i<p->i∈X)->∀i,i∈X<->i<p:=λX h1 h2 i=>⟨h1 i,h2 i⟩;induction hs with
 |nil X h=>
  intro hX hc E V a Q ah hQ;have dY:p=ops.size:=by
   apply Tt;intro aC;have:=hX p (h p (by have:=am.le;omega));omega
  have:=hQ E V a X (Kept.refl E V a) ah (λi hi=>h i (by omega));rw[dY,U6]at this;exact this
 |cons o ho hn hd kI ih=>
  rename_i X i l;intro hX hc E V a Q ah hQ;have hi:i<ops.size:=(SS.1 ho).1;by_cases io:i<p
  ·simp only[da,ho];have lK:∀k∈i::X,k<p:=λk hk=>(SL.1 hk).elim (λe=>by rw[e];exact io) (hX k);have ba:∀k∈i::X,∀o',ops[k]?=some o'->∀j∈cK o',j∈i::X:=λk hk o' aO j hj=>by
    rcases SL.1 hk with rfl|hk
    ·rw[ho]at aO;cases aO;exact Ta _ (hd j hj)
    ·exact Ta _ (hc k hk o' aO j hj)
   have tok:cj E (fx ops f o++T0) a.tmps:=by
    intro t av e;rw[x8]at e;cases hl:look (fx ops f o) t with
    |none=>rw[hl]at e;exact ah.base t av e
    |some x=>
     rw[hl]at e;cases e;obtain⟨j,hj,e⟩:=VD.1 (qx hl);obtain⟨d,cq,e⟩:=Tp.1 e;cases e;obtain⟨oj,gX,fH⟩:=S_.1 cq;exact⟨by rw[ah.size];exact am.dst j oj _ gX fH,ah.done j (hd j hj) _ cq⟩
   have nC:b9 ops i=o.dst:=(by simp[b9,ho]);have put:∀{E' V'}(v:SO),E.Le E'->Conc E' V' H->aq E' (f i) v->yu E' V' ops T0 H f (i::X) (a.put o.dst v) nt:=λ{E' V'} v hle cE hv=>by
    cases cR:o.dst with
    |none=>
     refine⟨cE,ah.base.mono hle,λk hk d dC=> ?_,ah.size⟩;rcases SL.1 hk with rfl|hk
     ·rw[nC,cR]at dC;cases dC
     ·exact(ah.done k hk d dC).mono hle
    |some d0=>
     have hlt:d0<a.tmps.size:=(by rw[ah.size];exact am.dst i o d0 ho cR);refine⟨cE,λt av e=> ?_,λk hk d dC=> ?_,by simp[Ws,ah.size]⟩
     ·have aC:d0≠t:=λe'=>(by rw[<- e',JJ i io d0 (by rw[nC,cR])]at e;cases e);have:=ah.base.mono hle t av e;exact⟨by simpa[Ws]using this.1,by simpa[Ws,SI,SR aC]using this.2⟩
     ·by_cases nF:k=i
      ·subst nF;rw[nC,cR]at dC;cases dC;simpa[Ws,SI,S9 hlt]using hv
      ·have aE:k∈X:=(SL.1 hk).resolve_left nF;have aC:d0≠d:=λe'=>by
        subst e';have B7:=hX k aE;have get:∀i,i<p->∃o,ops[i]?=some o:=λi hi=>⟨_,SJ (Td hi am.le)⟩;rcases Wb k i with hlt|hlt|hlt
        ·exact am.dx i k o d0 hlt io ho cR dC
        ·exact nF hlt
        ·obtain⟨o',aO⟩:=get k B7;exact am.dx k i o' d0 hlt B7 aO (by simpa[b9,aO]using dC) (by rw[nC,cR])
       have:=(ah.done k aE d dC).mono hle;simpa[Ws,SI,SR aC]using this
   have go:dh lv P r o ⟨fx ops f o++T0,H⟩ (f i)->vg lv P r o a V (da lv P r ops Q l) Q:=λhq=>
    hq E V a _ Q ah.bm tok (.inr (am.sG i o ho)) λE' V' v hle bY eQ cE hv=>
     ih lK ba E' V' (a.put o.dst v) Q (put v hle cE hv) λbE aP bT jO hk cQ dX=>
      hQ bE aP bT jO ⟨hle.trans hk.le,hk.size.trans (dP _ _ _),hk.defers.trans (put_defers _ _ _),hk.role.trans bY,hk.deaf.trans eQ⟩ cQ dX
   have rl:=au i o io ho;unfold vc at rl;split at rl
   ·rename_i ru;have hw:Tc o (yielded ops a.tmps)=true:=(by unfold Tc;rw[ru]);rw[if_pos hw];exact .inl (go rl)
   ·rename_i j bJ ru;obtain⟨d,eF,⟨b,bO,h1,h2⟩|⟨bO,hu⟩⟩:=rl
    case inr=>
     obtain⟨hlt,hv⟩:=tok d _ bO;have hy:yielded ops a.tmps j≠some bJ:=by
      obtain⟨oj,gX,fH⟩:=S_.1 eF;generalize hx:a.tmps.getD d undef=x at hv;cases hv;rw[SI,SJ hlt]at hx;simp only[S8]at hx;simp[yielded,gX,fH,SJ hlt,hx,undef]
     have hw:¬Tc o (yielded ops a.tmps)=true:=by
      unfold Tc;rw[ru];intro h;exact hy (by simpa using h)
     rw[if_neg hw];exact ih lK ba E V (a.put o.dst undef) Q (put undef (Env.Le.refl E) ah.bm (by rw[hu];exact .val _)) λbE aP bT jO hk cQ dX=>
      hQ bE aP bT jO ⟨hk.le,hk.size.trans (dP _ _ _),hk.defers.trans (put_defers _ _ _),hk.role,hk.deaf⟩ cQ dX
    obtain⟨hlt,hv⟩:=tok d _ bO;have hy:yielded ops a.tmps j=some b:=by
     obtain⟨oj,gX,fH⟩:=S_.1 eF;generalize hx:a.tmps.getD d undef=x at hv;cases hv;rw[SI,SJ hlt]at hx;simp only[S8]at hx;simp[yielded,gX,fH,SJ hlt,hx]
    by_cases hb:b=bJ
    ·have hw:Tc o (yielded ops a.tmps)=true:=(by unfold Tc;rw[ru];simp[hy,hb]);rw[if_pos hw];exact .inl (go (h1 hb))
    ·have hw:¬Tc o (yielded ops a.tmps)=true:=(by unfold Tc;rw[ru];simp[hy,hb]);rw[if_neg hw];have hu:=h2 (by cases b<;>cases bJ<;>simp_all);exact ih lK ba E V (a.put o.dst undef) Q (put undef (Env.Le.refl E) ah.bm (by rw[hu];exact .val _)) λbE aP bT jO hk cQ dX=>
      hQ bE aP bT jO ⟨hk.le,hk.size.trans (dP _ _ _),hk.defers.trans (put_defers _ _ _),hk.role,hk.deaf⟩ cQ dX
  ·have dX:∀k,k<p->k∈X:=λk hk=>yg hc (am.M6 i k (by omega) hi (by omega)) (λo' aO j hj=>by rw[ho]at aO;cases aO;exact hd j hj);have hl:=abS am (.cons o ho hn hd kI) p (SU _) am.le (full X hX dX) hc;rw[hl];exact hQ E V a X (Kept.refl E V a) ah dX
theorem ae3{id:Nat}{Φ:ao->AS->Prop}(hm:P.follows .mixedOrders=true)(p:Nat)(am:vF nt p ops=true)(h:n_ lv P ops (ops.toList.take p) s (λs'=>h_ lv P ops (ops.toList.drop p) s' (Φ .normal) (λpv s=>Φ (.panic pv) s))):aX lv P r nt (.region id ops true) s Φ:=by
 intro E V a Q ah hQ;have am:=vF.out am;obtain⟨gs,g1,g2,b8,g3,g4⟩:=GU (lv:=lv) (r:=r) am p [] s (by simp) ⟨rfl,by simp,by simp⟩ (by simpa using h);simp only[Uw]at g1 g2 g3;refine Hp λt=> ?_;rw[show Vf (P.follows .mixedOrders) ops t=Us .any ops ops.size t (TE ops.size false) [] by unfold Vf;rw[hm];simp[XB]];have hs:=LR (ops:=ops) (λi o ho j hj=>am.low i o ho j hj) ops.size t (TE ops.size false) [] ⟨by simp,λi hi=>by simp[hi]⟩ (UB Xa (by simp));refine agx (T0:=mK s ops p) (H:=s.H) am (λj hj d hd=> ?_) (λi o hi ho=>g2 i o (by simp) hi ho) hs (by simp) (by simp) E V a Q ⟨ah.bm,λt av e=> ?_,by simp,ah.size⟩ λE' V' a' X' hk aQ dX=> ?_
 ·rw[x9,if_neg];simp only[Tv];intro h;have:=h j (by simpa using hj);rw[hd]at this;simp at this
 ·rw[x9]at e;split at e
  ·exact ah.tok t av e
  ·cases e
 ·refine yd (Φ:=Φ) (λo ho d e=> ?_) (λo ho=> .inr ?_) (ops.size-p) p b8 (by have:=am.le;omega) g4 E' V' a' Q ⟨by rw[g3.H];exact aQ.bm,λt av e=> ?_,aQ.size⟩ (λae e bE aP bT s3 aE ov he hΦ=>hQ ae e bE aP bT s3 (hk.trans aE) ov he hΦ)
  ·obtain⟨i,hi⟩:=V_.1 ho;exact am.dst i o d hi e
  ·obtain⟨i,hi⟩:=V_.1 ho;exact am.sG i o hi
  ·by_cases hex:∃j,j<p/\b9 ops j=some t
   ·obtain⟨j,hj,qb⟩:=hex;rw[g3.new j t (by omega) qb]at e;obtain⟨oj,gX,fH⟩:=S_.1 qb;refine⟨by rw[aQ.size];exact am.dst j oj t gX fH,?_⟩;have:=aQ.done j (dX j hj) t qb;simpa[SE,e]using this
   ·have fq:∀j,j<p->b9 ops j≠some t:=λj hj e=>hex ⟨j,hj,e⟩;rw[g3.old t λj hj=>fq j (by omega)]at e;refine aQ.base t av ?_;rw[x9,if_pos (by simp only[Tv];intro j hj;simpa using fq j (by simpa using hj))];exact e
end
section
variable {P:SK}
def DE (P:SK)(d:Nat)(t:TypeId):Prop:=(∃u,P.underlying t=some u/\yI u=false)/\∀x y:Int,cD P (U_ d t (.int .i64 x) (.int .i64 y)) (x==y)
def DF (P:SK)(d:Nat)(t:TypeId)(n:Nat):Prop:=(∃u,P.underlying t=some u/\yI u=true)/\(∃i,P.info? t=some i/\i.size=n)/\∀xs ys:List Int,xs.length=n->ys.length=n->cD P (U_ d t (.agg (xs.map (SG .i64)).toArray) (.agg (ys.map (SG .i64)).toArray)) (xs==ys)
inductive sj (P:SK)(d:Nat):Nat->List YW->Nat->Prop
 |nil (o:Nat):sj P d o [] o
 | one {o n : Nat} {f : YW} {fs : List YW} (hn : f.name ≠ "_") (ho : f.offset = o) (h : DE P d f.type) (t : sj P d (o + 1) fs n) : sj P d o (f :: fs) n
 | sub {o m n : Nat} {f : YW} {fs : List YW} (hn : f.name ≠ "_") (ho : f.offset = o) (h : DF P d f.type m) (t : sj P d (o + m) fs n) : sj P d o (f :: fs) n
theorem sj.le{d o n:Nat}{fs:List YW}(h:sj P d o fs n):o<=n:=by
 induction h with
 |nil=>exact SU _
 |one _ _ _ _ ih=>omega
 |sub _ _ _ _ ih=>omega
theorem Pv(xs:List Int)(o m:Nat):(xs.map (SG .i64)).toArray.extract o (o+m)=(((xs.drop o).take m).map (SG .i64)).toArray:=by
 simp[List.extract_eq_take_drop,VU,ai']
theorem aqD {d n N : Nat} {xs ys : List Int} {body : YW -> Option Bool × Unit -> Sem (ForInStep (Option Bool × Unit))} (hx : xs.length = N) (hy : ys.length = N) (hb : ∀ f s, body f s = (if f.name ≠ "_" then (do
   let a<- part f.type (xs.map (SG .i64)).toArray f.offset;let b<- part f.type (ys.map (SG .i64)).toArray f.offset;let r<- U_ d f.type a b
   if(!r)=true then pure (.done (some false,()))else pure (.yield (none,())))else pure (.yield (none,())))):
  ∀{o:Nat}{fs:List YW},sj P d o fs n->n<=N->cD P (forIn fs (none,()) body) (if(xs.drop o).take (n-o)==(ys.drop o).take (n-o)then(none,())else(some false,())):=by
 intro o fs h hn;induction h with
 |nil o=>simpa using iA (none,())
 |@one o n f fs Ky ho h t ih=>
  have hle:=t.le;have RP:o<xs.length:=by omega
  have RQ:o<ys.length:=by omega
  obtain⟨⟨u,hu,Cs⟩,he⟩:=h;rw[W3,hb,if_pos Ky,ho];refine lB (a:=if xs[o]==ys[o]then .yield (none,())else .done (some false,())) ?_ ?_
  ·refine Dc hu Cs (v:=.int .i64 xs[o]) (by simp[RP]) ?_;refine Dc hu Cs (v:=.int .i64 ys[o]) (by simp[RQ]) ?_;refine lB (he _ _) ?_;cases hq:xs[o]==ys[o]<;>exact iA _
  ·have e:((xs.drop o).take (n-o)==(ys.drop o).take (n-o))=((xs[o]==ys[o])&&((xs.drop (o+1)).take (n-(o+1))==(ys.drop (o+1)).take (n-(o+1)))):=by
    rw[TW RP,TW RQ,show n-o=(n-(o+1))+1 by omega,VQ,VQ];rfl
   rw[e];cases hq:xs[o]==ys[o]with
   |true=>simp only[if_true,U5];exact ih hn
   |false=>simp only[TM,if_false,Xr];exact iA _
 |@sub o m n f fs Ky ho h t ih=>
  have hle:=t.le;obtain⟨⟨u,hu,Cs⟩,⟨i,hi,dn⟩,he⟩:=h;rw[W3,hb,if_pos Ky,ho];refine lB (a:=if(xs.drop o).take m==(ys.drop o).take m then .yield (none,())else .done (some false,())) ?_ ?_
  ·refine acN hu Cs hi ?_;refine acN hu Cs hi ?_;rw[dn,Pv,Pv];refine lB (he _ _ (by rw[T_,Uk];omega) (by rw[T_,Uk];omega)) ?_;cases hq:(xs.drop o).take m==(ys.drop o).take m<;>exact iA _
  ·have e:((xs.drop o).take (n-o)==(ys.drop o).take (n-o))=(((xs.drop o).take m==(ys.drop o).take m)&&((xs.drop (o+m)).take (n-(o+m))==(ys.drop (o+m)).take (n-(o+m)))):=by
    have hs:∀zs:List Int,(zs.drop o).take (n-o)=(zs.drop o).take m++(zs.drop (o+m)).take (n-(o+m)):=λzs=>by
     rw[show n-o=m+(n-(o+m)) by omega,List.take_add,ae_]
    rw[hs,hs,UI,Ti,beq_iff_eq,beq_iff_eq,beq_iff_eq];exact⟨λh=>List.append_inj h (by simp[T_,Uk];omega),λh=>by rw[h.1,h.2]⟩
   rw[e];cases hq:(xs.drop o).take m==(ys.drop o).take m with
   |true=>simp only[if_true,U5];exact ih hn
   |false=>simp only[TM,if_false,Xr];exact iA _
theorem agS{t:TypeId}{fs:Array YW}{d n:Nat}{i:Wl}(ht:P.underlying t=some (.struct fs))(hs:P.stoodInHeld t=false)(hi:P.info? t=some i)(dn:i.size=n)(hf:sj P d 0 fs.toList n):DF P (d+1) t n:=by
 refine ⟨⟨_, ht, rfl⟩, ⟨i, hi, dn⟩, λxs ys hx hy => ?_⟩;rw [U_];refine wF ht ?_;dsimp only;refine M8 ?_;rw [hs];simp only [TM, if_false];rw [<- Array.forIn_toList];refine lB (a := if (xs == ys) then (none, ()) else (some false, ())) ?_ (by cases xs == ys <;> exact iA _);have := aqD (body := λf (_ : Option Bool × Unit) => if f.name ≠ "_" then (do
   let a<- part f.type (xs.map (SG .i64)).toArray f.offset;let b<- part f.type (ys.map (SG .i64)).toArray f.offset;let r<- U_ d f.type a b
   if(!r)=true then pure (ForInStep.done (some false,()))else pure (YZ (none,())))else pure (YZ (none,()))) hx hy (λf s=>rfl) hf (SU _)
 simp only[XA,Z0]at this;rw[SY (by omega),SY (by omega)]at this;exact this
theorem agR{t:TypeId}{k0:TU}{d:Nat}(ht:P.underlying t=some (.int k0)):DE P (d+1) t:=⟨⟨_,ht,rfl⟩,λ_ _=>acL ht⟩
def Bp (g:TypeId->Option (Option Nat)):List YW->Nat->Option Nat
 |[],o=>some o
 | f :: fs, o => if f.name ≠ "_" /\ f.offset = o then (match g f.type with
  |some none=>Bp g fs (o+1)
  |some (some m)=>Bp g fs (o+m)
  |none=>none)else none
def xg (P:SK):Nat->TypeId->Option (Option Nat)
 |0,_=>none
 |d+1,t=>match P.underlying t with
  |some (.int _)=>some none
  |some (.struct fs)=>if P.stoodInHeld t then none else(match Bp (xg P d) fs.toList 0,P.info? t with
   |some n,some i=>if i.size=n then some (some n)else none
   |_,_=>none)
  |_=>none
theorem I9{d n:Nat}{g:TypeId->Option (Option Nat)}(h1:∀t,g t=some none->DE P d t)(h2:∀t m,g t=some (some m)->DF P d t m):∀(fs:List YW)(o:Nat),Bp g fs o=some n->sj P d o fs n
 |[],o,h=>by cases h;exact .nil _
 |f::fs,o,h=>by
  rw[Bp]at h;split at h
  ·rename_i hc;split at h
   ·rename_i hg;exact .one hc.1 hc.2 (h1 _ hg) (I9 h1 h2 fs _ h)
   ·rename_i m hg;exact .sub hc.1 hc.2 (h2 _ _ hg) (I9 h1 h2 fs _ h)
   ·cases h
  ·cases h
theorem PM:∀(d:Nat)(t:TypeId),(xg P d t=some none->DE P d t)/\∀n,xg P d t=some (some n)->DF P d t n
 |0,t=>⟨λh=>by simp[xg]at h,λn h=>by simp[xg]at h⟩
 |d+1,t=>by
  have ih:=λt=>PM d t;rw[xg];split
  ·rename_i k0 hu;exact⟨λ_=>agR hu,λn h=>by cases h⟩
  ·rename_i fs hu;split
   ·exact⟨λh=>(by cases h),λn h=>by cases h⟩
   ·rename_i hs;split
    ·rename_i n i hf hi;split
     ·rename_i dn;refine⟨λh=>(by cases h),λm h=> ?_⟩;cases h;exact agS hu (by simpa using hs) hi dn (I9 (λt=>(ih t).1) (λt=>(ih t).2) _ _ hf)
     ·exact⟨λh=>(by cases h),λn h=>by cases h⟩
    ·exact⟨λh=>(by cases h),λn h=>by cases h⟩
  ·exact⟨λh=>(by cases h),λn h=>by cases h⟩
theorem aei{t:TypeId}{n:Nat}{xs ys:List Int}(h:xg P 10000 t=some (some n))(hg:P.eqGuardType P.depth t=false)(hx:xs.length=n)(hy:ys.length=n)(k:AV->Prop):dw P .eql t (.agg (xs.map iv)) (.agg (ys.map iv)) k=k (bv (xs==ys)):=by
 have wa:cD P (Xj t (.agg (xs.map (SG .i64)).toArray) (.agg (ys.map (SG .i64)).toArray)) (xs==ys):=((PM 10000 t).2 n h).2.2 xs ys hx hy;have e:dw P .eql t (.agg (xs.map iv)) (.agg (ys.map iv)) k=((XK=.eql\/XK=.neq)/\ap (AV.raw (.agg (xs.map iv))) λX=>ap (AV.raw (.agg (ys.map iv))) λY=>xc X Y=true/\P.eqGuardType P.depth t=false/\∃e,cD P (Xj t X Y) e/\k (.val (.bool (if XK== .neq then !e else e)))):=rfl;rw[e,yf,yf,ww,ww];apply propext;constructor
 ·rintro⟨_,_,_,b,h1,h2⟩
  rw[wa.uniq h1];exact h2
 ·intro h;exact⟨.inl rfl,rfl,hg,_,wa,h⟩
end
section
variable {lv:Bool}{P:SK}{s:AS}{ms:List Nat}{bs:List UX}{nt:Nat}
def tQ (E:Env)(ms:List Nat)(bs l:List UX):Prop:=l=ms.map (λi=>({target:=.collected (E.blk i),args:=#[]}:UX))++bs/\∀i∈ms,i<E.n
theorem tQ.mono{E E':Env}(h:E.Le E'){ms:List Nat}{bs l:List UX}(k:tQ E ms bs l):tQ E' ms bs l:=
 ⟨by rw[k.1];congr 1;exact VA λi hi=>by rw[h.blk i (k.2 i hi)],λi hi=>Td (k.2 i hi) h.n⟩
def kz (lv:Bool)(P:SK)(nt:Nat)(bs:List UX)(c:T7)(s:AS)(ms:List Nat)(Φ:ao->AS->List Nat->Prop):Prop:=
 ∀(E:Env)(V:View)(a:Act)(Q:Ex->Act->View->Prop),At E V s a nt->tQ E ms bs a.defers->(∀ae e E' V' a' s' cH,qL E E' V V' a a'->At E' V' s' a' nt->tQ E' cH bs a'.defers->pI E' ae e->Φ ae s' cH->Q e a' V')->WP lv P none c Q a V
theorem D7{c:T7}{Φ:ao->AS->List Nat->Prop}(h:aX lv P none nt c s λe s'=>Φ e s' ms):kz lv P nt bs c s ms Φ:=λE V a Q ah hd hQ=>
 h E V a Q ah λae e E' V' a' s' hk aQ he hΦ=>hQ ae e E' V' a' s' ms hk.d aQ (by rw[hk.defers];exact hd.mono hk.le) he hΦ
theorem kz.mono{c:T7}{Φ Φ':ao->AS->List Nat->Prop}(h:kz lv P nt bs c s ms Φ)(hq:∀e s ms,Φ e s ms->Φ' e s ms):kz lv P nt bs c s ms Φ':=λE V a Q ah hd hQ=>
 h E V a Q ah hd λae e E' V' a' s' cH hk aQ cq he hΦ=>hQ ae e E' V' a' s' cH hk aQ cq he (hq _ _ _ hΦ)
theorem D8{x y:T7}{Φ:ao->AS->List Nat->Prop}(h:kz lv P nt bs x s ms (ao.r6 (λs' cH=>kz lv P nt bs y s' cH Φ) Φ)):kz lv P nt bs (.seq x y) s ms Φ:=by
 intro E V a Q ah hd hQ;refine wp_seq (h E V a _ ah hd λae e E' V' a' s' cH hk aQ cq he hΦ=> ?_);cases ae<;>cases e<;>first
  |exact he.elim
  |exact hΦ E' V' a' Q aQ cq λae e bE aP bT b8 CP aE cQ zo kj tj=>hQ ae e bE aP bT b8 CP (hk.trans aE) cQ zo kj tj
  |exact hQ _ _ E' V' a' s' cH hk aQ cq he hΦ
theorem sA{x y:T7}{Φ:ao->AS->List Nat->Prop}(h:aX lv P none nt x s (ao.then (λs'=>kz lv P nt bs y s' ms Φ) λe s'=>Φ e s' ms)):kz lv P nt bs (.seq x y) s ms Φ:=by
 refine D8 (D7 (h.mono λe s' hs=> ?_));cases e<;>exact hs
theorem w5{id:Nat}{c:T7}{Φ:ao->AS->List Nat->Prop}(h:kz lv P nt bs c s ms (ao.pS id Φ)):kz lv P nt bs (.block id c) s ms Φ:=by
 intro E V a Q ah hd hQ;refine wp_block (h E V a _ ah hd λae e E' V' a' s' cH hk aQ cq he hΦ=> ?_);cases ae<;>cases e<;>first
  |exact he.elim
  |skip
 ·exact hQ .normal .normal E' V' a' s' cH hk aQ cq trivial hΦ
 ·rename_i i j;have e:i=j:=he;subst e;by_cases cu:i=id
  ·simp only[Ex.inBlock,cu,if_true];simp only[ao.pS,cu,if_true]at hΦ;exact hQ .normal _ E' V' a' s' cH hk aQ cq trivial hΦ
  ·simp only[Ex.inBlock,cu,if_false];simp only[ao.pS,cu,if_false]at hΦ;exact hQ (.exit i) _ E' V' a' s' cH hk aQ cq rfl hΦ
 ·exact hQ _ _ E' V' a' s' cH hk aQ cq he hΦ
 ·exact hQ _ _ E' V' a' s' cH hk aQ cq he hΦ
 ·exact hQ _ _ E' V' a' s' cH hk aQ cq he hΦ
theorem Om{α:Type}{lt:α->α->Prop}(wf:WellFounded lt){c:T7}{Φ:ao->AS->List Nat->Prop}(inv:α->AS)(mk:α->List Nat)(ok:α->Prop)(m:α)(h0:s.Sub (inv m))(uy:ms=mk m)(hm:ok m)
  (h:∀m,ok m->kz lv P nt bs c (inv m) (mk m) (ao.r6 (λs' cH=>∃m',lt m' m/\ok m'/\s'.Sub (inv m')/\cH=mk m') Φ)):kz lv P nt bs (.loop c) s ms Φ:=by
 subst uy;intro E V a Q ah hd hQ;refine Nu wf (I:=λm a' V'=>ok m/\∃E',qL E E' V V' a a'/\At E' V' (inv m) a' nt/\tQ E' (mk m) bs a'.defers) m ⟨hm,E,(Kept.refl E V a).d,ah.sub h0,hd⟩ λm a' V' hI=> ?_;obtain⟨am,E',hk,aQ,cq⟩:=hI;refine h m am E' V' a' _ aQ cq λae e bE aP bT b8 CP aE cQ zo he hΦ=> ?_;cases ae<;>cases e<;>first
  |exact he.elim
  |(obtain⟨m',h1,h2,h3,rfl⟩:=hΦ
    exact⟨m',h1,h2,bE,hk.trans aE,cQ.sub h3,zo⟩)
  |exact hQ _ _ bE aP bT b8 CP (hk.trans aE) cQ zo he hΦ
theorem afk{f:Tl}{ps:Array Tmp}{bM body:T7}{fv:AV}{Φ:ao->AS->List Nat->Prop}(hf:s.ev f=some fv)
  (h:∀l fn:Nat,iY lv P fv (s.H++[.obj (.deferred (some [])),.loop l .ready none fn s.T nt ps bM body s.H.length]) [.fn (.yield l) [] []]
   (λ_ H'=>∃st pe fE T' jl gC gh fw gk,H'[s.H.length+1]?=some (.loop l st pe fE T' jl gC gh fw gk)/\st≠ .busy/\sv Φ ⟨s.T,H'.set (s.H.length+1) .gone⟩ (s.H.length::ms) pe)
   (λpv H'=>Φ (.panic pv) ⟨s.T,H'⟩ (s.H.length::ms))):kz lv P nt bs (.rangeFunc f ps bM body) s ms Φ:=by
 intro E V a Q ah hm hQ;refine adk λfn d l hd hl=> ?_;have hc:=ah.bm;have dt:Conc (E.add d V.ab) (V.upd d (.deferred (some []))) (s.H++[.obj (.deferred (some []))]):=by
  refine hc.add hd _ ⟨?_,rfl,rfl,λo=> ?_⟩ (λb e=> ?_)
  ·rw[Env.dL];simp[View.upd]
  ·rw[Env.dL];exact hd.2 o
  ·simp only[bN,Env.dL,Tm]at e;exact e.symm
 have B8:E.Le (E.add d V.ab):=E.qw d (λb o v h=>by rw[<- hc.I];exact h);have BR:(E.add d V.ab).blk s.H.length=d:=by rw[<- hc.n];exact E.dL d _
 let E1:=E.add d V.ab;let V1:=V.upd d (.deferred (some []));have pj:E1.n=s.H.length+1:=by rw[dt.n];simp
 have qf:E1.Le (E1.add l V1.ab):=E1.qw l (λb o v h=>by rw[<- dt.I];exact h);have cE:Conc (E1.add l V1.ab) (V1.upd l (.loop {state:=.ready,pending:=none,fn,tmps:=a.tmps,params:=ps,assign:=bM,body,defers:=d})) ((s.H++[.obj (.deferred (some []))])++[.loop l .ready none fn s.T nt ps bM body s.H.length]):=by
  refine dt.add hl _ ⟨⟨a.tmps,?_,ah.size,(ah.tok.mono B8).mono qf⟩,?_,λo=> ?_,?_⟩ (λb e=> ?_)
  ·have e:(E1.add l V1.ab).blk s.H.length=d:=(by rw[qf.blk s.H.length (by rw[pj];omega)];exact BR);rw[e,Env.dL];simp[View.upd]
  ·show s.H.length<E1.n+1;omega
  ·rw[Env.dL];exact hl.2 o
  ·exact Env.dL _ _ _
  ·simp only[bN,Env.dL,Tm]at e;exact e.symm
 have hle:E.Le (E1.add l V1.ab):=B8.trans qf;have JK:(E1.add l V1.ab).blk s.H.length=d:=by rw[qf.blk s.H.length (by rw[pj];omega)];exact BR
 rw[SD]at cE;have pf:∀E',(E1.add l V1.ab).Le E'->tQ E' (s.H.length::ms) bs (mark a d).defers:=λE' hE=>by
  refine tQ.mono hE ⟨?_,λi hi=> ?_⟩
  ·have:=(hm.mono hle).1;simp only[mark,UW,JK,VE];rw[<- this]
  ·rcases SL.1 hi with rfl|hi
   ·show _<E1.n+1;omega
   ·exact Td (hm.2 i hi) hle.n
 have bz:=aq.ev ah.tok hf;have BT:=h l fn (E1.add l V1.ab) (V1.upd l (.loop {state:=.ready,pending:=none,fn,tmps:=a.tmps,params:=ps,assign:=bM,body,defers:=d})) (a.eval f) #[.func (.yield l) #[] #[]] cE (bz.mono hle) ⟨rfl,λi x hx=>by
  match i,hx with
  |0,hx=>cases hx;exact .fn rfl rfl (by simp) (by simp)⟩
 have key:∀o V',gO (E1.add l V1.ab) (V1.upd l (.loop {state:=.ready,pending:=none,fn,tmps:=a.tmps,params:=ps,assign:=bM,body,defers:=d}))
   (λ_ H'=>∃st pe fE T' jl gC gh fw gk,H'[s.H.length+1]?=some (.loop l st pe fE T' jl gC gh fw gk)/\st≠ .busy/\sv Φ ⟨s.T,H'.set (s.H.length+1) .gone⟩ (s.H.length::ms) pe)
   (λpv H'=>Φ (.panic pv) ⟨s.T,H'⟩ (s.H.length::ms)) o V'->DO l d Q a o V':=by
  intro o V' hr;cases o with
  |ret v=>
   obtain⟨av,E',H',hE,bY,eQ,_,ba,st,pe,fE,T',jl,gC,gh,fw,gk,cu,aT,hp⟩:=hr;obtain⟨dq,nA,qF,aO,KW,sO,zG⟩:=ba.ym cu;refine⟨_,aO,nA,aT,?_⟩;have hg:Conc E' (V'.upd l (.loop {state:=.exhausted,pending:=pe,fn:=fE,tmps:=qF,params:=gC,assign:=gh,body:=fw,defers:=E'.blk gk})) (H'.set (s.H.length+1) .gone):=ba.C8 _ cu _ (by simp only[bN,dq]);have aQ:At E' (V'.upd l (.loop {state:=.exhausted,pending:=pe,fn:=fE,tmps:=qF,params:=gC,assign:=gh,body:=fw,defers:=E'.blk gk})) ⟨s.T,H'.set (s.H.length+1) .gone⟩ (mark a d) nt:=⟨hg,ah.tok.mono (hle.trans hE),ah.size⟩;have dC:qL E E' V (V'.upd l (.loop {state:=.exhausted,pending:=pe,fn:=fE,tmps:=qF,params:=gC,assign:=gh,body:=fw,defers:=E'.blk gk})) a (mark a d):=⟨hle.trans hE,rfl,bY,eQ⟩;dsimp only
   match pe,hp,aQ,dC with
   |none,hp,aQ,dC=>exact hQ .normal .normal E' _ _ _ _ dC aQ (pf E' hE) trivial hp
   |some .ret,hp,aQ,dC=>exact hQ .ret .ret E' _ _ _ _ dC aQ (pf E' hE) trivial hp
   |some (.exit i),hp,aQ,dC=>exact hQ (.exit i) (.exit i) E' _ _ _ _ dC aQ (pf E' hE) rfl hp
   |some (.goto i),hp,aQ,dC=>exact hQ (.goto i) (.goto i) E' _ _ _ _ dC aQ (pf E' hE) rfl hp
  |panic ch=>
   obtain⟨pv,v,E',H',rfl,hE,bY,eQ,bp,ba,hp⟩:=hr;exact hQ (.panic pv) (.panic _) E' V' (mark a d) ⟨s.T,H'⟩ _ ⟨hle.trans hE,rfl,bY,eQ⟩ ⟨ba,ah.tok.mono (hle.trans hE),ah.size⟩ (pf E' hE) ⟨v,rfl,bp⟩ hp
 exact BT.mono (λnx V' hn=>Nx.mono key hn) (λv V' hr=>key _ _ hr)
@[congr] theorem asz {c : T7} {s s' : AS} {ms cH : List Nat} {Φ : ao -> AS -> List Nat -> Prop} (h : s = s') (hd : ms = cH) : kz lv P nt bs c s ms Φ = kz lv P nt bs c s' cH Φ := by rw [h, hd]
def tV (lv:Bool)(P:SK)(fn:YD)(R:Out->View->Prop):List UX->U9->Array SO->View->Prop
 |[],.returning,tmps,V=>∃v,aR P V (results fn tmps) (λx V'=>x=v/\V'=V) (λ_ _=>False)/\R (.ret v) V
 |[],.panicking ch,_,V=>R (.panic ch) V
 |d::ds,md,tmps,V=>(md matches .run)=false/\((∃b,d={target:=.collected b,args:=#[]}/\V.own b=some (.deferred (some []))/\V.role.chan≠some b/\tV lv P fn R ds md tmps (V.upd b (.deferred none)))\/
   ((∃f cV,d.target=.fn f cV)/\aR P V (invoke d.target d.args) (λnx V'=>∃g args,nx=.enter g args/\yx lv P g args md V' λnR aP=>tV lv P fn R ds nR tmps aP) (λ_ _=>False)))
 |[],.run,_,_=>False
theorem Dj{f:TN}{fn:YD}{kd:Xg}{R:Out->View->Prop}(hf:P.funcs[f]?=some fn){main:Bool}{J:View->SH->Prop}(C:Closed lv P main J){cs:List T8}(hR:∀o V' Br,R o V'->Leaves P Br f kd o V'->J V' (G Br cs)):∀(ds:List UX)(md:U9)(V:View)(fr:T8),fr.fn=f->fr.kind=kd->fr.mode=md->fr.defers=ds->tV lv P fn R ds md fr.tmps V->J V (G fr cs)
 |[],.returning,V,fr,h1,h2,h3,h4,h=>by
  obtain⟨v,hs,hr⟩:=h;exact hR _ _ _ hr ⟨h1,h4,h2,fn,hf,h3,hs⟩
 |[],.panicking ch,V,fr,h1,h2,h3,h4,h=>hR _ _ _ h ⟨h1,h4,h2,fn,hf,h3⟩
 |[],.run,_,_,_,_,_,_,h=>h.elim
 |d::ds,md,V,fr,h1,h2,h3,h4,h=>by
  obtain⟨hm,⟨b,rfl,ho,fe,hu⟩|⟨⟨tf,cV,ht⟩,hs⟩⟩:=h
  ·refine C.step _ _ rfl λw hw=> ?_;obtain⟨es,w',V',k1,k2,k3⟩:=(MW (P:=P) ho fe).runs hw;rcases k3 with⟨x,k3,rfl,rfl⟩|⟨_,_,hx⟩
   ·refine⟨G {fr with defers:=ds} cs,w',seen P fr.fn es,_,?_,k1.seen P fr.fn,?_⟩
    ·have e:∀main,stepG P main (G fr cs) w=unwind P main fr cs none w:=λmain=>by
      cases md with
      |run=>cases hm
      |returning=>simp[G,stepG,h3]
      |panicking ch=>simp[G,stepG,h3]
     rw[e];simp only[unwind,h4];simp[TB,k3,k2,TZ,G]
    ·exact Dj hf C hR ds md _ {fr with defers:=ds} h1 h2 h3 rfl hu
   ·exact hx.elim
  ·refine C.step _ _ rfl λw hw=> ?_;obtain⟨es,w',V',k1,k2,k3⟩:=hs.runs hw;rcases k3 with⟨nx,k3,g,args,rfl,hd⟩|⟨_,_,h⟩
   ·refine⟨G (Frame.enter P g args .deferred) ({fr with defers:=ds}::cs),w',seen P fr.fn es,V',?_,k1.seen P fr.fn,?_⟩
    ·have e:∀main,stepG P main (G fr cs) w=unwind P main fr cs none w:=λmain=>by
      cases md with
      |run=>cases hm
      |returning=>simp[G,stepG,h3]
      |panicking ch=>simp[G,stepG,h3]
     rw[e];obtain⟨tgt,ar⟩:=d;simp only at ht k3 k2;subst ht;simp only[unwind,h4];simp[callDeferred,TB,k3,k2,TZ,G]
    ·refine hd main J C {fr with defers:=ds} cs h3 λnR aP hU=> ?_;exact Dj hf C hR ds nR aP {fr with defers:=ds,mode:=nR} h1 h2 rfl rfl hU
   ·exact h.elim
def adv (lv:Bool)(P:SK)(fn:YD)(R:Out->View->Prop):Ex->Act->View->Prop
 |.normal,a,V|.ret,a,V=>tV lv P fn R a.defers .returning a.tmps V
 |.panic ch,a,V=>tV lv P fn R a.defers (.panicking ch) a.tmps V
 |_,_,_=>False
theorem afR{f:TN}{fn:YD}{c:T7}{args:Array SO}{kd:Xg}{V:View}{R:Out->View->Prop}(hk:kd≠ .early)(hf:P.funcs[f]?=some fn)(hb:fn.body=some c)
  (h:WP lv P none c (adv lv P fn R) {tmps:=args++TE (fn.ntmps-args.size) undef,defers:=[]} V):Body lv P f args kd V R:=by
 intro main J C cs hR;let b:T8:={(default:T8)with fn:=f,kind:=kd,roundOf:=none};have ut:Frame.enter P f args kd=on b {tmps:=args++TE (fn.ntmps-args.size) undef,defers:=[]} [.code c]:=by
  simp[Frame.enter,on,hf,hb,b]
 rw[ut];refine h main J C b [] cs hk rfl λe a' V' q=> ?_;cases e with
 |normal=>exact C.idle rfl (λw=>C4 rfl) (Dj hf C hR _ _ _ _ rfl rfl rfl rfl q)
 |ret=>intro k;exact C.idle rfl (λw=>C5 rfl) (Dj hf C hR _ _ _ _ rfl rfl rfl rfl q)
 |panic ch=>intro todo _;exact Dj hf C hR _ _ _ _ rfl rfl rfl rfl q
 |exit id=>exact q.elim
 |goto l=>exact q.elim
theorem ada{fn:YD}{R:Out->View->Prop}{tmps:Array SO}{md:U9}(hm:(md matches .run)=false):∀(ms:List Nat)(H H':List aa)(E:Env)(V:View)(l:List UX),iK ms H=some H'->Conc E V H->tQ E ms bs l->(∀V',V'.role=V.role->V'.deaf=V.deaf->Conc E V' H'->tV lv P fn R bs md tmps V')->tV lv P fn R l md tmps V
 |[],H,H',E,V,l,hg,hc,rA,hk=>by
  rw[iK]at hg;cases hg;have:l=bs:=rA.1;subst this;exact hk V rfl rfl hc
 |i::ms,H,H',E,V,l,hg,hc,rA,hk=>by
  simp only[iK]at hg;split at hg
  ·rename_i hi;obtain⟨e,hlt⟩:=rA;simp only[UW,VE]at e;subst e;obtain⟨p1,p2,p3,p4⟩:=hc.obj i _ hi;exact⟨hm,.inl ⟨_,rfl,p1,(hc.jk hi rfl).2,ada hm ms _ H' E _ _ hg (hc.C8 _ hi _ rfl) ⟨rfl,λj hj=>hlt j (by simp[hj])⟩ λV' h1 h2 h3=>hk V' h1 h2 h3⟩⟩
  ·cases hg
def yB (lv:Bool)(P:SK)(rs:List UM)(n:Nat)(c:AV×List AV)(k kp:AV->List aa->Prop):ao->AS->List Nat->Prop
 |.normal,s,ms|.ret,s,ms=>ap (iK ms s.H) λH'=>qI lv P c H' none (λH'=>ap (g_ P ⟨s.T,H'⟩ rs) λl=>cw n H' (iU l) k) (λ_=>False)
 |.panic pv,s,ms=>ap (iK ms s.H) λH'=>qI lv P c H' (some pv) (λH'=>ap (g_ P ⟨s.T,H'⟩ rs) λl=>cw n H' (iU l) k) (λH'=>cw n H' pv kp)
 |_,_,_=>False
end
end Go.Gg
namespace Go.Gg.Tk
structure jq where
 min:Int
 max:Int
 deriving DecidableEq
structure aH where
 number:jq
 hour:jq
 deriving DecidableEq
structure Seen where
 hour:Int
 next:jq
 deriving DecidableEq
structure aj where
 first:Int
 hours:Int
 an:Int
 seen:List Seen
 pieces:List aH
 aB:List aH
 deriving DecidableEq
def kL (b:jq)(n:Int):Bool:=decide (b.min<=n)&&decide (n<=b.max)
def dK:Nat->List Int->Int->Int
 |i,a::b::l,n=>if a<=n/\n<b then i else dK (i+1) (b::l) n
 |_,_,_=> -1
def gK (h:List Int)(n:Int):Int:=dK 0 h n
def fits (h:List Int)(y:aH)(n:Int):Bool:=decide (0<=gK h n)&&kL y.number n&&kL y.hour (gK h n)
def rV (x:aj)(hour:Nat)(n:Int):Bool:=x.seen.all λs=> !decide (s.hour=hour)||kL s.next n
def kF (x:aj):Nat->List Int->List (List Int)
 |0,pre=>if rV x (pre.length-1) (pre.getLastD 0)then[pre]else[]
 |d+1,pre=>if rV x (pre.length-1) (pre.getLastD 0)then(S0 (x.an.toNat+1)).flatMap λn:Nat=>kF x d (pre++[pre.getLastD 0+(n:Int)])else[]
def aL (x:aj):List (List Int):=kF x x.hours.toNat [x.first]
def v6 (x:aj)(t:Nat):List (List Int):=if rV x 0 x.first then kF x (x.hours.toNat-1) [x.first,x.first+t]else[]
def Gs (h:List Int):List Int:=(S0 (h.getLastD 0-h.headD 0).toNat).map λi:Nat=>h.headD 0+i
def mV (h:List Int):List aH->List Int->List (List Int)
 |[],t=>[t]
 |y::ys,t=>((Gs h).filter λn=>fits h y n&& !t.contains n).flatMap λn=>mV h ys (t++[n])
def pE (h:List Int)(ns:List Int):List aH->List Nat->List (List Nat)
 |[],t=>[t]
 |s::ss,t=>((S0 ns.length).filter λp=>fits h s (ns.getD p 0)&& !t.contains p).flatMap λp=>pE h ns ss (t++[p])
structure Tr where
 bu:List Int
 aA:List Int
 cg:List Nat
 deriving DecidableEq
def Dh (x:aj)(h ns:List Int):List Tr:=(pE h ns x.aB []).map λos=>⟨h,ns,os⟩
def oM (x:aj)(h:List Int):List Tr:=(mV h x.pieces []).flatMap (Dh x h)
def bx (x:aj):List Tr:=(aL x).flatMap (oM x)
def u5 (x:aj)(h:List Int):List Tr:=(mV h x.pieces []).flatMap λns=>(Dh x h ns).take 1
def r_ (x:aj)(deep:Int)(h:List Int):List Tr:=if deep=0 then(u5 x h).take 1 else if deep=1 then u5 x h else oM x h
def Ho (x:aj)(deep:Int)(t:Nat):List Tr:=(v6 x t).flatMap (r_ x deep)
theorem acZ{i:Nat}:∀{h:List Int}{n:Int},dK i h n<i+h.length:=by
 intro h;induction h generalizing i with
 |nil=>intro n;simp[dK];omega
 |cons a h ih=>
  intro n;cases h with
  |nil=>simp[dK];omega
  |cons b l=>
   simp only[dK];split
   ·simp;omega
   ·have:=ih (i:=i+1) (n:=n);simp at this⊢;omega
theorem Nf{i k:Nat}{z:Int}:∀{h:List Int}{n:Int},h.getLastD z=z->h≠[]->dK i (h++TL k z) n=dK i h n:=by
 intro h;induction h generalizing i with
 |nil=>intro n _ h;exact absurd rfl h
 |cons a h ih=>
  intro n hz _;cases h with
  |nil=>
   simp only[Zp,List.getLastD_nil]at hz;subst hz;have:∀(k i:Nat),dK i ([a]++TL k a) n= -1:=by
    intro k;induction k with
    |zero=>intro i;simp[dK]
    |succ k ihk=>
     intro i;rw[Wv,Y2];simp only[dK];rw[if_neg (by omega)];exact ihk (i+1)
   rw[this];simp[dK]
  |cons b l=>
   have:=ih (i:=i+1) (n:=n) (by simpa using hz) (by simp);simp only[VE,dK]at this⊢;rw[this]
end Go.Gg.Tk
namespace Go.Gg.Tk
inductive dF (S:Type)where
 |go (s:S)
 |stop (s:S)
 |bad (s:S)
def bC {S α:Type}(f:S->α->dF S):List α->S->dF S
 |[],s=> .go s
 |a::l,s=>match f s a with
  |.go s'=>bC f l s'
  |r=>r
theorem qA{S α:Type}(f:S->α->dF S):∀(l m:List α)(s:S),bC f (l++m) s=match bC f l s with
  |.go s'=>bC f m s'
  |r=>r
 |[],m,s=>rfl
 |a::l,m,s=>by
  simp only[VE,bC];cases f s a with
  |go s'=>exact qA f l m s'
  |stop s'=>rfl
  |bad s'=>rfl
theorem MQ{S α:Type}(f:S->α->dF S)(a:α)(s:S):bC f [a] s=f s a:=by
 simp only[bC];cases f s a<;>rfl
theorem C3{S α:Type}{f:S->α->dF S}{g:S->α->S}(h:∀s a,f s a=.go (g s a)):∀(l:List α)(s:S),bC f l s=.go (l.foldl g s)
 |[],s=>rfl
 |a::l,s=>by simp only[bC,h,UY];exact C3 h l _
theorem Ah{S α:Type}{f:S->α->dF S}{I:S->Prop}{A:α->Prop}(h:∀s a s',I s->A a->f s a=.go s'->I s'):∀(l:List α)(s s':S),(∀a∈l,A a)->I s->bC f l s=.go s'->I s'
 |[],s,s',_,hs,e=>by cases e;exact hs
 |a::l,s,s',ha,hs,e=>by
  simp only[bC]at e;cases hf:f s a with
  |go s1=>rw[hf]at e;exact Ah h l s1 s' (λb hb=>ha b (by simp[hb])) (h s a s1 hs (ha a (by simp)) hf) e
  |stop s1=>rw[hf]at e;cases e
  |bad s1=>rw[hf]at e;cases e
def cL (h:List Int):List Int:=h++TL (4-h.length) (h.getLastD 0)
def mQ (x:aj)(bh:Nat):Nat->List Int->List (List Int)
 |0,pre=>if rV x (pre.length-1) (pre.getLastD 0)then[cL pre]else[]
 |d+1,pre=>if rV x (pre.length-1) (pre.getLastD 0)then(S0 (x.an.toNat+1)).flatMap λn:Nat=>if pre.length=1/\n≠bh then[]else mQ x bh d (pre++[pre.getLastD 0+(n:Int)])else[]
def kG (x:aj)(bh:Nat):List (List Int):=mQ x bh x.hours.toNat [x.first]
def lH (h:List Int)(y:aH)(n:Nat):Bool:=decide (h.getD 0 0+n<h.getD 3 0)&&kL y.number (h.getD 0 0+n)&&kL y.hour (gK h (h.getD 0 0+n))
def jw (p:Nat->Bool):Nat->Nat
 |0=>0
 |n+1=>if p n then jw p n|||2^n else jw p n
theorem A_{p:Nat->Bool}:∀{n i:Nat},(jw p n).testBit i=(decide (i<n)&&p i)
 |0,i=>by simp[jw]
 |n+1,i=>by
  have ih:=A_ (p:=p) (n:=n) (i:=i);simp only[jw];by_cases hp:p n=true
  ·rw[if_pos hp,Xo,ih,VP];by_cases hi:n=i
   ·subst hi;simp[hp]
   ·have:(i<n+1)<->i<n:=(by omega);simp[hi,this]
  ·rw[if_neg hp,ih];by_cases hi:i=n
   ·subst hi;simp at hp;simp[hp]
   ·have:(i<n+1)<->i<n:=(by omega);simp[this]
theorem D_{p:Nat->Bool}:∀{n:Nat},jw p n<2^n
 |0=>by simp[jw]
 |n+1=>by
  have ih:=D_ (p:=p) (n:=n);have h1:2^n<2^(n+1):=Xc (by omega) (by omega);simp only[jw];split
  ·exact WL (Wo ih h1) h1
  ·exact Wo ih h1
def b_ (h:List Int)(y:aH):Nat:=jw (lH h y) 9
def kN:List Nat->Nat->List Nat->List (List Nat)
 |[],_,t=>[t]
 |q::qs,used,t=>(S0 9).flatMap λn=>if used.testBit n|| !q.testBit n then[]else kN qs (used|||2^n) (t++[n])
def mw (k:Nat)(ns:List Nat):List Nat->Nat->List Nat->List (List Nat)
 |[],_,o=>[o]
 |q::qs,given,o=>(S0 k).flatMap λp=>if given.testBit p|| !q.testBit (ns.getD p 0)then[]else mw k ns qs (given|||2^p) (o++[p])
def kQ (k:Nat)(l:List Nat):List Int:=l.map (λn:Nat=>(n:Int))++TL (k-l.length) (-1)
def dW (h:List Int)(ns:List Nat):List Int:=h++kQ 4 ns++[-1, -1, -1]
def di (h:List Int)(ns os:List Nat):List Int:=h++kQ 4 ns++kQ 3 os
def f_ (x:aj)(h:List Int):List (List Nat):=kN (x.pieces.map (b_ h)) 0 []
def iy (x:aj)(h:List Int)(ns:List Nat):List (List Nat):=mw x.pieces.length ns (x.aB.map (b_ h)) 0 []
def jo (x:aj)(deep:Int)(h:List Int):List (List Int):=
 let all:=(f_ x h).map λns=>(iy x h ns).map λos=>di h ns os
 if deep=0 then all.flatten.take 1 else if deep=1 then(all.map (·.take 1)).flatten else all.flatten
end Go.Gg.Tk
namespace Go.Gg.Tk
structure Kn where
 has:Bool
 aL:List (List Int)
 aA:List Nat
 hours:List Nat
 less:List Nat
 aV:List Nat
 first:List Int
def Kn.zero:Kn:=⟨false,[],[0,0,0,0],[0,0,0,0],[0,0,0,0],[0,0,0],TL 11 0⟩
def oR (l:List Nat)(p n:Nat):List Nat:=l.set p (l.getD p 0|||2^n)
def jG (hs:List (List Int))(h:List Int):List (List Int):=if h∈hs then hs else hs++[h]
def mz (t:List Int)(p:Nat):Nat:=(t.getD (4+p) 0).toNat
def tK (t:List Int)(p:Nat):Nat:=(gK (t.take 4) (t.getD (4+p) 0+t.getD 0 0)).toNat
def rY (t:List Int)(s:Nat):Nat:=(t.getD (8+s) 0).toNat
def jQ (F:Kn)(t:List Int):Kn:=if F.has then F else{F with has:=true,first:=t}
def mW (t:List Int):Nat->List Nat->List Nat
 |0,l=>l
 |s+1,l=>oR (mW t s l) s (rY t s)
def rR (t:List Int):Nat->List Nat->List Nat
 |0,l=>l
 |p+1,l=>oR (rR t p l) p (mz t p)
def rD (t:List Int):Nat->List Nat->List Nat
 |0,l=>l
 |p+1,l=>oR (rD t p l) p (tK t p)
def pz (t:List Int)(p:Nat):Nat->List Nat->List Nat
 |0,l=>l
 |q+1,l=>if t.getD (4+p) 0<t.getD (4+q) 0 then oR (pz t p q l) p q else pz t p q l
def py (t:List Int)(k:Nat):Nat->List Nat->List Nat
 |0,l=>l
 |p+1,l=>pz t p k (py t k p l)
def ej (x:aj)(deep:Int)(F:Kn)(t:List Int):Kn:=
 let F:=jQ F t
 if deep=2 then{F with aV:=mW t x.aB.length F.aV}
 else if deep=0 then{F with aL:=jG F.aL (t.take 4)}
 else{F with aA:=rR t x.pieces.length F.aA,hours:=rD t x.pieces.length F.hours,less:=py t x.pieces.length x.pieces.length F.less}
def gL (x:aj)(deep:Int)(bh:Nat):Kn:=((kG x bh).flatMap (jo x deep)).foldl (ej x deep) Kn.zero
def kP (l m:List Nat):List Nat:=(List.zipWith (·|||·) l m)
end Go.Gg.Tk
namespace Go.Gg
open Go.Conc Go.Gg.Tk
theorem Hr{n:Nat}(h:n<65536):S7.wrap (n:Int)=n:=by
 have h1:S7.bits=16:=rfl;have h2:S7.signed=false:=rfl;unfold Xe;rw[h1,h2];simp;omega
theorem Bc{n:Nat}(h:n<65536):(Ud S7.bits (n:Int)).toNat=n:=by
 have h1:S7.bits=16:=rfl;rw[h1,BitVec.ofInt_natCast,BitVec.toNat_ofNat];omega
theorem ajl{m n:Nat}(hm:m<65536):(S7.wrap (Ud S7.bits ((m:Int).fdiv (2^(min n S7.bits)))&&&Ud S7.bits 1).toNat==1)=m.testBit n:=by
 have h1:S7.bits=16:=rfl;have e:(m:Int).fdiv (2^(min n S7.bits))=((m/2^(min n 16):Nat):Int):=by
  rw[h1,Int.fdiv_eq_ediv_of_nonneg _ (by exact_mod_cast Yd _)];norm_cast
 have hlt:m/2^(min n 16)<65536:=Ze (Nat.div_le_self _ _) hm;rw[e,BitVec.toNat_and,Bc hlt,show (Ud S7.bits 1).toNat=1 from rfl,Hr (Ze Nat.and_le_left hlt)];have hb:m/2^(min n 16)&&&1=(m/2^(min n 16)) % 2:=Nat.and_one_is_mod _;rw[hb];have ht:m.testBit n=decide (m/2^n % 2=1):=Nat.testBit_eq_decide_div_mod_eq;by_cases hn:n<=16
 ·rw[Wx hn,ht];by_cases h:m/2^n % 2=1
  ·simp[h]
  ·have:m/2^n % 2=0:=(by omega);simp[this]
 ·rw[Nat.min_eq_right (by omega)];have h0:m/2^16=0:=Nat.div_eq_of_lt (by omega);have h2:m.testBit n=false:=Nat.testBit_lt_two_pow (Td hm (by calc 65536=2^16:=rfl
   _<=2^n:=ZO (by omega) (by omega)))
  rw[h0,h2];rfl
theorem arE{m n:Nat}(hm:m<65536)(hn:n<16):S7.wrap (Ud S7.bits (m:Int)|||Ud S7.bits (S7.wrap (1* 2^(min n S7.bits)))).toNat=((m|||2^n:Nat):Int):=by
 have h1:S7.bits=16:=rfl;have hp:2^n<65536:=by calc 2^n<2^16:=Xc (by omega) hn
  _=65536:=rfl
 have e:S7.wrap (1* 2^(min n S7.bits))=((2^n:Nat):Int):=by
  rw[h1,Wx (by omega),Int.one_mul,<- Hr hp];norm_cast
 rw[e,Zn,Bc hm,Bc hp];exact Hr (WL (n:=16) hm hp)
theorem GH{m n:Nat}(hm:m<65536)(hn:n<65536):S7.wrap (Ud S7.bits (m:Int)|||Ud S7.bits (n:Int)).toNat=((m|||n:Nat):Int):=by
 rw[Zn,Bc hm,Bc hn];exact Hr (WL (n:=16) hm hn)
theorem pD{m n:Nat}(hm:m<65536)(hn:n<65536):m|||n<65536:=WL (n:=16) hm hn
theorem wH{n:Nat}(hn:n<16):2^n<65536:=by calc 2^n<2^16:=Xc (by omega) hn
  _=65536:=rfl
abbrev wv (m:Nat):AV:=.val (.int .u16 m)
def c_ {S:Type}(Gf:S->List aa)(pv:AV)(k kp:AV->List aa->Prop)(M:List aa):dF S->Prop
 |.go s=>k (.val (.bool true)) (Gf s++M)
 |.stop s=>k (.val (.bool false)) (Gf s++M)
 |.bad s=>kp pv (Gf s++M)
def gg {S:Type}(Gf:S->List aa)(pv:AV)(k kp:AV->List aa->Prop)(M:List aa):dF S->Prop
 |.go s=>k (.aJ []) (Gf s++M)
 |.stop s=>k (.aJ []) (Gf s++M)
 |.bad s=>kp pv (Gf s++M)
structure jP (lv:Bool)(P:SK)(yv:AV){S:Type}(f:S->List Int->dF S)(Gf:S->List aa)(N:Nat)(I:S->Prop)(A:List Int->Prop)(pv:AV):Prop where
 call:∀(σ:S)(a:List Int)(M:List aa)(k kp:AV->List aa->Prop),I σ->A a->c_ Gf pv k kp M (f σ a)->iY lv P yv (Gf σ++M) [.agg (a.map λn=> .val (.int .i64 n))] k kp
 inv:∀σ a σ',I σ->A a->f σ a=.go σ'->I σ'
 len:∀σ,(Gf σ).length=N
 ok:∀m σ σ',(∀z∈Gf σ,fj m z)->∀z∈Gf σ',fj m z
 sure:yv.sure=true
 parts:yv.parts=some [yv]
 leaf:yv.leaf=true
theorem jP.get{lv:Bool}{P:SK}{yv:AV}{S:Type}{f:S->List Int->dF S}{Gf:S->List aa}{N:Nat}{I:S->Prop}{A:List Int->Prop}{pv:AV}(h:jP lv P yv f Gf N I A pv)(σ:S)(L:List aa)(i:Nat):(Gf σ++L)[N+i]?=L[i]?:=by
 rw[<- h.len σ,Tg (by omega)];congr 1;omega
theorem jP.set{lv:Bool}{P:SK}{yv:AV}{S:Type}{f:S->List Int->dF S}{Gf:S->List aa}{N:Nat}{I:S->Prop}{A:List Int->Prop}{pv:AV}(h:jP lv P yv f Gf N I A pv)(σ:S)(L:List aa)(i:Nat)(x:aa):(Gf σ++L).set (N+i) x=Gf σ++L.set i x:=by
 rw[<- h.len σ,UO _ _ (by omega)];congr 2;omega
theorem jP.am{lv:Bool}{P:SK}{yv:AV}{S:Type}{f:S->List Int->dF S}{Gf:S->List aa}{N:Nat}{I:S->Prop}{A:List Int->Prop}{pv:AV}(h:jP lv P yv f Gf N I A pv){σ:S}{M:List aa}(hH:bQ (Gf σ++M))(σ':S):bQ (Gf σ'++M):=λz hz=>by
 have hl:(Gf σ'++M).length=(Gf σ++M).length:=by simp[h.len]
 rw[hl];rcases SV.1 hz with h'|h'
 ·exact h.ok _ σ σ' (λw hw=>hH w (Th _ hw)) z h'
 ·exact hH z (S5 _ h')
def sq (l:Nat)(S:Nat->AS)(ok:Nat->Prop)(m:Nat)(Φ:ao->AS->Prop):ao->AS->Prop
 |.goto l',s=>l'=l/\∃m',m'<m/\ok m'/\s.Sub (S m')
 |e,s=>Φ e s
section
variable {lv:Bool}{P:SK}{r:Option Nat}{s:AS}
end
theorem amr(l:Nat)(S:Nat->AS)(ok:Nat->Prop)(m:Nat)(Φ:ao->AS->Prop)(s:AS):sq l S ok m Φ .normal s=Φ .normal s:=by rw[sq];simp
theorem amt(l:Nat)(S:Nat->AS)(ok:Nat->Prop)(m:Nat)(Φ:ao->AS->Prop)(s:AS):sq l S ok m Φ .ret s=Φ .ret s:=by rw[sq];simp
theorem amq(l:Nat)(S:Nat->AS)(ok:Nat->Prop)(m:Nat)(Φ:ao->AS->Prop)(i:Nat)(s:AS):sq l S ok m Φ (.exit i) s=Φ (.exit i) s:=by rw[sq];simp
theorem ams(l:Nat)(S:Nat->AS)(ok:Nat->Prop)(m:Nat)(Φ:ao->AS->Prop)(a:AV)(s:AS):sq l S ok m Φ (.panic a) s=Φ (.panic a) s:=by rw[sq];simp
@[congr] theorem atd {l m : Nat} {S : Nat -> AS} {ok : Nat -> Prop} {s s' : AS} {Φ : ao -> AS -> Prop} {e e' : ao} (he : e = e') (h : s = s') : sq l S ok m Φ e s = sq l S ok m Φ e' s' := by rw [he, h]
attribute [seval] amr amt amq ams
end Go.Gg
