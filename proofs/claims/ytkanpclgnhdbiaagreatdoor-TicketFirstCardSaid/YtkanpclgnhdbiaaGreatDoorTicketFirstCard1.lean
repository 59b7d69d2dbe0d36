/- A part of the proof. -/
import Derived.Test.YtkanpclgnhdbiaaGreatDoorTicketFirstCard0
import Derived.Test.YtkanpclgnhdbiaaGreatDoorProg
import Derived.KernelRfl
set_option linter.all false
set_option maxRecDepth 4000
set_option maxHeartbeats 4000000
open Array renaming all_eq_true_iff_forall_mem->UQ,ext'->VH,getD_eq_getD_getElem?->SH,getElem?_append_left->Yd,getElem?_eq_getElem->SJ,getElem?_eq_none->YA,getElem?_eq_some_iff->SR,getElem?_modify->Wn,getElem?_setIfInBounds_ne->SW,getElem?_setIfInBounds_self_of_lt->Tb,getElem_mem->XX,mem_iff_getElem?->YF,mem_of_getElem?->W8,range->WN,replicate->TP,toList_map->VN
open BitVec renaming ofInt->Ul,toNat_or->Zv
open Bool renaming and_eq_true->Tg,eq_iff_iff->Vh,false_and->Vq,false_eq_true->TR,false_or->ZD,not_eq_true'->T4,not_true->ao',or_eq_true->Xb,true_and->UP
open Classical renaming byContradiction->Tv
open ForInStep renaming yield->Y2
open Go renaming Addr->Va,BinOp->Wc,Call->Xt,CallKind->Xj,Code->Ub,Deferred->U3,Event->Uu,Field->Y0,Frame->Uf,FrameMode->Vg,Func->YD,FuncId->TS,Goroutine->SG,IntKind->T8,Item->WX,Loop->avg,LoopState->ad_,MapEntry->Wp,Oper->Tx,Operand->Tj,Program->SI,ResultVar->UT,TypeInfo->Wo,Value->SQ,World->Tq
open Go.Act renaming put->X7
open Go.BinOp renaming eql->XM,neq->Wz
open Go.Call renaming operands->VS
open Go.CallKind renaming deferred->YN,early->Vb,normal->Y'
open Go.Deferred renaming ofValue->U_
open Go.Frame renaming catches->Z4,round->Xe
open Go.FrameMode renaming returning->Ys
open Go.GStep renaming after->T_
open Go.Instr renaming beginRound->XL,checkKey->Vk,endLoop->ZW,endRound->W_,enterLoop->W3,findAsking->XK,findKey->VR,getLoop->WM,sameBits->WF,takeDeferred->Y9
open Go.IntKind renaming bits->avp,i64->SD,signed->avo,u16->S6,u32->an_,u64->TD,wrap->Xh
open Go.LoopState renaming busy->avf
open Go.Next renaming value->W9
open Go.Op renaming equal->Xs,equalIn->VC,operands->Tu
open Go.Operand renaming tmp->avm
open Go.Proofs.Tryz renaming f77->XP,f97->avk,prog->SA
open Go.Region renaming binds->Yr,linearise->Zf,schedule->VP,wanted->Ti
open Go.Region.linearise renaming go->UM
open Go.Result.ok renaming inj->ats
open Go.Sem renaming runT->VK,runT_eq->TE
open Go.Value renaming agg->TA,bool->Xg,cells->ac_,chan->XS,int->SF,map->Zz,nilFunc->YV,slice->TL
open Go.stepG renaming exec->Uk
open Int renaming toNat_natCast->VI
open List renaming all_cons->Z0,all_eq_true->Tw,any_cons->YU,any_eq_true->UO,append_assoc->SC,append_nil->SO,cons_append->Vp,contains_eq_mem->Ut,countP_le_length->Y7,drop_drop->ap_,drop_eq_getElem_cons->TY,drop_eq_nil_of_le->T7,drop_zero->XD,ext_getElem?->Yp,filter_congr->Ve,filter_cons_of_neg->W1,filter_cons_of_pos->WZ,foldl_cons->UY,foldl_nil->Z9,forIn_cons->W6,getD_eq_getElem?_getD->SE,getElem?_append_left->SY,getElem?_append_right->S_,getElem?_cons_succ->UR,getElem?_eq_getElem->SX,getElem?_eq_none->Ux,getElem?_eq_some_iff->SN,getElem?_map->To,getElem?_set_ne->Uc,getElem?_set_self->Xd,getElem?_take->Uj,getLastD_cons->Zx,length_append->SL,length_drop->Ur,length_map->Ta,length_set->TJ,length_singleton->TG,length_take->TC,mapM_cons->Ue,mapM_nil->UH,mapM_toArray->X4,map_congr_left->VF,map_cons->U5,map_drop->ak',map_map->WR,map_take->Wa,mem_append->SS,mem_append_left->Th,mem_append_right->S4,mem_cons->SK,mem_cons_of_mem->Td,mem_cons_self->TF,mem_eraseDups->Zc,mem_filter->Uy,mem_filterMap->V_,mem_flatMap->S5,mem_map->Tm,mem_of_getElem?->S8,mem_range->TW,mem_range'->X2,mem_toArray->TO,nil_append->UN,nodup_cons->VX,nodup_nil->WQ,not_mem_nil->SZ,range->S0,range'->Ug,range'_append_1->Zb,range'_succ->VU,range_eq_range'->Vw,replicate->TM,replicate_succ->Wy,reverse_nil->XZ,set_append_left->UX,set_append_right->Ud,set_eq_take_append_cons_drop->XQ,singleton_append->Y5,take_append_drop->Vr,take_of_length_le->SV,take_succ_cons->VZ,take_zero->Za
open Nat renaming add_mul->Vo,add_zero->UJ,le_refl->SP,le_trans->TV,lt_of_le_of_lt->Zm,lt_of_lt_of_le->Te,lt_trans->Wr,lt_trichotomy->XI,min_eq_left->WB,mod_lt->avi,mul_le_mul_right->TK,mul_one->XH,or_lt_two_pow->WO,pow_le_pow_right->UZ,pow_lt_pow_right->Xf,reduceAdd->SU,sub_self->Vl,sub_zero->Z8,testBit_or->Xp,testBit_two_pow->VT,zero_add->Wv,zero_le->XY
open Option renaming bind_eq_some_iff->Tf,getD_some->S7,map_eq_some_iff->Ts,map_some->UU,some->SM
open Option.some renaming injEq->Tl
open Std.Legacy.Range renaming forIn_eq_forIn_range'->WA,size->Xw
namespace Go.Gg
open Go.Conc
structure I8 (k:AV->Prop):Type where
 n:Nat
structure I7 (X:Bool->Prop)(Z:Prop):Type where
 n:Nat
def QG (a:AV)(X:Bool->Prop)(Z:Prop)(_t:I7 X Z):Prop:=(∃b,a=.val (.bool b)/\X b)\/(a=.val undef/\Z)
theorem aqp(b:Bool)(X:Bool->Prop)(Z:Prop)(t:I7 X Z):QG (.val (.bool b)) X Z t=X b:=by
 unfold QG;refine propext ⟨λh=> ?_,λh=> .inl ⟨b,rfl,h⟩⟩;rcases h with⟨b',e,h⟩|⟨e,_⟩
 ·cases e;exact h
 ·cases e
theorem aqq(X:Bool->Prop)(Z:Prop)(t:I7 X Z):QG (.val undef) X Z t=Z:=by
 unfold QG;refine propext ⟨λh=> ?_,λh=> .inr ⟨rfl,h⟩⟩;rcases h with⟨b',e,_⟩|⟨_,h⟩
 ·cases e
 ·exact h
def Po (lv:Bool)(P:SI)(f:AV)(H:List aa)(aF:List AV)(k:AV->Prop)(_t:I8 k):Prop:=∃av,je lv P f H aF (λb H'=>b=av/\H'=H) (λ_ _=>False)/\k av
def aeO (lv:Bool)(P:SI)(f:AV)(name:String)(H:List aa)(aF:List AV)(k:AV->Prop)(_t:I8 k):Prop:=∃av,Fs lv P f name H aF (λb H'=>b=av/\H'=H) (λ_ _=>False)/\k av
theorem ij{lv:Bool}{P:SI}{f:AV}{H:List aa}{aF:List AV}{k:AV->Prop}{t:I8 k}(av:AV)(h:je lv P f H aF (λb H'=>b=av/\H'=H) (λ_ _=>False))(hk:k av):Po lv P f H aF k t:=⟨av,h,hk⟩
section
variable (lv:Bool)(P:SI)
def AQ (s:AS)(o:Tx)(k:AV->Prop):Prop:=match o.op with
 |.call c=>match c.callee with
  |.value x=>ao (s.ev x) λf=>ao (ft s c.args.toList) λaF=>Po lv P f s.H aF k ⟨0⟩
  |.invoke x name=>ao (s.ev x) λf=>ao (ft s c.args.toList) λaF=>aeO lv P f name s.H aF k ⟨0⟩
  |.builtin .append=>match c.args.toList,c.argTypes.toList with
   |[x,y],[t,t']=>ao (jC P t t') λ(_,sz,_)=>ao (s.ev x) λa=>ao (s.ev y) λb=>a.wu λn l e=>e=.exact/\ao (s.src sz b) λ(m,l')=>l.length=n* sz/\l'.length=m* sz/\n+m<=2^30/\k (.sl (n+m) (l++l') .shut)
   |_,_=>False
  |_=>lT P s o k
 |_=>lT P s o k
def nA (all:Array Tx):List Tx->AS->(AS->Prop)->Prop
 |[],s,K=>K s
 |o::rest,s,K=>match o.guard with
  |none=>AQ lv P s o λav=>nA all rest (s.put o.dst av) K
  |some (j,cj)=>ao ((all[j]?).bind (·.dst)) λd=>ao (look s.T d) λa=>QG a (λb=>rA b cj (AQ lv P ⟨(d,.val (.bool cj))::s.T,s.H⟩ o λav=>nA all rest ((⟨(d,.val (.bool cj))::s.T,s.H⟩:AS).put o.dst av) K) (nA all rest ((⟨(d,.val (.bool !cj))::s.T,s.H⟩:AS).put o.dst (.val undef)) K) ⟨0⟩) (nA all rest (s.put o.dst (.val undef)) K) ⟨0⟩
end
section
variable {lv:Bool}{P:SI}{r:Option Nat}{o:Tx}{s:AS}
theorem acT{a:Act}{E:Env}{V:View}{av:AV}{N:Act->View->Prop}{Q:Ex->Act->View->Prop}(h1:∀E' V' v,E.Le E'->V'.role=V.role->V'.deaf=V.deaf->Conc E' V' s.H->ap E' av v->N (a.put o.dst v) V'):
  (∀nx V',Nx lv P (gW E V (λb H'=>b=av/\H'=s.H) (λ_ _=>False)) nx V'->m8 lv P r o a N Q nx V')/\(∀v V',gW E V (λb H'=>b=av/\H'=s.H) (λ_ _=>False) (.panic [{v,recovered:=false}]) V'->Q (.panic [{v,recovered:=false}]) a V'):=by
 have hv:∀v V',gW E V (λb H'=>b=av/\H'=s.H) (λ_ _=>False) (.ret v) V'->N (a.put o.dst v) V':=λv V' ⟨b,E',H',hle,cp,fg,bt,bp,e1,e2⟩=>by
  subst e1 e2;exact h1 E' V' v hle cp fg bp bt
 have hp:∀ch V',gW E V (λb H'=>b=av/\H'=s.H) (λ_ _=>False) (.panic ch) V'->Q (.panic ch) a V':=λch V' ⟨pv,v,E',H',ff,hle,cp,fg,bt,bp,hk⟩=>hk.elim;refine⟨λnx V' hn=> ?_,λv V' h=>hp _ _ h⟩;cases nx with
 |value v=>exact hv _ _ hn
 |skip=>exact hv _ _ hn
 |enter f args=>
  refine Body.mono (R':=fun
   |.ret v,V'=>N (a.put o.dst v) V'
   |.panic ch,V'=>Q (.panic ch) a V') hn λot aU h=> ?_
  cases ot with
  |ret v=>exact hv _ _ h
  |panic ch=>exact hp _ _ h
 |round l f tmps aF b=>
  refine nC.mono (R':=fun
   |.ret v,V'=>N (a.put o.dst v) V'
   |.panic ch,V'=>Q (.panic ch) a V') hn λot aU h=> ?_
  cases ot with
  |ret v=>exact hv _ _ h
  |panic ch=>exact hp _ _ h
 |_=>exact hn.elim
theorem apR{c:Xt}{x y:Tj}{t t' elem:TypeId}{sz n m:Nat}{z:SQ}{l l':List AV}{av:AV}(ho:o.op=.call c)(ba:c.callee=.builtin .append)(cQ:c.args=#[x,y]) (dX:c.argTypes=#[t,t']) (ht:jC P t t'=some (elem,sz,z))
  (hx:s.ev x=some (.sl n l .exact)) (hy:s.ev y=some av) (hs:s.src sz av=some (m,l')) (hl:l.length=n* sz) (eR:l'.length=m* sz) (hb:n+m<=2^30):dF lv P r o s (.sl (n+m) (l++l') .shut):=by
 intro E V a N Q hc aE bB hN;refine⟨bB,?_⟩;have dC:=ap.ev aE hx;have iU:=ap.ev aE hy;generalize kJ:a.eval x=vx at dC;generalize sk:a.eval y=vy at iU;unfold execOp;rw[ho];dsimp only;unfold resolve;rw[ba];dsimp only;refine az (au ?_);unfold invoke builtin;dsimp only;refine az ?_;have nZ:c.args.map a.eval=#[vx,vy]:=by rw[cQ];simp[kJ,sk]
 rw[nZ,dX];obtain⟨base,cap,rfl⟩:∃base cap,vx=.slice base n cap:=by
  cases dC with
  |sl b o cap f dU he q1 q2=>exact⟨_,_,rfl⟩
  |nil he=>exact⟨_,_,rfl⟩
 have gY:cap=n:=by
  cases dC with
  |sl b o cap f dU he q1 q2=>exact he
  |nil he=>rfl
 subst gY;have ud:(l++l').length=(cap+m)* sz:=by rw[SL,hl,eR,Vo]
 by_cases hm:m=0
 ·subst hm;have tQ:l'=[]:=by simpa using eR
  subst tQ;refine Ip hc ht iU hs eR (SP _) ?_;refine au (hN E V _ (Env.Le.refl E) rfl rfl hc ?_);rw[UJ,SO];exact e9 _ _ _ _ _ dC
 ·refine Io hc ht dC iU hs hl eR hb (by omega) λrr cs cap' hf bt hle aY=> ?_;obtain⟨bp,sd⟩:=hc.ad7 (el:=elem) hf aY hle;have vF:(cap+m)* sz<=cs.size:=by rw[aY];exact TK _ hle
  refine aR.ghost (yj (f:=(0,0)) (cs:=cs) (el:=elem) (p:=(·<(cap+m)* sz)) (by simp[View.upd]) (λo _=>hf.2 o)) ?_;have qO:=ER (n:=s.H.length) (m:=s.H.length) (SP _) (by simp[Env.tok,hc.n]) sd hc.n;refine au (hN _ _ _ qO rfl rfl (bp.trim hc.aq) (JM (I:=(V.laid rr cs elem (·<(cap+m)* sz)).ab) (e:=.shut) (sz:=sz) (cs:=cs) rfl (bt.mono qO) ud vF (λo h=>Hz (by simpa using h)) hle trivial))
theorem AQ.sound{k:AV->Prop}(h:AQ lv P s o k):∃av,dF lv P r o s av/\k av:=by
 unfold AQ at h;split at h
 ·rename_i c ho;split at h
  ·rename_i x ba;obtain⟨f,h1,hA⟩:=h.out;obtain⟨aF,h2,hB⟩:=hA.out;obtain⟨av,h3,h4⟩:=hB;refine⟨av,λE V a N Q hc aE bB hN=> ?_,h4⟩;have sj:=acT (lv:=lv) (P:=P) (r:=r) (o:=o) (Q:=Q) hN;refine⟨bB,?_⟩;unfold execOp;rw[ho];dsimp only;unfold resolve;rw[ba];dsimp only;have e:c.args.map a.eval=(c.args.toList.map a.eval).toArray:=(by apply VH;simp);rw[e];exact(h3 E V (a.eval x) _ hc (ap.ev aE h1) (An aE h2)).mono (λnx V' h=>sj.1 nx V' h) (λv V' h=>sj.2 v V' h)
  ·rename_i x name ba;obtain⟨f,h1,hA⟩:=h.out;obtain⟨aF,h2,hB⟩:=hA.out;obtain⟨av,h3,h4⟩:=hB;refine⟨av,λE V a N Q hc aE bB hN=> ?_,h4⟩;have sj:=acT (lv:=lv) (P:=P) (r:=r) (o:=o) (Q:=Q) hN;refine⟨bB,?_⟩;unfold execOp;rw[ho];dsimp only;unfold resolve;rw[ba];dsimp only;refine az (au ?_);have e:c.args.map a.eval=(c.args.toList.map a.eval).toArray:=(by apply VH;simp);rw[e];exact(h3 E V (a.eval x) _ hc (ap.ev aE h1) (An aE h2)).mono (λnx V' h=>sj.1 nx V' h) (λv V' h=>sj.2 v V' h)
  ·rename_i ba;split at h
   ·rename_i x y t t' ha ht;obtain⟨⟨elem,sz,z⟩,h1,hA⟩:=h.out;obtain⟨a,h2,hB⟩:=hA.out;obtain⟨b,h3,hC⟩:=hB.out;obtain⟨n,l,e,e1,e0,hD⟩:=PC hC;subst e1 e0;obtain⟨⟨m,l'⟩,h4,h5,h6,h7,h8⟩:=hD.out;exact⟨_,apR ho ba (nG ha) (sN ht) h1 h2 h3 h4 h5 h6 h7,h8⟩
   ·exact h.elim
  ·exact h.sound
 ·exact h.sound
end
section
variable {lv:Bool}{P:SI}{o:Tx}{T T':List (Nat×AV)}{H:List aa}{k:AV->Prop}
theorem CE:∀(l:List Tj),(∀x∈l,AS.ev ⟨T,H⟩ x=AS.ev ⟨T',H⟩ x)->ft ⟨T,H⟩ l=ft ⟨T',H⟩ l
 |[],_=>rfl
 |x::l,h=>by simp only[ft,h x (TF ..),CE l λy hy=>h y (Td _ hy)]
theorem J9:∀(l:List (Nat×Tj)),(∀x∈l,AS.ev ⟨T,H⟩ x.2=AS.ev ⟨T',H⟩ x.2)->kB ⟨T,H⟩ l=kB ⟨T',H⟩ l
 |[],_=>rfl
 |x::l,h=>by simp only[kB,h x (TF ..),J9 l λy hy=>h y (Td _ hy)]
theorem mapM_congr:∀(l:List Tj),(∀x∈l,AS.ev ⟨T,H⟩ x=AS.ev ⟨T',H⟩ x)->l.mapM (AS.ev ⟨T,H⟩)=l.mapM (AS.ev ⟨T',H⟩)
 |[],_=>rfl
 |x::l,h=>by simp only[Ue,h x (TF ..),mapM_congr l λy hy=>h y (Td _ hy)]
theorem Jw(x:Option Tj)(h:∀y,x=some y->AS.ev ⟨T,H⟩ y=AS.ev ⟨T',H⟩ y):AS.jg ⟨T,H⟩ x=AS.jg ⟨T',H⟩ x:=by
 cases x with
 |none=>rfl
 |some y=>simp only[AS.jg,h y rfl]
theorem aeX{op:Wc}{t:TypeId}{y:Tj}{a:AV}(h:AS.ev ⟨T,H⟩ y=AS.ev ⟨T',H⟩ y):iR P ⟨T,H⟩ op t y a k=iR P ⟨T',H⟩ op t y a k:=by
 unfold iR;split<;>first|rfl|rw[h]
theorem lT.congr(h:∀x∈o.op.operands,AS.ev ⟨T,H⟩ x=AS.ev ⟨T',H⟩ x)(ha:lT P ⟨T,H⟩ o k):lT P ⟨T',H⟩ o k:=by
 unfold lT at ha⊢;generalize o.op=op at h ha⊢;cases op with
 |call c=>
  have cQ:∀x∈c.args,AS.ev ⟨T,H⟩ x=AS.ev ⟨T',H⟩ x:=λx hx=>h x (by simp[Tu,VS,hx]);dsimp only at ha⊢;split at ha
  ·obtain⟨x,h1,hA⟩:=ha.out;rw[h1,ao];obtain⟨t,h2,hB⟩:=hA.out;rw[h2,ao];rw[<- cQ x (W8 h1)];obtain⟨a,h3,hC⟩:=hB.out;rw[h3,ao];exact hC
  ·split at ha
   ·rename_i x y K7;have:=nG K7;rw[this]at cQ;rw[<- cQ x (by simp),<- cQ y (by simp)];exact ha
   ·exact ha.elim
  ·split at ha
   ·rename_i x y K7;have:=nG K7;rw[this]at cQ;rw[<- cQ x (by simp),<- cQ y (by simp)];exact ha
   ·exact ha.elim
  ·exact ha.elim
 |build t parts=>
  dsimp only at ha⊢;rw[<- J9 parts.toList λx hx=>h x.2 (by simp only[Tu,TO,Tm];exact⟨x,hx,rfl⟩)];exact ha
 |buildSlice t n parts=>
  dsimp only at ha⊢;rw[<- J9 parts.toList λx hx=>h x.2 (by simp only[Tu,TO,Tm];exact⟨x,hx,rfl⟩)];exact ha
 |makeFunc f first cW=>
  dsimp only at ha⊢;rw[<- mapM_congr first.toList λx hx=>h x (by simp[Tu];exact .inl (by simpa using hx)),<- mapM_congr cW.toList λx hx=>h x (by simp[Tu];exact .inr (by simpa using hx))];exact ha
 |slice t x lo hi mx=>
  dsimp only at ha⊢;rw[<- h x (by simp[Tu]),<- Jw lo λy hy=>h y (by simp[Tu,hy]),<- Jw hi λy hy=>h y (by simp[Tu,hy]),<- Jw mx λy hy=>h y (by simp[Tu,hy])];exact ha
 |pick c a b=>dsimp only at ha⊢;rw[<- h c (by simp[Tu]),<- h a (by simp[Tu]),<- h b (by simp[Tu])];exact ha
 |binOp op t a b u=>
  dsimp only at ha⊢;rw[<- h a (by simp[Tu])];obtain⟨x,h1,hA⟩:=ha.out;rw[h1,ao];rw[<- aeX (h b (by simp[Tu]))];exact hA
 |indexAddr t a b=>dsimp only at ha⊢;rw[<- h a (by simp[Tu]),<- h b (by simp[Tu])];exact ha
 |index t a b=>dsimp only at ha⊢;rw[<- h a (by simp[Tu]),<- h b (by simp[Tu])];exact ha
 |move x=>dsimp only at ha⊢;rw[<- h x (by simp[Tu])];exact ha
 |assign x=>dsimp only at ha⊢;rw[<- h x (by simp[Tu])];exact ha
 |unOp op t x=>cases op<;>dsimp only at ha⊢<;>first|exact ha.elim|(rw[<- h x (by simp[Tu])];exact ha)
 |convert a b x=>dsimp only at ha⊢;rw[<- h x (by simp[Tu])];exact ha
 |lookup t m x ok=>dsimp only at ha⊢;rw[<- h m (by simp[Tu]),<- h x (by simp[Tu])];exact ha
 |extract x i=>dsimp only at ha⊢;rw[<- h x (by simp[Tu])];exact ha
 |nilCheck x=>dsimp only at ha⊢;rw[<- h x (by simp[Tu])];exact ha
 |makeInterface t x=>dsimp only at ha⊢;rw[<- h x (by simp[Tu])];exact ha
 |typeAssert x a b c=>dsimp only at ha⊢;rw[<- h x (by simp[Tu])];exact ha
 |fieldAddr t x f=>dsimp only at ha⊢;rw[<- h x (by simp[Tu])];exact ha
 |field t x f=>dsimp only at ha⊢;rw[<- h x (by simp[Tu])];exact ha
 |load t x=>dsimp only at ha⊢;rw[<- h x (by simp[Tu])];exact ha
 |entry x=>dsimp only at ha⊢;rw[<- h x (by simp[Tu])];exact ha
 |_=>exact ha.elim
theorem arN(sz:Nat)(a:AV):AS.src ⟨T,H⟩ sz a=AS.src ⟨T',H⟩ sz a:=by cases a<;>rfl
theorem AQ.congr(h:∀x∈o.op.operands,AS.ev ⟨T,H⟩ x=AS.ev ⟨T',H⟩ x)(ha:AQ lv P ⟨T,H⟩ o k):AQ lv P ⟨T',H⟩ o k:=by
 unfold AQ at ha⊢;split at ha
 ·rename_i c ho;have cQ:∀x∈c.args.toList,AS.ev ⟨T,H⟩ x=AS.ev ⟨T',H⟩ x:=λx hx=>h x (by rw[ho];simp[Tu,VS];exact .inr (by simpa using hx));split at ha
  ·rename_i x ba;rw[<- h x (by rw[ho];simp[Tu,VS,ba]),<- CE _ cQ];exact ha
  ·rename_i x name ba;rw[<- h x (by rw[ho];simp[Tu,VS,ba]),<- CE _ cQ];exact ha
  ·split at ha
   ·rename_i x y t t' hx ht;rw[hx]at cQ;rw[<- cQ x (by simp),<- cQ y (by simp)];simp only[arN (T:=T) (T':=T')]at ha;exact ha
   ·exact ha.elim
  ·exact lT.congr h ha
 ·exact lT.congr h ha
end
def c9 (ops:Array Tx)(j:Nat):Option Nat:=(ops[j]?).bind (·.dst)
inductive Reach (ops:Array Tx):Nat->Nat->Prop
 |J3 {i j:Nat} {o:Tx} (ho:ops[i]?=some o) (hj:j∈cU o):Reach ops i j
 |more {i k j:Nat} {o:Tx} (ho:ops[i]?=some o) (hk:k∈cU o) (h:Reach ops k j):Reach ops i j
def uS (acc:List (List Nat))(o:Tx):List (List Nat):=acc++[(cU o++(cU o).flatMap λj=>acc.getD j []).eraseDups]
def JC (ops:Array Tx):List (List Nat):=ops.toList.foldl uS []
theorem Qi(ops:Array Tx):∀(l:List Tx)(acc:List (List Nat))(i:Nat),acc.length=i->(∀k o,l[k]?=some o->ops[i+k]?=some o)->(∀a,a<acc.length->∀j∈acc.getD a [],Reach ops a j)->
  ∀a,∀j∈(l.foldl uS acc).getD a [],Reach ops a j
 |[],acc,i,_,_,h,a,j,hj=>by
  simp only[Z9]at hj;by_cases ha:a<acc.length
  ·exact h a ha j hj
  ·rw[SE,Ux (by omega)]at hj;simp at hj
 |o::l,acc,i,hi,ho,h,a,j,hj=>by
  rw[UY]at hj;refine Qi ops l (uS acc o) (i+1) (by simp[uS,hi]) (λk o' hk=>by have:=ho (k+1) o' (by simpa using hk);rwa [show i+(k+1)=i+1+k by omega]at this) (λa ha j hj=> ?_) a j hj;have GX:ops[i]?=some o:=by have:=ho 0 o rfl;simpa using this
  have rZ:∀a,a<acc.length->(uS acc o).getD a []=acc.getD a []:=λa ha=>by
   simp[uS,SE,SY ha]
  by_cases gw:a<acc.length
  ·rw[rZ a gw]at hj;exact h a gw j hj
  ·have hae:a=acc.length:=(by simp[uS]at ha;omega);subst hae;have e:(uS acc o).getD acc.length []=(cU o++(cU o).flatMap λj=>acc.getD j []).eraseDups:=by
    simp[uS,SE]
   rw[e,Zc,SS]at hj;rw[hi];rcases hj with hj|hj
   ·exact .J3 GX hj
   ·obtain⟨k,hk,hj⟩:=S5.1 hj;have Dl:k<acc.length:=by
     apply Tv;intro hn;rw[SE,Ux (by omega)]at hj;simp at hj
    exact .more GX hk (h k Dl j hj)
def Ai (nt p:Nat)(ops:Array Tx):Bool:=
 let cl:=JC ops;decide (p<=ops.size)&&
 (S0 ops.size).all (λi=>match ops[i]?with
  |some o=>o.dst.all (·<nt)&& !mL o.op&&(cU o).all (·<i)&&
   (if i<p then
    (S0 i).all (λj=>match o.dst,c9 ops j with
     |some d,some d'=>d !=d'
     |_,_=>true)&&
    (o.op.operands.toList.all λx=>match x with
     |.tmp t=>(S0 p).all λj=>c9 ops j !=some t||(cU o).contains j
     |_=>true)&&
    (match o.guard with
     |some (j,_)=>(cU o).contains j
     |none=>true)
   else(S0 i).all λj=>(cl.getD i []).contains j)
  |none=>true)
structure zP (nt p:Nat)(ops:Array Tx):Prop where
 le:p<=ops.size
 dst:∀(i:Nat) o d,ops[i]?=some o->o.dst=some d->d<nt
 wC:∀(i:Nat) o,ops[i]?=some o->mL o.op=false
 low:∀(i:Nat) o,ops[i]?=some o->∀j∈cU o,j<i
 dR:∀(i j:Nat) o d,j<i->i<p->ops[i]?=some o->o.dst=some d->c9 ops j≠some d
 NQ:∀(i:Nat) o t j,i<p->ops[i]?=some o-> .tmp t∈o.op.operands->j<p->c9 ops j=some t->j∈cU o
 CP:∀(i:Nat) o j w,i<p->ops[i]?=some o->o.guard=some (j,w)->j∈cU o
 suf:∀(i j:Nat),p<=i->i<ops.size->j<i->Reach ops i j
theorem Ai.out{nt p:Nat}{ops:Array Tx}(h:Ai nt p ops=true):zP nt p ops:=by
 unfold Ai at h;simp only[Tg,decide_eq_true_eq]at h;obtain⟨hle,h⟩:=h;have key:∀(i:Nat) o,ops[i]?=some o->(o.dst.all (·<nt)=true/\mL o.op=false/\(∀j∈cU o,j<i))/\
   (if i<p then
    (S0 i).all (λj=>match o.dst,c9 ops j with
     |some d,some d'=>d !=d'
     |_,_=>true)&&
    (o.op.operands.toList.all λx=>match x with
     |.tmp t=>(S0 p).all λj=>c9 ops j !=some t||(cU o).contains j
     |_=>true)&&
    (match o.guard with
     |some (j,_)=>(cU o).contains j
     |none=>true)
   else(S0 i).all λj=>((JC ops).getD i []).contains j)=true:=λi o ho=>by
  have hi:i<ops.size:=(SR.1 ho).1;have:=Tw.1 h i (by simpa using hi);rw[ho]at this;simp only[Tg,Tw,T4,decide_eq_true_eq]at this;exact⟨⟨this.1.1.1,this.1.1.2,this.1.2⟩,by simpa only[Tg,Tw]using this.2⟩
 refine⟨hle,λi o d ho hd=> ?_,λi o ho=>(key i o ho).1.2.1,λi o ho=>(key i o ho).1.2.2,λi j o d hj hp ho hd e=> ?_,λi o t j hp ho ht hj e=> ?_,λi o j w hp ho hg=> ?_,λi j hp hi hj=> ?_⟩
 ·have:=(key i o ho).1.1;rw[hd]at this;simpa using this
 ·have:=(key i o ho).2;rw[if_pos hp]at this;simp only[Tg,Tw]at this;have:=this.1.1 j (by simpa using hj);rw[hd,e]at this;simp at this
 ·have:=(key i o ho).2;rw[if_pos hp]at this;simp only[Tg,Tw]at this;have:=this.1.2 (.tmp t) (by simpa using ht);simp only[Tw]at this;have:=this j (by simpa using hj);rw[e]at this;simpa using this
 ·have:=(key i o ho).2;rw[if_pos hp]at this;simp only[Tg]at this;have:=this.2;rw[hg]at this;simpa using this
 ·have:=(key i ops[i] (SJ hi)).2;rw[if_neg (by omega)]at this;simp only[Tw]at this;have:=this j (by simpa using hj);refine Qi ops ops.toList [] 0 rfl (λk o hk=>by simpa using hk) (by simp) i j ?_;simpa[JC]using this
theorem Rl{α β:Type}{f g:α->Option β}:∀{l:List α},(∀x∈l,f x=g x)->l.filterMap f=l.filterMap g
 |[],_=>rfl
 |x::l,h=>by
  have ih:=Rl (l:=l) λy hy=>h y (Td _ hy);simp only[List.filterMap_cons,h x (TF ..),ih]
def lr (ops:Array Tx)(f:Nat->AV)(o:Tx):List (Nat×AV):=(cU o).filterMap λj=>(c9 ops j).map λd=>(d,f j)
def wc (lv:Bool)(P:SI)(r:Option Nat)(ops:Array Tx)(T0:List (Nat×AV))(H:List aa)(f:Nat->AV)(i:Nat)(o:Tx):Prop:=
 match o.guard with
 |none=>dF lv P r o ⟨lr ops f o++T0,H⟩ (f i)
 |some (j,cj)=>∃d,c9 ops j=some d/\((∃b,look (lr ops f o++T0) d=some (.val (.bool b))/\(b=cj->dF lv P r o ⟨lr ops f o++T0,H⟩ (f i))/\(b= !cj->f i=.val undef))\/(look (lr ops f o++T0) d=some (.val undef)/\f i=.val undef))
theorem vV(l m:List (Nat×AV))(t:Nat):look (l++m) t=(look l t).or (look m t):=by
 induction l with
 |nil=>rfl
 |cons x l ih=>
  obtain⟨k,a⟩:=x;simp only[Vp,look];split
  ·rfl
  ·exact ih
theorem o_{l:List (Nat×AV)}{t:Nat}{a:AV}(h:look l t=some a):(t,a)∈l:=by
 induction l with
 |nil=>cases h
 |cons x l ih=>
  obtain⟨k,b⟩:=x;simp only[look]at h;split at h
  ·rename_i e;subst e;cases h;exact TF ..
  ·exact Td _ (ih h)
theorem Nw{l:List (Nat×AV)}{t:Nat}(h:∀p∈l,p.1≠t):look l t=none:=by
 induction l with
 |nil=>rfl
 |cons x l ih=>
  obtain⟨k,b⟩:=x;simp only[look];rw[if_neg (h _ (TF ..))];exact ih λp hp=>h p (Td _ hp)
theorem an3{l:List (Nat×AV)}{q:Nat->Bool}{t:Nat}:look (l.filter λp=>q p.1) t=if q t then look l t else none:=by
 induction l with
 |nil=>simp[look]
 |cons x l ih=>
  obtain⟨k,b⟩:=x;by_cases hk:q k=true
  ·rw[WZ (by simpa using hk)];simp only[look];by_cases e:k=t
   ·subst e;simp[hk]
   ·simp[e,ih]
  ·rw[W1 (by simpa using hk),ih];simp only[look];by_cases e:k=t
   ·subst e;simp[hk]
   ·simp[e]
section
variable {ops:Array Tx}{f:Nat->AV}{p:Nat}
theorem an1{o:Tx}{j t:Nat}(hj:j∈cU o)(ht:c9 ops j=some t)(yN:∀j'∈cU o,c9 ops j'=some t->j'=j):look (lr ops f o) t=some (f j):=by
 cases e:look (lr ops f o) t with
 |none=>
  exfalso;have hm:(t,f j)∈lr ops f o:=V_.2 ⟨j,hj,by rw[ht];rfl⟩;have:∀(l:List (Nat×AV)),(t,f j)∈l->look l t≠none:=by
   intro l;induction l with
   |nil=>intro h;cases h
   |cons x l ih=>
    intro h;obtain⟨k,b⟩:=x;simp only[look];split
    ·simp
    ·rename_i aG;rcases SK.1 h with h|h
     ·cases h;exact absurd rfl aG
     ·exact ih h
  exact this _ hm e
 |some a=>
  obtain⟨j',iI,e'⟩:=V_.1 (o_ e);obtain⟨d,hd,e'⟩:=Ts.1 e';cases e';rw[yN j' iI hd]
theorem an2{o:Tx}{t:Nat}(h:∀j∈cU o,c9 ops j≠some t):look (lr ops f o) t=none:=by
 refine Nw λx hx e=> ?_;obtain⟨j,hj,e'⟩:=V_.1 hx;obtain⟨d,hd,e'⟩:=Ts.1 e';cases e';exact h j hj (by rw[hd];exact congrArg some e)
end
section
variable {lv:Bool}{P:SI}{r:Option Nat}{s:AS}{ops:Array Tx}{nt p:Nat}
def uO (s:AS)(ops:Array Tx)(p:Nat):List (Nat×AV):=s.T.filter λx=>(S0 p).all λj=>c9 ops j !=some x.1
theorem HG(t:Nat):look (uO s ops p) t=if(S0 p).all (λj=>c9 ops j !=some t)then look s.T t else none:=an3 (q:=λt=>(S0 p).all λj=>c9 ops j !=some t)
structure pq (s:AS)(ops:Array Tx)(fs:List AV)(s':AS):Prop where
 H:s'.H=s.H
 new:∀j t,j<fs.length->c9 ops j=some t->look s'.T t=fs[j]?
 old:∀t,(∀j,j<fs.length->c9 ops j≠some t)->look s'.T t=look s.T t
theorem pq.put(aq:zP nt p ops){fs:List AV}{s':AS}(h:pq s ops fs s')(hp:fs.length<p){o:Tx}(ho:ops[fs.length]?=some o)(av:AV):pq s ops (fs++[av]) (s'.put o.dst av):=by
 have hd:c9 ops fs.length=o.dst:=by simp[c9,ho]
 refine⟨by rw[fx];exact h.H,λj t hj ht=> ?_,λt ht=> ?_⟩
 ·simp only[SL,TG]at hj;by_cases LQ:j=fs.length
  ·subst LQ;rw[hd]at ht;rw[ht];simp[AS.put,look]
  ·have iI:j<fs.length:=(by omega);rw[SY iI,<- h.new j t iI ht];cases tL:o.dst with
   |none=>rfl
   |some d=>
    have aG:d≠t:=λe=>aq.dR fs.length j o d iI hp ho tL (by rw[e];exact ht);simp[AS.put,look,aG]
 ·have hold:=h.old t λj hj=>ht j (by simp;omega);rw[<- hold];cases tL:o.dst with
  |none=>rfl
  |some d=>
   have aG:d≠t:=λe=>ht fs.length (by simp) (by rw[hd,tL,e]);simp[AS.put,look,aG]
theorem pq.sw{fs:List AV}{s':AS}(h:pq s ops fs s'){d:Nat}{a:AV}(hd:look s'.T d=some a):pq s ops fs ⟨(d,a)::s'.T,s'.H⟩:=by
 have e:∀t,look ((d,a)::s'.T) t=look s'.T t:=λt=>by
  simp only[look];split
  ·rename_i e;subst e;exact hd.symm
  ·rfl
 exact⟨h.H,λj t hj ht=>by rw[e];exact h.new j t hj ht,λt ht=>by rw[e];exact h.old t ht⟩
theorem pq.seen(aq:zP nt p ops){fs gs:List AV}{s':AS}(h:pq s ops fs s')(hp:fs.length<p){o:Tx}(ho:ops[fs.length]?=some o){t:Nat}(ht:∀j,j<p->c9 ops j=some t->j∈cU o):
  look (lr ops (λj=>(fs++gs).getD j (.val undef)) o++uO s ops p) t=look s'.T t:=by
 have iA:=aq.low fs.length o ho;have amI:∀j j',j<p->j'<p->c9 ops j=some t->c9 ops j'=some t->j'=j:=λj j' hj iI e e'=>by
  have get:∀i,i<p->∃o,ops[i]?=some o:=λi hi=>⟨_,SJ (Te hi aq.le)⟩;rcases XI j j' with hlt|hlt|hlt
  ·obtain⟨o',bi⟩:=get j' iI;exact absurd e (aq.dR j' j o' t hlt iI bi (by simpa[c9,bi]using e'))
  ·exact hlt.symm
  ·obtain⟨o',bi⟩:=get j hj;exact absurd e' (aq.dR j j' o' t hlt hj bi (by simpa[c9,bi]using e))
 rw[vV];by_cases hex:∃j,j<p/\c9 ops j=some t
 ·obtain⟨j,hj,wZ⟩:=hex;have jQ:=ht j hj wZ;have dP:=iA j jQ;rw[an1 jQ wZ λj' iI e=>amI j j' hj (Wr (iA j' iI) hp) wZ e];rw[h.new j t dP wZ];simp[SE,SY dP,SX dP]
 ·have fD:∀j,j<p->c9 ops j≠some t:=λj hj e=>hex ⟨j,hj,e⟩;rw[an2 λj hj=>fD j (Wr (iA j hj) hp),Option.none_or,HG,if_pos (by simp only[Tw];intro j hj;simpa using fD j (by simpa using hj))];exact(h.old t λj hj=>fD j (by omega)).symm
theorem Ig(aq:zP nt p ops){K:AS->Prop}:∀(n:Nat)(fs:List AV)(s':AS),fs.length+n=p->pq s ops fs s'->nA lv P ops ((ops.toList.take p).drop fs.length) s' K->
  ∃gs,(fs++gs).length=p/\(∀i o,fs.length<=i->i<p->ops[i]?=some o->wc lv P r ops (uO s ops p) s.H (λj=>(fs++gs).getD j (.val undef)) i o)/\∃dn,pq s ops (fs++gs) dn/\K dn
 |0,fs,s',hn,hr,h=>by
  have:(ops.toList.take p).drop fs.length=[]:=by
   apply T7;simp;omega
  rw[this]at h;exact⟨[],by simp;omega,λi o h1 h2=>absurd h2 (by omega),s',by simpa using hr,h⟩
 |n+1,fs,s',hn,hr,h=>by
  have hp:fs.length<p:=by omega
  have aY:fs.length<ops.size:=Te hp aq.le;have ho:ops[fs.length]?=some ops[fs.length]:=SJ aY;generalize AW:ops[fs.length]=o at ho;have hd:(ops.toList.take p).drop fs.length=o::(ops.toList.take p).drop (fs.length+1):=by
   rw[TY (by simp;omega)];simp[AW]
  rw[hd]at h;have alY:∀t,avm t∈o.op.operands->∀j,j<p->c9 ops j=some t->j∈cU o:=λt ht j hj e=>aq.NQ fs.length o t j hp ho ht hj e;have ce:∀(s1:AS)(gs:List AV),pq s ops fs s1->∀x∈o.op.operands,AS.ev s1 x=AS.ev ⟨lr ops (λj=>(fs++gs).getD j (.val undef)) o++uO s ops p,s.H⟩ x:=λs1 gs DE x hx=>by
   cases x with
   |tmp t=>exact(DE.seen aq hp ho (alY t hx)).symm
   |_=>rfl
  have go:∀(s1:AS),pq s ops fs s1->(AQ lv P s1 o λav=>nA lv P ops ((ops.toList.take p).drop (fs.length+1)) (s1.put o.dst av) K)->
    ∃av gs,(fs++av::gs).length=p/\dF lv P r o ⟨lr ops (λj=>(fs++av::gs).getD j (.val undef)) o++uO s ops p,s.H⟩ av/\(∀i o,fs.length+1<=i->i<p->ops[i]?=some o->wc lv P r ops (uO s ops p) s.H (λj=>(fs++av::gs).getD j (.val undef)) i o)/\∃dn,pq s ops (fs++av::gs) dn/\K dn:=λs1 DE h1=>by
   obtain⟨av0,_,_⟩:=h1.sound (r:=r);have dW:s1=⟨s1.T,s.H⟩:=(by rw[<- DE.H]);rw[dW]at h1;have h2:=AQ.congr (T':=lr ops (λj=>(fs++[]).getD j (.val undef)) o++uO s ops p) (λx hx=>by rw[<- dW];exact ce s1 [] DE x hx) h1;obtain⟨av,hq,h3⟩:=h2.sound (r:=r);obtain⟨gs,g1,g2,dn,g3,g4⟩:=Ig aq n (fs++[av]) (s1.put o.dst av) (by simp;omega) (DE.put aq hp ho av) (by rw[<- dW]at h3;simpa using h3);have e:fs++[av]++gs=fs++av::gs:=(by simp);rw[e]at g1 g2 g3;refine⟨av,gs,g1,?_,λi o hi=>g2 i o (by simpa using hi),dn,g3,g4⟩;have ed:lr ops (λj=>(fs++av::gs).getD j (.val undef)) o=lr ops (λj=>(fs++[]).getD j (.val undef)) o:=by
    unfold lr;apply Rl;intro j hj;have dP:=aq.low fs.length o ho j hj;simp[SE,SY dP]
   rw[ed];exact hq
  simp only[nA]at h;split at h
  ·rename_i hg;obtain⟨av,gs,g1,g2,g3,g4⟩:=go s' hr h;refine⟨av::gs,g1,λi o' hi oW bi=> ?_,g4⟩;by_cases dD:i=fs.length
   ·subst dD;rw[ho]at bi;cases bi;unfold wc;rw[hg];simpa[SE]using g2
   ·exact g3 i o' (by omega) oW bi
  ·rename_i j cj hg;obtain⟨d,gz,hA⟩:=h.out;obtain⟨a,fj,hB⟩:=hA.out;have jQ:=aq.CP fs.length o j cj hp ho hg;have dP:=aq.low fs.length o ho j jQ;have Mq:∀gs,look (lr ops (λj=>(fs++gs).getD j (.val undef)) o++uO s ops p) d=some a:=λgs=>by
    rw[hr.seen aq hp ho λj' iI e=> ?_]
    ·exact fj
    ·have get:∀i,i<p->∃o,ops[i]?=some o:=λi hi=>⟨_,SJ (Te hi aq.le)⟩;rcases XI j j' with hlt|hlt|hlt
     ·obtain⟨o',bi⟩:=get j' iI;exact absurd gz (aq.dR j' j o' d hlt iI bi (by simpa[c9,bi]using e))
     ·rw[<- hlt];exact jQ
     ·obtain⟨o',bi⟩:=get j (by omega);exact absurd e (aq.dR j j' o' d hlt (by omega) bi (by simpa[c9,bi]using gz))
   rcases hB with⟨b,e1,hC,hD⟩|⟨e1,hZ⟩
   rotate_left
   ·subst e1;obtain⟨gs,g1,g2,dn,g3,g4⟩:=Ig aq n (fs++[.val undef]) _ (by simp;omega) (hr.put aq hp ho (.val undef)) (by simpa using hZ);have e:fs++[.val undef]++gs=fs++ .val undef::gs:=(by simp);rw[e]at g1 g2 g3;refine⟨.val undef::gs,g1,λi o' hi oW bi=> ?_,dn,g3,g4⟩;by_cases dD:i=fs.length
    ·subst dD;rw[ho]at bi;cases bi;unfold wc;rw[hg];exact⟨d,gz,.inr ⟨Mq _,by simp[SE]⟩⟩
    ·exact g2 i o' (by simp;omega) oW bi
   subst e1;by_cases hb:b=cj
   ·subst hb;obtain⟨av,gs,g1,g2,g3,g4⟩:=go _ (hr.sw fj) (hC rfl);refine⟨av::gs,g1,λi o' hi oW bi=> ?_,g4⟩;by_cases dD:i=fs.length
    ·subst dD;rw[ho]at bi;cases bi;unfold wc;rw[hg];refine⟨d,gz,.inl ⟨b,Mq _,λ_=>by simpa[SE]using g2,λe=>by cases b<;>cases e⟩⟩
    ·exact g3 i o' (by omega) oW bi
   ·have dI:b= !cj:=(by cases b<;>cases cj<;>simp_all);subst dI;have h3:=hD rfl;obtain⟨gs,g1,g2,dn,g3,g4⟩:=Ig aq n (fs++[.val undef]) _ (by simp;omega) ((hr.sw fj).put aq hp ho (.val undef)) (by simpa using h3);have e:fs++[.val undef]++gs=fs++ .val undef::gs:=(by simp);rw[e]at g1 g2 g3;refine⟨.val undef::gs,g1,λi o' hi oW bi=> ?_,dn,g3,g4⟩;by_cases dD:i=fs.length
    ·subst dD;rw[ho]at bi;cases bi;unfold wc;rw[hg];exact⟨d,gz,.inl ⟨!cj,Mq _,λe=>absurd e hb,λ_=>by simp[SE]⟩⟩
    ·exact g2 i o' (by simp;omega) oW bi
structure I2 (E:Env)(V:View)(ops:Array Tx)(T0:List (Nat×AV))(H:List aa)(f:Nat->AV)(X:List Nat)(a:Act)(nt:Nat):Prop where
 bw:Conc E V H
 base:cu E T0 a.tmps
 done:∀i∈X,∀d,c9 ops i=some d->ap E (f i) (a.tmps.getD d undef)
 size:a.tmps.size=nt
theorem Bt{X:List Nat}(hX:∀i∈X,∀o,ops[i]?=some o->∀j∈cU o,j∈X){i j:Nat}(h:Reach ops i j):((∀o,ops[i]?=some o->∀k∈cU o,k∈X))->j∈X:=by
 induction h with
 |J3 ho hj=>intro hd;exact hd _ ho _ hj
 |more ho hk _ ih=>intro hd;exact ih (hX _ (hd _ ho _ hk))
theorem aq9(aq:zP nt p ops){X l:List Nat}(hs:mv ops X l):∀q,p<=q->q<=ops.size->(∀i,i∈X<->i<q)->(∀i∈X,∀o,ops[i]?=some o->∀j∈cU o,j∈X)->l=Ug q (ops.size-q):=by
 induction hs with
 |nil X h=>
  intro q hp hq hX _;have:ops.size<=q:=by
   apply Tv;intro hn;have:=(hX q).1 (h q (by omega));omega
  have:ops.size-q=0:=by omega
  rw[this];rfl
 |cons o ho hn hd _ ih=>
  rename_i X i l _;intro q hp hq hX hc;have hi:i<ops.size:=(SR.1 ho).1;have hiq:q<=i:=by
   apply Tv;intro h;exact hn ((hX i).2 (by omega))
  have hqi:i=q:=by
   apply Tv;intro aG;have:=Bt hc (aq.suf i q (by omega) hi (by omega)) (λo' bi k hk=>by rw[ho]at bi;cases bi;exact hd k hk);have:=(hX q).1 this;omega
  subst hqi;have e:ops.size-i=(ops.size-(i+1))+1:=by omega
  rw[e,VU];congr 1;refine ih (i+1) (by omega) (by omega) (λk=> ?_) (λk hk o' bi j hj=> ?_)
  ·simp only[SK,hX];omega
  ·rcases SK.1 hk with rfl|hk
   ·rw[ho]at bi;cases bi;exact Td _ (hd j hj)
   ·exact Td _ (hc k hk o' bi j hj)
theorem ahR{T0:List (Nat×AV)}{H:List aa}{f:Nat->AV}(aq:zP nt p ops)(akM:∀j,j<p->∀d,c9 ops j=some d->look T0 d=none)(ay:∀(i:Nat) o,i<p->ops[i]?=some o->wc lv P r ops T0 H f i o){X l:List Nat}(hs:mv ops X l):
  (∀i∈X,i<p)->(∀i∈X,∀o,ops[i]?=some o->∀j∈cU o,j∈X)->∀(E:Env)(V:View)(a:Act)(Q:Ex->Act->View->Prop),I2 E V ops T0 H f X a nt->
   (∀E' V' a' X',Kept E E' V V' a a'->I2 E' V' ops T0 H f X' a' nt->(∀i,i<p->i∈X')->dq lv P r ops Q (Ug p (ops.size-p)) a' V')->dq lv P r ops Q l a V:=by
 have full:∀X:List Nat,(∀i∈X,i<p)->(∀i,i<p->i∈X)->∀i,i∈X<->i<p:=λX h1 h2 i=>⟨h1 i,h2 i⟩;induction hs with
 |nil X h=>
  intro hX hc E V a Q ai hQ;have eJ:p=ops.size:=by
   apply Tv;intro aG;have:=hX p (h p (by have:=aq.le;omega));omega
  have:=hQ E V a X (Kept.refl E V a) ai (λi hi=>h i (by omega));rw[eJ,Vl]at this;exact this
 |cons o ho hn hd l9 ih=>
  rename_i X i l;intro hX hc E V a Q ai hQ;have hi:i<ops.size:=(SR.1 ho).1;by_cases oW:i<p
  ·simp only[dq,ho];have oQ:∀k∈i::X,k<p:=λk hk=>(SK.1 hk).elim (λe=>by rw[e];exact oW) (hX k);have bp:∀k∈i::X,∀o',ops[k]?=some o'->∀j∈cU o',j∈i::X:=λk hk o' bi j hj=>by
    rcases SK.1 hk with rfl|hk
    ·rw[ho]at bi;cases bi;exact Td _ (hd j hj)
    ·exact Td _ (hc k hk o' bi j hj)
   have tok:cu E (lr ops f o++T0) a.tmps:=by
    intro t av e;rw[vV]at e;cases hl:look (lr ops f o) t with
    |none=>rw[hl]at e;exact ai.base t av e
    |some x=>
     rw[hl]at e;cases e;obtain⟨j,hj,e⟩:=V_.1 (o_ hl);obtain⟨d,cF,e⟩:=Ts.1 e;cases e;obtain⟨oj,kV,jn⟩:=Tf.1 cF;exact⟨by rw[ai.size];exact aq.dst j oj _ kV jn,ai.done j (hd j hj) _ cF⟩
   have tL:c9 ops i=o.dst:=(by simp[c9,ho]);have put:∀{E' V'}(v:SQ),E.Le E'->Conc E' V' H->ap E' (f i) v->I2 E' V' ops T0 H f (i::X) (a.put o.dst v) nt:=λ{E' V'} v hle cq hv=>by
    cases dx:o.dst with
    |none=>
     refine⟨cq,ai.base.mono hle,λk hk d eD=> ?_,ai.size⟩;rcases SK.1 hk with rfl|hk
     ·rw[tL,dx]at eD;cases eD
     ·exact(ai.done k hk d eD).mono hle
    |some d0=>
     have hlt:d0<a.tmps.size:=(by rw[ai.size];exact aq.dst i o d0 ho dx);refine⟨cq,λt av e=> ?_,λk hk d eD=> ?_,by simp[X7,ai.size]⟩
     ·have aG:d0≠t:=λe'=>(by rw[<- e',akM i oW d0 (by rw[tL,dx])]at e;cases e);have:=ai.base.mono hle t av e;exact⟨by simpa[X7]using this.1,by simpa[X7,SH,SW aG]using this.2⟩
     ·by_cases r_:k=i
      ·subst r_;rw[tL,dx]at eD;cases eD;simpa[X7,SH,Tb hlt]using hv
      ·have aJ:k∈X:=(SK.1 hk).resolve_left r_;have aG:d0≠d:=λe'=>by
        subst e';have hkp:=hX k aJ;have get:∀i,i<p->∃o,ops[i]?=some o:=λi hi=>⟨_,SJ (Te hi aq.le)⟩;rcases XI k i with hlt|hlt|hlt
        ·exact aq.dR i k o d0 hlt oW ho dx eD
        ·exact r_ hlt
        ·obtain⟨o',bi⟩:=get k hkp;exact aq.dR k i o' d0 hlt hkp bi (by simpa[c9,bi]using eD) (by rw[tL,dx])
       have:=(ai.done k aJ d eD).mono hle;simpa[X7,SH,SW aG]using this
   have go:dF lv P r o ⟨lr ops f o++T0,H⟩ (f i)->xL lv P r o a V (dq lv P r ops Q l) Q:=λhq=>
    hq E V a _ Q ai.bw tok (.inr (aq.wC i o ho)) λE' V' v hle cp fg cq hv=>
     ih oQ bp E' V' (a.put o.dst v) Q (put v hle cq hv) λbT aU cw m9 hk di eQ=>
      hQ bT aU cw m9 ⟨hle.trans hk.le,hk.size.trans (eo _ _ _),hk.defers.trans (put_defers _ _ _),hk.role.trans cp,hk.deaf.trans fg⟩ di eQ
   have AI:=ay i o oW ho;unfold wc at AI;split at AI
   ·rename_i Dg;have hw:Ti o (yielded ops a.tmps)=true:=(by unfold Ti;rw[Dg]);rw[if_pos hw];exact .inl (go AI)
   ·rename_i j cj Dg;obtain⟨d,gz,AI⟩:=AI;rcases AI with⟨b,bS,h1,h2⟩|⟨bS,hu⟩
    rotate_left
    ·obtain⟨hlt,hv⟩:=tok d _ bS;have hy:yielded ops a.tmps j≠some cj:=by
      obtain⟨oj,kV,jn⟩:=Tf.1 gz;generalize hx:a.tmps.getD d undef=x at hv;cases hv;rw[SH,SJ hlt]at hx;simp only[S7]at hx;simp[yielded,kV,jn,SJ hlt,hx,undef]
     have hw:¬Ti o (yielded ops a.tmps)=true:=by
      unfold Ti;rw[Dg];intro h;exact hy (by simpa using h)
     rw[if_neg hw];exact ih oQ bp E V (a.put o.dst undef) Q (put undef (Env.Le.refl E) ai.bw (by rw[hu];exact .val _)) λbT aU cw m9 hk di eQ=>
      hQ bT aU cw m9 ⟨hk.le,hk.size.trans (eo _ _ _),hk.defers.trans (put_defers _ _ _),hk.role,hk.deaf⟩ di eQ
    obtain⟨hlt,hv⟩:=tok d _ bS;have hy:yielded ops a.tmps j=some b:=by
     obtain⟨oj,kV,jn⟩:=Tf.1 gz;generalize hx:a.tmps.getD d undef=x at hv;cases hv;rw[SH,SJ hlt]at hx;simp only[S7]at hx;simp[yielded,kV,jn,SJ hlt,hx]
    by_cases hb:b=cj
    ·have hw:Ti o (yielded ops a.tmps)=true:=(by unfold Ti;rw[Dg];simp[hy,hb]);rw[if_pos hw];exact .inl (go (h1 hb))
    ·have hw:¬Ti o (yielded ops a.tmps)=true:=(by unfold Ti;rw[Dg];simp[hy,hb]);rw[if_neg hw];have hu:=h2 (by cases b<;>cases cj<;>simp_all);exact ih oQ bp E V (a.put o.dst undef) Q (put undef (Env.Le.refl E) ai.bw (by rw[hu];exact .val _)) λbT aU cw m9 hk di eQ=>
      hQ bT aU cw m9 ⟨hk.le,hk.size.trans (eo _ _ _),hk.defers.trans (put_defers _ _ _),hk.role,hk.deaf⟩ di eQ
  ·have eQ:∀k,k<p->k∈X:=λk hk=>Bt hc (aq.suf i k (by omega) hi (by omega)) (λo' bi j hj=>by rw[ho]at bi;cases bi;exact hd j hj);have hl:=aq9 aq (.cons o ho hn hd l9) p (SP _) aq.le (full X hX eQ) hc;rw[hl];exact hQ E V a X (Kept.refl E V a) ai eQ
theorem agl{id:Nat}{Φ:an->AS->Prop}(hm:P.follows .mixedOrders=true)(p:Nat)(aq:Ai nt p ops=true)(h:nA lv P ops (ops.toList.take p) s (λs'=>iF lv P ops (ops.toList.drop p) s' (Φ .normal) (λpv s=>Φ (.panic pv) s))):aQ lv P r nt (.region id ops true) s Φ:=by
 intro E V a Q ai hQ;have aq:=Ai.out aq;obtain⟨gs,g1,g2,dn,g3,g4⟩:=Ig (lv:=lv) (r:=r) aq p [] s (by simp) ⟨rfl,by simp,by simp⟩ (by simpa using h);simp only[UN]at g1 g2 g3;refine O6 λt=> ?_;rw[show VP (P.follows .mixedOrders) ops t=UM .any ops ops.size t (TP ops.size false) [] by unfold VP;rw[hm];simp[Zf]];have hs:=abG (ops:=ops) (λi o ho j hj=>aq.low i o ho j hj) ops.size t (TP ops.size false) [] ⟨by simp,λi hi=>by simp[hi]⟩ (TV Y7 (by simp));refine ahR (T0:=uO s ops p) (H:=s.H) aq (λj hj d hd=> ?_) (λi o hi ho=>g2 i o (by simp) hi ho) hs (by simp) (by simp) E V a Q ⟨ai.bw,λt av e=> ?_,by simp,ai.size⟩ λE' V' a' X' hk aV eQ=> ?_
 ·rw[HG,if_neg];simp only[Tw];intro h;have:=h j (by simpa using hj);rw[hd]at this;simp at this
 ·rw[HG]at e;split at e
  ·exact ai.tok t av e
  ·cases e
 ·refine Bm (Φ:=Φ) (λo ho d e=> ?_) (λo ho=> .inr ?_) (ops.size-p) p dn (by have:=aq.le;omega) g4 E' V' a' Q ⟨by rw[g3.H];exact aV.bw,λt av e=> ?_,aV.size⟩ (λae e bT aU cw s3 aJ qH he hΦ=>hQ ae e bT aU cw s3 (hk.trans aJ) qH he hΦ)
  ·obtain⟨i,hi⟩:=YF.1 ho;exact aq.dst i o d hi e
  ·obtain⟨i,hi⟩:=YF.1 ho;exact aq.wC i o hi
  ·by_cases hex:∃j,j<p/\c9 ops j=some t
   ·obtain⟨j,hj,wZ⟩:=hex;rw[g3.new j t (by omega) wZ]at e;obtain⟨oj,kV,jn⟩:=Tf.1 wZ;refine⟨by rw[aV.size];exact aq.dst j oj t kV jn,?_⟩;have:=aV.done j (eQ j hj) t wZ;simpa[SE,e]using this
   ·have fD:∀j,j<p->c9 ops j≠some t:=λj hj e=>hex ⟨j,hj,e⟩;rw[g3.old t λj hj=>fD j (by omega)]at e;refine aV.base t av ?_;rw[HG,if_pos (by simp only[Tw];intro j hj;simpa using fD j (by simpa using hj))];exact e
end
def sW (T base Vn:List (Nat×AV)):Prop:=T.drop (T.length-base.length)=base/\((T.take (T.length-base.length)).all λp=>(Vn.any λq=>q.1==p.1)|| !(base.any λq=>q.1==p.1))=true
theorem afP{l:List (Nat×AV)}{t:Nat}{a:AV}(h:look l t=some a):(l.any λq=>q.1==t)=true:=UO.2 ⟨_,o_ h,by simp⟩
theorem Nv{l:List (Nat×AV)}{t:Nat}(h:(l.any λq=>q.1==t)=true):∃a,look l t=some a:=by
 induction l with
 |nil=>cases h
 |cons x l ih=>
  obtain⟨k,b⟩:=x;simp only[look];split
  ·exact⟨b,rfl⟩
  ·rename_i aG;refine ih ?_;simpa[YU,aG]using h
theorem sW.look{T base Vn:List (Nat×AV)}(h:sW T base Vn){t:Nat}{a:AV}(hb:look base t=some a)(hv:look Vn t=none):look T t=some a:=by
 obtain⟨h1,h2⟩:=h;have e:T=T.take (T.length-base.length)++base:=by
  have:=(Vr (T.length-base.length) T).symm;rwa [h1]at this
 rw[e,vV];cases hl:Gg.look (T.take (T.length-base.length)) t with
 |none=>exact hb
 |some x=>
  exfalso;have:=Tw.1 h2 _ (o_ hl);simp only[Xb,T4]at this;rcases this with this|this
  ·obtain⟨y,hy⟩:=Nv this;rw[hv]at hy;cases hy
  ·rw[afP hb]at this;cases this
def rF (base Vi Vn:List (Nat×AV))(Hn:List aa)(s':AS):Prop:=
 sW s'.T (Vi++base) Vn/\(∀p∈Vn,∃b,look s'.T p.1=some b/\Wk b p.2)/\∃G,s'.H=Hn++G/\(G=[]\/(bF Hn/\∀p∈Vn,Lt Hn.length p.2))
section
variable {lv:Bool}{P:SI}{r:Option Nat}{s:AS}
theorem z9{nt:Nat}{α:Type}{lt:α->α->Prop}(wf:WellFounded lt){c:Ub}{Φ:an->AS->Prop}(V:α->List (Nat×AV))(Hf:α->List aa)(ok:α->Prop)(m0:α)
  (vv:∀m m',(V m).map (·.1)=(V m').map (·.1)) (gL:∀p∈V m0,∃b,look s.T p.1=some b/\Wk b p.2) (va:Hf m0=s.H) (hl:∀m,ok m->(Hf m).length=s.H.length) (hm:ok m0)
  (h:bF s.H->(∀t a,look s.T t=some a->Lt s.H.length a)->∀m,ok m->∀R:AS->Prop,(∀s',(∃m',lt m' m/\ok m'/\rF s.T (V m) (V m') (Hf m') s')->R s')->aQ lv P r nt c ⟨V m++s.T,Hf m⟩ (an.then R Φ)):aQ lv P r nt (.loop c) s Φ:=by
 have same:∀m m' t,look (V m) t=none->look (V m') t=none:=λm m' t h=>Nw λp hp e=>by
  have h1:p.1∈(V m').map (·.1):=Tm.2 ⟨p,hp,rfl⟩;rw[vv m' m]at h1;obtain⟨q,hq,e'⟩:=Tm.1 h1;have h2:((V m).any λx=>x.1==t)=true:=UO.2 ⟨q,hq,by simp[e',e]⟩;obtain⟨a,ha⟩:=Nv h2;rw[h]at ha;cases ha
 intro E V0 a Q ai hQ;have hlt:∀t a,look s.T t=some a->Lt s.H.length a:=λt x e=>by rw[<- ai.bw.n];exact(ai.tok t x e).2.lt
 have h0:s.Sub ⟨V m0++s.T,Hf m0⟩:=⟨λt x e=>by
  rw[vV]at e;cases hl:look (V m0) t with
  |none=>rw[hl]at e;exact⟨x,e,Wk.refl x⟩
  |some y=>rw[hl]at e;cases e;exact gL (t,x) (o_ hl),va.symm⟩
 refine PO wf (s:=s) (λm=>⟨V m++s.T,Hf m⟩) ok m0 h0 hm (λm aq=>by rw[hl m aq];exact SP _) (λm aq=> ?_) E V0 a Q ai hQ;refine(h ai.bw.aq hlt m aq _ λ_ h=>h).mono λe s' hΦ=> ?_;cases e with
 |normal=>
  obtain⟨m',q1,q2,hk,hv,G,hG,tN⟩:=hΦ;have tok:∀t x,look (V m'++s.T) t=some x->∃b,look s'.T t=some b/\Wk b x/\(look (V m') t=some x\/look s.T t=some x):=λt x e=>by
   rw[vV]at e;cases hl:look (V m') t with
   |none=>
    rw[hl]at e;have hb:look (V m++s.T) t=some x:=(by rw[vV,same m' m t hl];exact e);exact⟨x,hk.look hb hl,Wk.refl x,.inr e⟩
   |some y=>
    rw[hl]at e;cases e;obtain⟨b,h1,h2⟩:=hv (t,x) (o_ hl);exact⟨b,h1,h2,.inl rfl⟩
  refine⟨m',q1,q2,?_⟩;rcases tN with rfl|⟨n5,LV⟩
  ·exact .inl ⟨λt x e=>by obtain⟨b,h1,h2,_⟩:=tok t x e;exact⟨b,h1,h2⟩,by rw[hG,SO]⟩
  ·refine .inr ⟨λt x e=> ?_,⟨G,hG⟩,n5⟩;obtain⟨b,h1,h2,h3⟩:=tok t x e;refine⟨b,h1,h2,?_⟩;rcases h3 with h3|h3
   ·exact LV (t,x) (o_ h3)
   ·show Lt (Hf m').length x;rw[hl m' q2];exact hlt t x h3
 |_=>exact hΦ
theorem eI{nt:Nat}{c:Ub}{Φ:an->AS->Prop}(n:Nat)(V:Nat->List (Nat×AV))(Hf:Nat->List aa)(ok:Nat->Prop)
  (vv:∀m m',(V m).map (·.1)=(V m').map (·.1)) (gL:∀p∈V 0,∃b,look s.T p.1=some b/\Wk b p.2) (va:Hf 0=s.H) (hl:∀m,m<=n->ok m->(Hf m).length=s.H.length) (hm:ok 0)
  (h:bF s.H->(∀t a,look s.T t=some a->Lt s.H.length a)->∀m,m<=n->ok m->∀R:AS->Prop,(∀s',(m<n/\ok (m+1)/\rF s.T (V m) (V (m+1)) (Hf (m+1)) s')->R s')->aQ lv P r nt c ⟨V m++s.T,Hf m⟩ (an.then R Φ)):aQ lv P r nt (.loop c) s Φ:=by
 refine z9 (measure λi=>n-i).wf V Hf (λi=>i<=n/\ok i) 0 vv gL va (λm h=>hl m h.1 h.2) ⟨XY _,hm⟩ (λh1 h2 m aq R hR=> ?_);exact h h1 h2 m aq.1 aq.2 R λs' ⟨q1,q2,q3⟩=>hR s' ⟨m+1,(by show n-(m+1)<n-m;omega),⟨q1,q2⟩,q3⟩
end
theorem lL{T base Vn:List (Nat×AV)}(h1:T.drop (T.length-base.length)=base)(h2:((T.take (T.length-base.length)).all λp=>(Vn.any λq=>q.1==p.1)|| !(base.any λq=>q.1==p.1))=true):sW T base Vn:=⟨h1,h2⟩
theorem jj{H L:List aa}{x:SQ}{k:AV->List aa->Prop}(hH:bF H)(h:k (.val x) H):cJ H.length (H++L) (.val x) k:=jI (Wk.refl _) rfl (SP _) hH (.val x) h
theorem iH{H L:List aa}{a b:AV}{k:AV->List aa->Prop}(hH:bF H)(hw:Wk a b)(hl:Lt H.length b)(h:k b H):cJ H.length (H++L) a k:=jI hw rfl (SP _) hH hl h
def aa.cellsOf:aa->Option (List AV)
 |.cells l _|.part _ l _|.own _ l _=>some l
 |_=>none
theorem ahk(l:List AV)(e:TypeId):aa.cellsOf (.cells l e)=some l:=rfl
theorem ahm(p:Nat)(l:List AV)(e:TypeId):aa.cellsOf (.part p l e)=some l:=rfl
def aa.rowOf:aa->Option (List AV)
 |.cells l _|.part _ l _|.own _ l _=>some l
 |_=>none
theorem aqN(l:List AV)(e:TypeId):aa.rowOf (.cells l e)=some l:=rfl
theorem ahl(p:Nat)(l:List AV)(e:TypeId):aa.cellsOf (.own p l e)=some l:=rfl
theorem aqO(p:Nat)(l:List AV)(e:TypeId):aa.rowOf (.own p l e)=some l:=rfl
theorem aqP(p:Nat)(l:List AV)(e:TypeId):aa.rowOf (.part p l e)=some l:=rfl
theorem agi(T:List (Nat×AV))(H:List aa)(i off:Nat):AS.at ⟨T,H⟩ (.op i off)=((H[i]?).bind aa.cellsOf).map λl=>l.drop off:=by
 simp only[AS.at];cases H[i]?with
 |none=>rfl
 |some x=>cases x<;>rfl
theorem apn(k:T8)(n:Int):AV.parts (.val (.int k n))=some [.val (.int k n)]:=rfl
theorem apj(b:Bool):AV.parts (.val (.bool b))=some [.val (.bool b)]:=rfl
theorem apy(b:ByteArray):AV.parts (.val (.string b))=some [.val (.string b)]:=rfl
theorem apv(b:Option Va):AV.parts (.val (.pointer b))=some [.val (.pointer b)]:=rfl
theorem apr:AV.parts (.val .nilFunc)=some [.val .nilFunc]:=rfl
theorem aps:AV.parts (.val .nilIface)=some [.val .nilIface]:=rfl
theorem apo(r:Option Nat):AV.parts (.val (.map r))=some [.val (.map r)]:=rfl
theorem api(l:List AV):AV.parts (.agg l)=some l:=rfl
theorem apx(n:Nat)(l:List AV)(e:End):AV.parts (.sl n l e)=some [.sl n l e]:=rfl
theorem anK(n:Nat)(l:List AV)(e:End):AV.len (.sl n l e)=some n:=by rw[AV.len]
theorem anJ(i o n c:Nat):AV.len (.bz i o n c)=some n:=by rw[AV.len]
attribute [seval] anK anJ
theorem apu(i o n c:Nat):AV.parts (.bz i o n c)=some [.bz i o n c]:=rfl
theorem apw(l:List AV):AV.parts (.rp l)=some [.rp l]:=rfl
theorem apt(i o:Nat):AV.parts (.op i o)=some [.op i o]:=rfl
theorem apl(f:Fn)(l m:List AV):AV.parts (.fn f l m)=some [.fn f l m]:=rfl
theorem apm(t:TypeId)(a:AV):AV.parts (.db t a)=some [.db t a]:=rfl
theorem apq(i:Nat):AV.parts (.mp i)=some [.mp i]:=rfl
theorem ant(k:T8)(n:Int):AV.leaf (.val (.int k n))=true:=rfl
theorem anp(b:Bool):AV.leaf (.val (.bool b))=true:=rfl
theorem anF(b:ByteArray):AV.leaf (.val (.string b))=true:=rfl
theorem anC(b:Option Va):AV.leaf (.val (.pointer b))=true:=rfl
theorem anw:AV.leaf (.val .nilFunc)=true:=rfl
theorem anx:AV.leaf (.val .nilIface)=true:=rfl
theorem anu(r:Option Nat):AV.leaf (.val (.map r))=true:=rfl
theorem anE(n:Nat)(l:List AV)(e:End):AV.leaf (.sl n l e)=true:=rfl
theorem anB(i o n c:Nat):AV.leaf (.bz i o n c)=true:=rfl
theorem anD(l:List AV):AV.leaf (.rp l)=true:=rfl
theorem anA(i o:Nat):AV.leaf (.op i o)=true:=rfl
theorem anr(f:Fn)(l m:List AV):AV.leaf (.fn f l m)=true:=rfl
theorem ans(t:TypeId)(a:AV):AV.leaf (.db t a)=true:=rfl
theorem anv(i:Nat):AV.leaf (.mp i)=true:=rfl
theorem aoR(k:T8)(n:Int):AV.qf (.int k n)=.val (.int k n):=rfl
theorem aoO(b:Bool):AV.qf (.bool b)=.val (.bool b):=rfl
theorem aoU:AV.qf (.slice none 0 0)=.sl 0 [] .exact:=rfl
theorem aoP:AV.qf .nilFunc=.val .nilFunc:=rfl
theorem aoQ:AV.qf .nilIface=.val .nilIface:=rfl
theorem aoT(a:Option Va):AV.qf (.pointer a)=.val (.pointer a):=rfl
theorem aoS(a:Option Nat):AV.qf (.map a)=.val (.map a):=rfl
theorem atN(l:List SQ):mr (.agg l.toArray)=l.map AV.qf:=by simp[mr,ac_]
theorem atT(k:T8)(n:Int):mr (.int k n)=[.val (.int k n)]:=rfl
theorem atO(b:Bool):mr (.bool b)=[.val (.bool b)]:=rfl
theorem atW:mr (.slice none 0 0)=[.sl 0 [] .exact]:=rfl
theorem atQ:mr .nilFunc=[.val .nilFunc]:=rfl
theorem atS:mr .nilIface=[.val .nilIface]:=rfl
theorem atV(a:Option Va):mr (.pointer a)=[.val (.pointer a)]:=rfl
theorem atU(a:Option Nat):mr (.map a)=[.val (.map a)]:=rfl
theorem ais(s:AS):kB s []=some []:=rfl
theorem air(s:AS)(i:Nat)(x:Tj)(l:List (Nat×Tj)):kB s ((i,x)::l)=(s.ev x).bind λa=>(kB s l).map λaF=>(i,a)::aF:=by
 simp only[kB];cases s.ev x with
 |none=>rfl
 |some a=>cases kB s l<;>rfl
theorem ajJ(p:Nat->Option (Nat×Nat))(c:List AV):oL p c []=some c:=rfl
theorem ajI(p:Nat->Option (Nat×Nat))(c:List AV)(i:Nat)(a:AV)(r:List (Nat×AV)):oL p c ((i,a)::r)=(p i).bind λx=>(a.parts).bind λlp=>if lp.length≠x.2\/x.1+lp.length>c.length then none else oL p (iO c x.1 lp) r:=by
 simp only[oL];cases p i with
 |none=>rfl
 |some x=>cases a.parts<;>rfl
theorem apG(l:List (Nat×Nat))(i:Nat):iq.at (.fields l) i=l[i]?:=rfl
theorem apF(sz i:Nat):iq.at (.elems sz) i=some (i* sz,sz):=rfl
theorem atL(z:SQ):gG z 0=[]:=rfl
theorem arP(s:AS)(sz m:Nat)(l:List AV)(e:End):s.src sz (.sl m l e)=some (m,l.take (m* sz)):=rfl
theorem arO(T:List (Nat×AV))(H:List aa)(sz i off m c:Nat):AS.src ⟨T,H⟩ sz (.bz i off m c)=((H[i]?).bind aa.rowOf).map λl=>(m,(l.drop off).take (m* sz)):=by
 simp only[AS.src];cases H[i]?with
 |none=>rfl
 |some x=>cases x<;>rfl
theorem af9(n:Nat)(l:List AV)(e:End)(kO:Nat->Nat->Nat->Nat->Prop)(k:Nat->List AV->End->Prop):AV.qx (.sl n l e) kO k=k n l e:=by rw[AV.qx]
theorem af8(i o n c:Nat)(kO:Nat->Nat->Nat->Nat->Prop)(k:Nat->List AV->End->Prop):AV.qx (.bz i o n c) kO k=kO i o n c:=by rw[AV.qx]
theorem afS:type_of% @uC.eq_1:=by intros;rw[uC.eq_1]
theorem afQ(s:AS)(dst:Option Nat)(next:AS->Prop)(n m sz:Nat)(elem:TypeId)(l l':List AV):BS s dst next n m sz elem l l' .exact=next ((⟨s.T,s.H++[.tail (n+m) sz elem]⟩:AS).put dst (.sl (n+m) (l++l') (.opn s.H.length))):=rfl
theorem afR(s:AS)(dst:Option Nat)(next:AS->Prop)(n m sz:Nat)(elem:TypeId)(l l':List AV)(k:Nat):BS s dst next n m sz elem l l' (.opn k)=((match s.H[k]?with
   |some (.tail n' eG gX)=>n'=n/\eG=sz/\gX=elem
   |_=>False)/\(∀a∈l',a.leaf=true)/\next ((⟨s.T,s.H.set k (.tail (n+m) sz elem)⟩:AS).put dst (.sl (n+m) (l++l') (.opn k)))):=rfl
theorem aqE(P:SI)(T:List (Nat×AV))(H:List aa)(b t:Nat):vY P ⟨T,H⟩ (.cell b t)=(look T b).bind λp=>((⟨T,H⟩:AS).at p).bind λl=>(Ty P t).bind λx=>if x.2 then(if x.1<=l.length then some (.agg (l.take x.1))else none)else l[0]?:=rfl
section
variable {lv:Bool}{P:SI}{s s':AS}
@[congr] theorem au1 {α : Type} {x y : Option α} {k : α -> Prop} (h : x = y) : ao x k = ao y k := by rw [h]
@[congr] theorem auc {a b : AV} {k : Bool -> Prop} (h : a = b) : AV.asBool a k = AV.asBool b k := by rw [h]
@[congr] theorem aud {a b : AV} {k : T8 -> Int -> Prop} (h : a = b) : AV.asInt a k = AV.asInt b k := by rw [h]
@[congr] theorem aui {a b : AV} {k : List AV -> Prop} (h : a = b) : AV.xU a k = AV.xU b k := by rw [h]
@[congr] theorem aub {a b : AV} {k : List AV -> Prop} (h : a = b) : AV.asAgg a k = AV.asAgg b k := by rw [h]
@[congr] theorem auf {a b : AV} {k : Nat -> Nat -> Prop} (h : a = b) : AV.qw a k = AV.qw b k := by rw [h]
@[congr] theorem aue {a b : AV} {k : Nat -> Prop} (h : a = b) : AV.s_ a k = AV.s_ b k := by rw [h]
@[congr] theorem auh {a b : AV} {k : Nat -> List AV -> End -> Prop} (h : a = b) : AV.wu a k = AV.wu b k := by rw [h]
@[congr] theorem aug {a b : AV} {kO : Nat -> Nat -> Nat -> Nat -> Prop} {k : Nat -> List AV -> End -> Prop} (h : a = b) : AV.qx a kO k = AV.qx b kO k := by rw [h]
@[congr] theorem at7 {H H' : List aa} {k : AV -> List aa -> Prop} {id o5 off Et n n' c0 P9 m m' sz : Nat} {elem : TypeId} {l l' : List AV} (h0 : H = H') (h1 : id = o5) (h2 : off = Et) (h3 : n = n') (h4 : c0 = P9) (h5 : m = m') (h6 : l = l') : uC H k id off n c0 m sz elem l = uC H' k o5 Et n' P9 m' sz elem l' := by rw [h0, h1, h2, h3, h4, h5, h6]
@[congr] theorem atZ {op : Wc} {t : TypeId} {a a' b b' : AV} {k : AV -> Prop} (h : a = a') (h' : b = b') : dM P op t a b k = dM P op t a' b' k := by rw [h, h']
@[congr] theorem atY {s' : AS} {op : Wc} {t : TypeId} {y : Tj} {a a' : AV} {k : AV -> Prop} (hs : s = s') (h : a = a') : iR P s op t y a k = iR P s' op t y a' k := by rw [hs, h]
@[congr] theorem at2 {a b : AV} {k : AV -> Prop} (h : a = b) : mU P a k = mU P b k := by rw [h]
@[congr] theorem atX {t : TypeId} {ok : Bool} {a b : AV} {k : AV -> Prop} (h : a = b) : BP P t ok a k = BP P t ok b k := by rw [h]
@[congr] theorem at1 {t : TypeId} {a b : AV} {k : AV -> Prop} (h : a = b) : sQ P s t a k = sQ P s t b k := by rw [h]
@[congr] theorem at5 {t : TypeId} {a b : AV} {x y z : Option Int} {k : AV -> Prop} (h : a = b) : sR P t a x y z k = sR P t b x y z k := by rw [h]
@[congr] theorem at3 {o : Tx} {k : AV -> Prop} (h : s = s') : lT P s o k = lT P s' o k := by rw [h]
@[congr] theorem aua {o : Tx} {k : AV -> Prop} (h : s = s') : AQ lv P s o k = AQ lv P s' o k := by rw [h]
@[congr] theorem at6 {o : Tx} {next : AS -> Prop} {bad : AV -> AS -> Prop} (h : s = s') : mV lv P s o next bad = mV lv P s' o next bad := by rw [h]
@[congr] theorem at4 {all : Array Tx} {l : List Tx} {next : AS -> Prop} {bad : AV -> AS -> Prop} (h : s = s') : iF lv P all l s next bad = iF lv P all l s' next bad := by rw [h]
@[congr] theorem au3 {all : Array Tx} {l l' : List Tx} {K : AS -> Prop} (hl : l = l') (h : s = s') : nA lv P all l s K = nA lv P all l' s' K := by rw [hl, h]
@[congr] theorem aul {r : Option Nat} {nt : Nat} {c : Ub} {Φ : an -> AS -> Prop} (h : s = s') : aQ lv P r nt c s Φ = aQ lv P r nt c s' Φ := by rw [h]
@[congr] theorem ava {K : AS -> Prop} {Φ : an -> AS -> Prop} {e e' : an} (he : e = e') (h : s = s') : an.then K Φ e s = an.then K Φ e' s' := by rw [he, h]
@[congr] theorem auY {i : Nat} {Φ : an -> AS -> Prop} {e e' : an} (he : e = e') (h : s = s') : an.inBlock i Φ e s = an.inBlock i Φ e' s' := by rw [he, h]
end
theorem afh:type_of% @iF.eq_1:=by intros;rw[iF.eq_1]
theorem afg:type_of% @iF.eq_2:=by intros;rw[iF.eq_2]
theorem afn:type_of% @mV.eq_1:=by intros;rw[mV.eq_1]
theorem aff:type_of% @lT.eq_1:=by intros;rw[lT.eq_1]
theorem apQ:type_of% @nA.eq_1:=by intros;rw[nA.eq_1]
theorem apP:type_of% @nA.eq_2:=by intros;rw[nA.eq_2]
theorem afi:type_of% @AQ.eq_1:=by intros;rw[AQ.eq_1]
theorem aqB:type_of% @ik.eq_1:=by intros;rw[ik.eq_1]
theorem aqA:type_of% @ik.eq_2:=by intros;rw[ik.eq_2]
theorem aqD:type_of% @jc.eq_1:=by intros;rw[jc.eq_1]
theorem aiv:type_of% @ft.eq_1:=by intros;rw[ft.eq_1]
theorem aiu:type_of% @ft.eq_2:=by intros;rw[ft.eq_2]
theorem aeU:type_of% @BP.eq_1:=by intros;rw[BP.eq_1]
theorem apL:type_of% @iO.eq_1:=by intros;rw[iO.eq_1]
theorem aqC:jc []=.aO []:=by rw[jc];simp
theorem acW(a b:AV)(l:List AV):jc (a::b::l)=.aO (a::b::l):=by rw[jc];simp
theorem asw(l:List AV):(AV.rp l).sure=true:=by simp[AV.sure]
theorem asu(i j:Nat):(AV.op i j).sure=true:=by simp[AV.sure]
theorem asq(f:TS)(x y:List AV):(AV.fn (.func f) x y).sure=true:=by simp[AV.sure]
theorem asr(t:TypeId)(x:AV):(AV.db t x).sure=true:=by simp[AV.sure]
theorem afb(P:SI)(k:AV->Prop)(name:String)(t:TypeId)(av:AV):mU P (.fn (.method name) [.db t av] []) k=(I_ P t name/\k (.fn (.method name) [.db t av] [])):=by rw[mU]
theorem afd(P:SI)(k:AV->Prop)(l:List AV):mU P (.rp l) k=k (.rp l):=by simp[mU,AV.sure]
theorem afc(P:SI)(k:AV->Prop)(i j:Nat):mU P (.op i j) k=k (.op i j):=by simp[mU,AV.sure]
theorem ae9(P:SI)(k:AV->Prop)(f:TS)(x y:List AV):mU P (.fn (.func f) x y) k=k (.fn (.func f) x y):=by simp[mU,AV.sure]
theorem afe(P:SI)(k:AV->Prop)(f)(x y:List AV):mU P (.fn (.yield f) x y) k=k (.fn (.yield f) x y):=by simp[mU,AV.sure]
theorem afa(P:SI)(k:AV->Prop)(t:TypeId)(x:AV):mU P (.db t x) k=k (.db t x):=by simp[mU,AV.sure]
theorem ae4(P:SI)(s:AS)(op:Wc)(xt:TypeId)(t:Nat)(a:AV)(k:AV->Prop):iR P s op xt (.tmp t) a k=ao (s.ev (.tmp t)) λb=>dM P op xt a b k:=by rw[iR]<;>(intros;simp_all)
theorem aeZ(P:SI)(s:AS)(op:Wc)(xt:TypeId)(j:T8)(m:Int)(a:AV)(k:AV->Prop):iR P s op xt (.const (.int j m)) a k=ao (s.ev (.const (.int j m))) λb=>dM P op xt a b k:=by rw[iR]<;>(intros;simp_all)
theorem aeW(P:SI)(s:AS)(op:Wc)(xt:TypeId)(c:Bool)(a:AV)(k:AV->Prop):iR P s op xt (.const (.bool c)) a k=ao (s.ev (.const (.bool c))) λb=>dM P op xt a b k:=by rw[iR]<;>(intros;simp_all)
theorem ae3(P:SI)(s:AS)(op:Wc)(xt:TypeId)(c:ByteArray)(a:AV)(k:AV->Prop):iR P s op xt (.const (.string c)) a k=ao (s.ev (.const (.string c))) λb=>dM P op xt a b k:=by rw[iR]<;>(intros;simp_all)
theorem aeV(P:SI)(s:AS)(op:Wc)(xt:TypeId)(c:Array SQ)(a:AV)(k:AV->Prop):iR P s op xt (.const (.agg c)) a k=ao (s.ev (.const (.agg c))) λb=>dM P op xt a b k:=by rw[iR]<;>(intros;simp_all)
theorem ae2(P:SI)(s:AS)(op:Wc)(xt:TypeId)(c:Option Va)(a:AV)(k:AV->Prop):iR P s op xt (.const (.pointer c)) a k=ao (s.ev (.const (.pointer c))) λb=>dM P op xt a b k:=by rw[iR]<;>(intros;simp_all)
theorem ae0(P:SI)(s:AS)(op:Wc)(xt:TypeId)(c:Option Va)(m n:Nat)(a:AV)(k:AV->Prop):iR P s op xt (.const (.slice c m n)) a k=ao (s.ev (.const (.slice c m n))) λb=>dM P op xt a b k:=by rw[iR]<;>(intros;simp_all)
theorem ae1(P:SI)(s:AS)(op:Wc)(xt:TypeId)(k:AV->Prop):iR P s op xt (.const .nilIface) (.val .nilIface) k=(mM P xt=some true/\(op=.eql\/op=.neq)/\k (.val (.bool (if op== .neq then false else true)))):=by rw[iR]
theorem aeY(P:SI)(s:AS)(op:Wc)(xt t:TypeId)(x:AV)(k:AV->Prop):iR P s op xt (.const .nilIface) (.db t x) k=(mM P xt=some true/\(op=.eql\/op=.neq)/\k (.val (.bool (if op== .neq then true else false)))):=by rw[iR]
theorem aic:((XM== .neq)=false):=rfl
theorem aoC:((Wz== .neq)=true):=rfl
theorem aj9(z:SQ):AV.found z true none=.aO [AV.of z,.val (.bool false)]:=by rw[AV.found];simp
theorem aka(z:SQ)(x:Nat×SQ):AV.found z true (some x)=.aO [AV.of x.2,.val (.bool true)]:=by rw[AV.found];simp
attribute [seval] aj9 aka
attribute [seval] ae4 aeZ aeW ae3 aeV ae2 ae0 ae1 aeY aic aoC
attribute [seval] aqp aqq aky akx akw akv Bl ain aie aii aig aim aij aik aif aih an4 an5 apN apM asQ asS asO asP asR ag4 ag6 ag0 ag5 ag1 ag3 aj8 aj6 aj7 aqG af3 af5 agc af1 af7 af6 aga af9 af8 afS afo afB afx afq Pu afw afv afs afr true_and and_true Option.bind_some List.getElem?_toArray List.getElem?_cons_succ List.getElem?_cons_zero Bool.not_true Bool.not_false true_implies false_implies if_true if_false agj arz arA arB aqR aqQ List.drop_succ_cons List.drop_zero List.take_succ_cons List.take_zero List.cons_append List.nil_append List.length_cons List.length_nil Int.toNat_natCast decide_eq_true_eq decide_eq_false_iff_not Bool.not_eq_true' Bool.not_eq_false' Bool.not_eq_eq_eq_not agi ahk ahm aqN aqP aqO ahl Option.map_some wn afU wq afY afT afX Nat.zero_add List.set_cons_zero List.set_cons_succ apn apj apy apv apr aps apo api apx apu apw apt apl apm apq List.forall_mem_cons List.not_mem_nil false_imp_iff implies_true ant anp anF anC anw anx anu anE anB anD anA anr ans anv aoR aoO aoU aoP aoQ aoT aoS atN atT atO atW atQ atS atV atU List.map_cons List.map_nil ais air ajJ ajI apG apF atL arP arO afQ afR aqE ae8 ae7 ne_eq not_true_eq_false not_false_eq_true gt_iff_lt Nat.lt_irrefl or_self or_false false_or Nat.le_refl Nat.mul_one Nat.one_mul Nat.zero_mul Nat.mul_zero bne_iff_ne bne_eq_false_iff_eq beq_iff_eq afh afg afn aff apQ apP afi aqB aqA aqD aqC acW aiv aiu aeU apL acW asw asu asq asr afb afd afc ae9 afe afa
theorem aqM{base Vi Vn T:List (Nat×AV)}{H:List aa}(hk:sW T (Vi++base) Vn)(hv:∀p∈Vn,∃b,look T p.1=some b/\Wk b p.2):rF base Vi Vn H ⟨T,H⟩:=⟨hk,hv,[],by simp,.inl rfl⟩
theorem acY{base Vi Vn T:List (Nat×AV)}{H G:List aa}(hk:sW T (Vi++base) Vn)(hv:∀p∈Vn,∃b,look T p.1=some b/\Wk b p.2)(aq:bF H)(hlt:∀p∈Vn,Lt H.length p.2):rF base Vi Vn H ⟨T,H++G⟩:=⟨hk,hv,G,rfl,.inr ⟨aq,hlt⟩⟩
theorem Bu{base Vi Vn T:List (Nat×AV)}{H L G:List aa}(hk:sW T (Vi++base) Vn)(hv:∀p∈Vn,∃b,look T p.1=some b/\Wk b p.2)(aq:bF (H++L))(hlt:∀p∈Vn,Lt (H++L).length p.2):rF base Vi Vn (H++L) ⟨T,H++(L++G)⟩:=⟨hk,hv,G,(SC ..).symm,.inr ⟨aq,hlt⟩⟩
def pick (ks:List Nat)(T:List (Nat×AV)):List (Nat×AV):=ks.filterMap λk=>(look T k).map λa=>(k,a)
theorem Jm{lv:Bool}{P:SI}{r:Option Nat}{nt:Nat}{c:Ub}{T:List (Nat×AV)}{H:List aa}{Φ:an->AS->Prop}(ks:List Nat)(h:aQ lv P r nt c ⟨pick ks T,H⟩ Φ):aQ lv P r nt c ⟨T,H⟩ Φ:=by
 refine iG (s':=⟨pick ks T,H⟩) ⟨λt a e=> ?_,rfl⟩ h;obtain⟨k,_,e'⟩:=V_.1 (o_ e);obtain⟨b,hb,e'⟩:=Ts.1 e';cases e';exact⟨a,hb,Wk.refl a⟩
theorem Nr{ops:Array Tx}(mF:∀(i:Nat) o,ops[i]?=some o->∀j∈cU o,j<ops.size)(aaZ:∀X:List Nat,(∃i,i<ops.size/\i∉X)->∃i o,ops[i]?=some o/\i∉X/\∀j∈cU o,j∈X):∀(fuel t:Nat)(L:Array Bool)(X:List Nat),Pp ops L X->(S0 ops.size).countP (λi=> !X.contains i)<=fuel->mv ops X (UM .any ops fuel t L [])
 |0,t,L,X,hr,hc=>by
  simp only[UM,XZ];refine .nil X λi hi=> ?_;have:(S0 ops.size).countP (λi=> !X.contains i)=0:=by omega
  have:=List.countP_eq_zero.1 this i (by simpa using hi);simpa using this
 |fuel+1,t,L,X,hr,hc=>by
  have vE:∀i,i∈((S0 ops.size).filter λi=> !L.getD i true&&((ops[i]?).map (·.after.all λe=> !Region.binds .any e||L.getD e.on false)).getD false)<->∃o,ops[i]?=some o/\i∉X/\∀j∈cU o,j∈X:=by
   intro i;simp only[Uy,TW,Tg,T4];constructor
   ·rintro⟨hi,h1,h2⟩
    have ho:=SJ hi;refine⟨ops[i],ho,λhx=> ?_,λj hj=> ?_⟩
    ·have:=(hr.mem i hi).2 hx;rw[SH,this]at h1;cases h1
    ·obtain⟨e,he,hb,rfl⟩:=HN.1 hj;rw[ho]at h2;simp only[UU,S7,UQ]at h2;have:=h2 e he;rw[hb]at this;simp only[ao',ZD]at this;have hlt:e.on<ops.size:=mF i _ ho _ hj;refine(hr.mem _ hlt).1 ?_;rw[SH]at this;cases hx:L[e.on]?with
     |none=>rw[hx]at this;cases this
     |some b=>rw[hx]at this;cases b;cases this;rfl
   ·rintro⟨o,ho,h1,h2⟩
    have hi:i<ops.size:=(SR.1 ho).1;refine⟨hi,?_,?_⟩
    ·rw[SH,SJ (by rw[hr.size];exact hi)];simp only[S7];cases hb:L[i]'(by rw[hr.size];exact hi)with
     |false=>rfl
     |true=>exact absurd ((hr.mem i hi).1 (by rw[SJ (by rw[hr.size];exact hi),hb])) h1
    ·rw[ho];simp only[UU,S7,UQ];intro e he;cases hb:Yr .any e with
     |false=>rfl
     |true=>
      have hj:=HN.2 ⟨e,he,hb,rfl⟩;have hlt:e.on<ops.size:=mF i _ ho _ hj;have:=(hr.mem _ hlt).2 (h2 _ hj);simp[SH,this]
  simp only[UM];generalize DI:((S0 ops.size).filter λi=> !L.getD i true&&((ops[i]?).map (·.after.all λe=> !Region.binds .any e||L.getD e.on false)).getD false)=rs at vE;cases hi:rs[t % rs.length]?with
  |none=>
   have L6:rs=[]:=by
    cases rs with
    |nil=>rfl
    |cons x xs=>
     have hlt:t % (x::xs).length<(x::xs).length:=avi _ (by simp);rw[List.getElem?_eq_none_iff]at hi;omega
   simp only[XZ];refine .nil X λi hlt=> ?_;apply Tv;intro hx;obtain⟨i',o,h1,h2,h3⟩:=aaZ X ⟨i,hlt,hx⟩;have:i'∈rs:=(vE i').2 ⟨o,h1,h2,h3⟩;rw[L6]at this;cases this
  |some i=>
   simp only[];obtain⟨o,ho,h1,h2⟩:=(vE i).1 (S8 hi);have hlt:i<ops.size:=(SR.1 ho).1;rw[linearise_go_acc,List.reverse_singleton,Y5];refine .cons o ho h1 h2 (Nr mF aaZ fuel _ _ (i::X) ⟨by simp[hr.size],λk hk=> ?_⟩ ?_)
   ·by_cases r_:k=i
    ·subst r_;simp[Tb (by rw[hr.size];exact hlt)]
    ·rw[SW (Ne.symm r_),hr.mem k hk];simp[r_]
   ·have fL:i∈(S0 ops.size):=(by simpa using hlt);have:(S0 ops.size).countP (λk=> !(i::X).contains k)<(S0 ops.size).countP (λk=> !X.contains k):=by
     exact Qm fL (λk hk=>by simp only[T4,Ut,decide_eq_false_iff_not]at hk⊢;exactλh=>hk (Td _ h)) (by simpa using h1) (by simp)
    omega
theorem Ku{X:List Nat}:∀{l:List Nat},(∃i∈l,i∉X)->∃A i B,l=A++i::B/\i∉X/\∀a∈A,a∈X
 |[],⟨_,h,_⟩=>by cases h
 |x::l,⟨i,h,hn⟩=>by
  by_cases hx:x∈X
  ·have hi:i∈l:=(SK.1 h).resolve_left λe=>hn (e▸hx);obtain⟨A,j,B,h1,h2,h3⟩:=Ku ⟨i,hi,hn⟩;exact⟨x::A,j,B,by rw[h1];rfl,h2,λa ha=>(SK.1 ha).elim (λe=>e▸hx) (h3 a)⟩
  ·exact⟨[],x,l,rfl,hx,by simp⟩
structure B1 (k:AV->List aa->Prop):Type where
 n:Nat
def Fh (lv:Bool)(P:SI)(f:AV)(H:List aa)(aF:List AV)(k:AV->List aa->Prop)(_t:B1 k):Prop:=∃av H',je lv P f H aF (λb uG=>b=av/\uG=H') (λ_ _=>False)/\k av H'
def I3 (lv:Bool)(P:SI)(f:AV)(name:String)(H:List aa)(aF:List AV)(k:AV->List aa->Prop)(_t:B1 k):Prop:=∃av H',Fs lv P f name H aF (λb uG=>b=av/\uG=H') (λ_ _=>False)/\k av H'
theorem kz{lv:Bool}{P:SI}{f:AV}{H:List aa}{aF:List AV}{k:AV->List aa->Prop}{t:B1 k}(av:AV)(H':List aa)(h:je lv P f H aF (λb uG=>b=av/\uG=H') (λ_ _=>False))(hk:k av H'):Fh lv P f H aF k t:=⟨av,H',h,hk⟩
def ky (x:Option aa)(X Y:Prop)(_t:mu X Y):Prop:=match x with
 |some (.own _ _ _)=>X
 |_=>Y
def rz (G H:List aa)(k:AV->List aa->Prop)(n m sz:Nat)(elem:TypeId)(l l':List AV):End->Prop
 |.exact=>ky G[H.length]? (0<m/\k (.bz H.length 0 (n+m) 0) (H++[.own sz (l++l') elem])) (k (.sl (n+m) (l++l') (.opn H.length)) (H++[.tail (n+m) sz elem])) ⟨0⟩
 |.opn i=>(match H[i]?with
   |some (.tail n' eG gX)=>n'=n/\eG=sz/\gX=elem
   |_=>False)/\(∀a∈l',a.leaf=true)/\k (.sl (n+m) (l++l') (.opn i)) (H.set i (.tail (n+m) sz elem))
 |.shut=>m=0/\k (.sl n l .shut) H
section
variable (lv:Bool)(P:SI)
def kv (G:List aa)(s:AS)(o:Tx)(k:AV->List aa->Prop):Prop:=match o.op with
 |.box t x=>ao (s.ev x) λa=>ao a.parts λl=>k (.op s.H.length 0) (s.H++[.cells l t])
 |.alloc t=>ao (eU P t) λz=>k (.op s.H.length 0) (s.H++[.cells (mr z) t])
 |.store t x y=>ao (s.ev x) λp=>ao (s.ev y) λa=>ao a.parts λlp=>p.qw λid off=>match s.H[id]?with
  |some (.cells l el)=>(ao (Ty P t) λx=>lp.length=x.1)/\off+lp.length<=l.length/\(∀a∈lp,a.leaf=true)/\k (.val undef) (s.H.set id (.cells (iO l off lp) el))
  |some (.own p l el)=>(ao (Ty P t) λx=>lp.length=x.1)/\off+lp.length<=l.length/\(∀a∈lp,a.leaf=true)/\k (.val undef) (s.H.set id (.own p (iO l off lp) el))
  |_=>False
 |.call c=>match c.callee with
  |.builtin .append=>match c.args.toList,c.argTypes.toList with
   |[x,y],[t,t']=>ao (jC P t t') λ(elem,sz,_)=>ao (s.ev x) λa=>ao (s.ev y) λb=>a.qx (λid off n c0=>ao (s.src sz b) λ(m,l')=>uC s.H k id off n c0 m sz elem l') λn l e=>ao (s.src sz b) λ(m,l')=>l.length=n* sz/\l'.length=m* sz/\n+m<=2^30/\rz G s.H k n m sz elem l l' e
   |_,_=>False
  |.value x=>ao (s.ev x) λf=>ao (ft s c.args.toList) λaF=>Fh lv P f s.H aF k ⟨0⟩
  |.invoke x name=>ao (s.ev x) λf=>ao (ft s c.args.toList) λaF=>I3 lv P f name s.H aF k ⟨0⟩
  |_=>False
 |.makeSlice t x y=>ao (B4 P t) λ(e,sz,z)=>ao (s.ev x) λa=>ao (s.ev y) λb=>a.asInt λ_ n=>b.asInt λ_ n'=>n'=n/\0<=n/\n<=2^30/\k (.bz s.H.length 0 n.toNat n.toNat) (s.H++[.cells (gG z (n.toNat* sz)) e])
 |.buildSlice t len parts=>ao (qu P t) λ(e,sz,z)=>len* sz<=2^24/\ao (kB s parts.toList) λmy=>ao (oL (iq.at (.elems sz)) (gG z (len* sz)) my) λl=>k (.bz s.H.length 0 len len) (s.H++[.cells l e])
 |_=>False
end
section
variable {lv:Bool}{P:SI}{r:Option Nat}{o:Tx}{s:AS}{k:AV->List aa->Prop}
theorem Step.drop{G:List aa}{av m_:AV}{bad:AV->AS->Prop}(h:Step lv P r o s (λs'=>s'=(⟨s.T,s.H++G⟩:AS).put o.dst av) bad)(hw:Wk av m_)(hl:∀(E:Env)(V:View)(a:Act),Conc E V s.H->cu E s.T a.tmps->Lt s.H.length m_):Step lv P r o s (λs'=>s'=(⟨s.T,s.H⟩:AS).put o.dst m_) bad:=λE V a N Q hc ht hd hf n1 n2=>by
 refine h E V a N Q hc ht hd hf (λE' V' a' s' q1 q2 q3 q4=> ?_) n2;subst q4;rw[fx]at q2;have fK:((⟨s.T,s.H++G⟩:AS).put o.dst av).I1 ((⟨s.T,s.H⟩:AS).put o.dst m_):=by
  refine⟨λt x e=> ?_,⟨G,by rw[fx,fx]⟩,by rw[fx];exact hc.aq⟩;rw[fx];have hold:look s.T t=some x->Lt s.H.length x:=λe=>by rw[<- hc.n];exact(ht t x e).2.lt
  cases dx:o.dst with
  |none=>
   rw[dx]at e;simp only[AS.put]at e⊢;exact⟨x,e,Wk.refl x,hold e⟩
  |some d=>
   rw[dx]at e;simp only[AS.put,look]at e⊢;by_cases hdt:d=t
   ·rw[if_pos hdt]at e⊢;cases e;exact⟨av,rfl,hw,hl E V a hc ht⟩
   ·rw[if_neg hdt]at e⊢;exact⟨x,e,Wk.refl x,hold e⟩
 have ai:At E' V' ((⟨s.T,s.H++G⟩:AS).put o.dst av) a' a'.tmps.size:=⟨by rw[fx];exact q2,q3,rfl⟩;have aV:=ai.cut fK;rw[fx]at aV;refine n1 _ V' a' _ ⟨ER (SP _) (by rw[q2.n];simp) q1.le hc.n,q1.size,q1.defers,q1.role,q1.deaf⟩ aV.bw aV.tok rfl
end
section
variable {lv:Bool}{P:SI}{r:Option Nat}{o:Tx}{s:AS}{G:List aa}{k:AV->List aa->Prop}
theorem ew{α:Type}{x:Option α}{a:α}{k:α->Prop}(h:x=some a)(hk:k a):ao x k:=by rw[h,ao];exact hk
theorem RO{x:Option aa}{X Y:Prop}{t:mu X Y}(h:ky x X Y t):((∃a b c,x=some (.own a b c))/\X)\/((∀a b c,x≠some (.own a b c))/\Y):=by
 unfold ky at h;split at h
 ·exact .inl ⟨⟨_,_,_,rfl⟩,h⟩
 ·rename_i hx;exact .inr ⟨λa b c e=>hx a b c e,h⟩
theorem akk{x:Option aa}{X Y:Prop}{t:mu X Y}{a:Nat}{b:List AV}{c:TypeId}(h:x=some (.own a b c))(hX:X):ky x X Y t:=by subst h;exact hX
theorem akn{x:Option aa}{X Y:Prop}{t:mu X Y}(h:∀a b c,x≠some (.own a b c))(hY:Y):ky x X Y t:=by
 unfold ky;split
 ·exact absurd rfl (h _ _ _)
 ·exact hY
theorem rz.ex{H:List aa}{n m sz:Nat}{elem:TypeId}{l l':List AV}{e:End}(h:rz G H k n m sz elem l l' e):∃av H',rz G H (λa h=>a=av/\h=H') n m sz elem l l' e/\k av H':=by
 cases e with
 |exact=>
  rcases RO (t:=⟨0⟩) h with⟨⟨a,b,c,e⟩,h0,h1⟩|⟨e,h1⟩
  ·exact⟨_,_,akk (t:=⟨0⟩) e ⟨h0,rfl,rfl⟩,h1⟩
  ·exact⟨_,_,akn (t:=⟨0⟩) e ⟨rfl,rfl⟩,h1⟩
 |shut=>exact⟨_,_,⟨h.1,rfl,rfl⟩,h.2⟩
 |opn i=>exact⟨_,_,⟨h.1,h.2.1,rfl,rfl⟩,h.2.2⟩
theorem uC.ex{H:List aa}{id off n c0 m sz:Nat}{elem:TypeId}{l':List AV}(h:uC H k id off n c0 m sz elem l'):∃av H',uC H (λa h=>a=av/\h=H') id off n c0 m sz elem l'/\k av H':=by
 obtain⟨h1,h2,h3,h4,h5,h6⟩:=h;split at h6
 ·rename_i hk;obtain⟨g1,g2,g3,g4⟩:=h6;refine⟨_,_,⟨h1,h2,h3,h4,h5,?_⟩,g4⟩;rw[hk];exact⟨g1,g2,g3,rfl,rfl⟩
 ·exact h6.elim
end
section
variable {lv:Bool}{P:SI}{r:Option Nat}{o:Tx}{s:AS}{next:AS->Prop}{bad:AV->AS->Prop}
theorem adN{t e:TypeId}{len sz:Nat}{z:SQ}{parts:Array (Nat×Tj)}{my:List (Nat×AV)}{l:List AV}(ho:o.op=.buildSlice t len parts)(ht:qu P t=some (e,sz,z))(aY:len* sz<=2^24)(hp:kB s parts.toList=some my)
  (hl:oL (iq.at (.elems sz)) (gG z (len* sz)) my=some l) (hn:next ((⟨s.T,s.H++[.cells l e]⟩:AS).put o.dst (.bz s.H.length 0 len len))):Step lv P r o s next bad:=by
 intro E V a N Q hc aE hd bB h1 _;unfold qu at ht;split at ht
 ·rename_i e' hu;obtain⟨i,hi,ht⟩:=Tf.1 ht;obtain⟨z',hz,ht⟩:=Ts.1 ht;cases ht;refine⟨bB,?_⟩;unfold execOp;rw[ho];dsimp only;refine az ?_;unfold Instr.buildSlice;refine ez hu ?_;dsimp only;refine kq hi ?_;rw[if_neg (by omega)];obtain⟨hlen,bt⟩:=F1 aE hp;obtain⟨eV,nX,vf⟩:=CF (JP (E:=E) z (len* i.size)) hlen bt hl;have fin:∀(rr:Nat),V.fresh rr->aR P (V.upd rr (.cells eV e)) (pure (W9 (.slice (some ⟨rr,0,none⟩) len len))) (m8 lv P r o a N Q) (λv V'=>Q (.panic [{v,recovered:=false}]) a V'):=λrr hf=>by
   have oZ:E.Le (E.add rr V.ab):=E.q_ rr (λb o v h=>by rw[<- hc.I];exact h);have bp:Conc (E.add rr V.ab) (V.upd rr (.cells eV e)) (s.H++[.cells l e]):=by
    refine hc.add hf _ ⟨⟨_,?_,vf.mono oZ⟩,λo=> ?_⟩ (λb e=> ?_)
    ·rw[Env.dQ];simp[View.upd]
    ·rw[Env.dQ];exact hf.2 o
    ·simp only[bP,Env.dQ,Tl]at e;exact e.symm
   have pL:ap (E.add rr V.ab) (.bz s.H.length 0 len len) (.slice (some ⟨rr,0,none⟩) len len):=by
    have:=ap.bz (E:=E.add rr V.ab) (id:=s.H.length) (off:=0) (n:=len) (cap:=len) (cap':=len) (by show _<E.n+1;rw[hc.n];omega) ⟨by omega,λ_=>rfl,λh=>absurd h (by omega)⟩;have e:(E.add rr V.ab).blk s.H.length=rr:=(by rw[<- hc.n];exact E.dQ rr _);rwa [e]at this
   exact au (h1 _ _ (a.put o.dst _) _ ⟨oZ,eo _ _ _,put_defers _ _ _,rfl,rfl⟩ (by rw[fx];exact bp) (cu.ii (s:=⟨s.T,s.H++[.cells l e]⟩) (aE.mono oZ) hd pL) hn)
  have e2:(λj=>some (j* i.size,i.size))=iq.at (.elems i.size):=rfl;rw[e2];by_cases h0:len* i.size=0
  ·rw[if_pos h0];refine az (au ?_);rw[h0]at nX⊢;rw[show WN 0=#[]from rfl]at nX⊢;simp only[List.map_toArray,List.map_nil,VN]at nX⊢;rw[nX];unfold newRow;exact az (az (az (pi λrr hf=>cM (au (au (au (fin rr hf)))))))
  ·rw[if_neg h0];refine az (az ?_);unfold typeInfo;refine az (ri (cM ?_));rw[hi];refine au ?_;rw[hz];refine au (az (au ?_));rw[VN,nX];unfold newRow;exact az (az (az (pi λrr hf=>cM (au (au (au (fin rr hf)))))))
 ·cases ht
end
section
variable {lv:Bool}{P:SI}{r:Option Nat}{o:Tx}{s:AS}{G:List aa}{k:AV->List aa->Prop}
theorem kv.ex(h:kv lv P G s o k):∃av H',kv lv P G s o (λa h=>a=av/\h=H')/\k av H':=by
 unfold kv at h⊢;generalize o.op=op at h⊢;cases op with
 |box t x=>
  obtain⟨a,h1,h⟩:=h.out;obtain⟨l,h2,h⟩:=h.out;exact⟨_,_,ew h1 (ew h2 ⟨rfl,rfl⟩),h⟩
 |alloc t=>
  obtain⟨z,h1,h⟩:=h.out;exact⟨_,_,ew h1 ⟨rfl,rfl⟩,h⟩
 |store t x y=>
  obtain⟨p,h1,hA⟩:=h.out;obtain⟨a,h2,hB⟩:=hA.out;obtain⟨lp,h3,hC⟩:=hB.out;obtain⟨id,off,e1,hD⟩:=Cp hC;subst e1;clear h hA hB hC;split at hD
  ·rename_i l el hk;refine⟨_,_,ew h1 (ew h2 (ew h3 ?_)),hD.2.2.2⟩;unfold AV.qw;dsimp only;rw[hk];exact⟨hD.1,hD.2.1,hD.2.2.1,rfl,rfl⟩
  ·rename_i p l el hk;refine⟨_,_,ew h1 (ew h2 (ew h3 ?_)),hD.2.2.2⟩;unfold AV.qw;dsimp only;rw[hk];exact⟨hD.1,hD.2.1,hD.2.2.1,rfl,rfl⟩
  ·exact hD.elim
 |call c=>
  dsimp only at h⊢;generalize c.callee=cl at h⊢;generalize c.args.toList=xs at h⊢;generalize c.argTypes.toList=ts at h⊢;cases cl with
  |builtin b=>
   cases b with
   |append=>
    dsimp only at h⊢;split at h
    ·obtain⟨⟨elem,sz,z⟩,h1,hA⟩:=h.out;obtain⟨a,h2,hB⟩:=hA.out;obtain⟨b,h3,hC⟩:=hB.out;rcases Jj hC with⟨id,off,n,c0,e1,hD⟩|⟨n,l,e,e1,hD⟩
     ·obtain⟨⟨m,l'⟩,h4,h5⟩:=hD.out;subst e1;obtain⟨av,H',g1,g2⟩:=h5.ex;refine⟨av,H',ew h1 (ew h2 (ew h3 ?_)),g2⟩;simp only[AV.qx];exact ew h4 g1
     ·obtain⟨⟨m,l'⟩,h4,h5,h6,h7,h8⟩:=hD.out;subst e1;obtain⟨av,H',g1,g2⟩:=h8.ex;refine⟨av,H',ew h1 (ew h2 (ew h3 ?_)),g2⟩;simp only[AV.qx];exact ew h4 ⟨h5,h6,h7,g1⟩
    ·exact h.elim
   |_=>exact h.elim
  |value x=>
   obtain⟨f,h1,hA⟩:=h.out;obtain⟨aF,h2,hB⟩:=hA.out;obtain⟨av,H',g1,g2⟩:=hB;exact⟨av,H',ew h1 (ew h2 ⟨av,H',g1,rfl,rfl⟩),g2⟩
  |invoke x name=>
   obtain⟨f,h1,hA⟩:=h.out;obtain⟨aF,h2,hB⟩:=hA.out;obtain⟨av,H',g1,g2⟩:=hB;exact⟨av,H',ew h1 (ew h2 ⟨av,H',g1,rfl,rfl⟩),g2⟩
 |makeSlice t x y=>
  obtain⟨⟨e,sz,z⟩,h1,hA⟩:=h.out;obtain⟨a,h2,hB⟩:=hA.out;obtain⟨b,h3,hC⟩:=hB.out;obtain⟨j,n,e1,hD⟩:=oG hC;obtain⟨j',n',e2,hE⟩:=oG hD;clear h hA hB hC hD;subst e1 e2;exact⟨_,_,ew h1 (ew h2 (ew h3 ⟨hE.1,hE.2.1,hE.2.2.1,rfl,rfl⟩)),hE.2.2.2⟩
 |buildSlice t len parts=>
  obtain⟨⟨e,sz,z⟩,h1,h2,hA⟩:=h.out;obtain⟨my,h3,hB⟩:=hA.out;obtain⟨l,h4,hC⟩:=hB.out;exact⟨_,_,ew h1 ⟨h2,ew h3 (ew h4 ⟨rfl,rfl⟩)⟩,hC⟩
 |_=>exact h.elim
theorem kv.step{av:AV}{H':List aa}{bad:AV->AS->Prop}(h:kv lv P G s o (λa h=>a=av/\h=H')):Step lv P r o s (λs'=>s'=(⟨s.T,H'⟩:AS).put o.dst av) bad:=by
 unfold kv at h;split at h
 ·rename_i t x ho;obtain⟨a,h1,h⟩:=h.out;obtain⟨l,h2,h⟩:=h.out;obtain⟨e1,e2⟩:=h;exact adM ho h1 h2 (by rw[e1,e2])
 ·rename_i t ho;obtain⟨z,h1,h⟩:=h.out;obtain⟨e1,e2⟩:=h;exact adJ ho h1 (by rw[e1,e2])
 ·rename_i t x y ho;obtain⟨p,h1,hA⟩:=h.out;obtain⟨a,h2,hB⟩:=hA.out;obtain⟨lp,h3,hC⟩:=hB.out;obtain⟨id,off,e1,hD⟩:=Cp hC;clear h hA hB hC;subst e1;split at hD
  ·rename_i l el hk;obtain⟨q1,q2,q3,q4,Oh⟩:=hD;obtain⟨⟨n,g⟩,q5,q6⟩:=q1.out;exact adR ho q5 h1 hk h2 h3 q6 q2 q3 (by rw[q4,Oh])
  ·rename_i p l el hk;obtain⟨q1,q2,q3,q4,Oh⟩:=hD;obtain⟨⟨n,g⟩,q5,q6⟩:=q1.out;exact adS ho q5 h1 hk h2 h3 q6 q2 q3 (by rw[q4,Oh])
  ·exact hD.elim
 ·rename_i c ho;split at h
  ·rename_i ba;split at h
   ·rename_i x y t t' ha ht;obtain⟨⟨elem,sz,z⟩,h1,hA⟩:=h.out;obtain⟨a,h2,hB⟩:=hA.out;obtain⟨b,h3,hC⟩:=hB.out;rcases Jj hC with⟨id,off,n,c0,e1,hD⟩|⟨n,l,e,e1,hD⟩
    ·clear h hA hB hC;subst e1;obtain⟨⟨m,l'⟩,h4,rfl,g2,g3,g4,g5,hE⟩:=hD.out;split at hE
     ·rename_i hk;obtain⟨rfl,rfl,g6,g7,g8⟩:=hE;exact adK ho ba (nG ha) (sN ht) h1 h2 g2 hk rfl h3 h4 g6 g3 g4 g5 (by rw[g7,g8])
     ·exact hE.elim
    ·clear h hA hB hC;subst e1;obtain⟨⟨m,l'⟩,h4,h5,h6,h7,h8⟩:=hD.out;cases e with
     |exact=>
      rcases RO (t:=⟨0⟩) h8 with⟨_,h0,e1,e2⟩|⟨_,e1,e2⟩
      ·exact adL ho ba (nG ha) (sN ht) h1 h2 h3 h4 h5 h6 h7 h0 (by rw[e1,e2])
      ·exact step_append ho ba (nG ha) (sN ht) h1 h2 h3 h4 h5 h6 h7 (by show (_:AS)=_;rw[<- e1,<- e2])
     |shut=>
      obtain⟨e0,e1,e2⟩:=h8;exact step_append ho ba (nG ha) (sN ht) h1 h2 h3 h4 h5 h6 h7 ⟨e0,by rw[<- e1,<- e2]⟩
     |opn i=>
      obtain⟨e0,e0',e1,e2⟩:=h8;exact step_append ho ba (nG ha) (sN ht) h1 h2 h3 h4 h5 h6 h7 ⟨e0,e0',by rw[<- e1,<- e2]⟩
   ·exact h.elim
  ·rename_i x ba;obtain⟨f,h1,hA⟩:=h.out;obtain⟨aF,h2,hB⟩:=hA.out;obtain⟨a0,H0,g1,g2,g3⟩:=hB;subst g2 g3;exact OL ho ba h1 h2 (g1.mono (λa H h=>by rw[h.1,h.2]) λ_ _ h=>h.elim)
  ·rename_i x name ba;obtain⟨f,h1,hA⟩:=h.out;obtain⟨aF,h2,hB⟩:=hA.out;obtain⟨a0,H0,g1,g2,g3⟩:=hB;subst g2 g3;exact adO ho ba h1 h2 (λE V cv vs hc hd pM=>(g1 E V cv vs hc hd pM).mono (λ_ _ x=>Nx.mono (λ_ _ y=>y.mono (λa H h=>by rw[h.1,h.2]) λ_ _ h=>h.elim) x) λ_ _ y=>y.mono (λa H h=>by rw[h.1,h.2]) λ_ _ h=>h.elim)
  ·exact h.elim
 ·rename_i t x y ho;obtain⟨⟨e,sz,z⟩,h1,hA⟩:=h.out;obtain⟨a,h2,hB⟩:=hA.out;obtain⟨b,h3,hC⟩:=hB.out;obtain⟨j,n,e1,hD⟩:=oG hC;obtain⟨j',n',e2,hE⟩:=oG hD;clear h hA hB hC hD;subst e1 e2;obtain⟨e3,h4,h5,h6,h7⟩:=hE;subst e3;obtain⟨m,rfl⟩:∃m:Nat,n'=m:=⟨n'.toNat,by omega⟩;exact adP ho h1 h2 h3 (by omega) (by rw[VI]at h6 h7;rw[h6,h7])
 ·rename_i t len parts ho;obtain⟨⟨e,sz,z⟩,h1,h2,hA⟩:=h.out;obtain⟨my,h3,hB⟩:=hA.out;obtain⟨l,h4,h5,h6⟩:=hB.out;exact adN ho h1 h2 h3 h4 (by rw[h5,h6])
 ·exact h.elim
theorem kv.congr{T T':List (Nat×AV)}{H:List aa}(h:∀x∈o.op.operands,AS.ev ⟨T,H⟩ x=AS.ev ⟨T',H⟩ x)(ha:kv lv P G ⟨T,H⟩ o k):kv lv P G ⟨T',H⟩ o k:=by
 unfold kv at ha⊢;generalize o.op=op at h ha⊢;cases op with
 |box t x=>dsimp only at ha⊢;rw[<- h x (by simp[Tu])];exact ha
 |alloc t=>exact ha
 |store t x y=>dsimp only at ha⊢;rw[<- h x (by simp[Tu]),<- h y (by simp[Tu])];exact ha
 |call c=>
  have cQ:∀x∈c.args.toList,AS.ev ⟨T,H⟩ x=AS.ev ⟨T',H⟩ x:=λx hx=>h x (by simp[Tu,VS];exact .inr (by simpa using hx));dsimp only at ha⊢;split at ha
  ·split at ha
   ·rename_i x y t t' hx ht;rw[hx]at cQ;rw[<- cQ x (by simp),<- cQ y (by simp)];exact ha
   ·exact ha.elim
  ·rename_i x ba;rw[<- h x (by simp[Tu,VS,ba]),<- CE _ cQ];exact ha
  ·rename_i x name ba;rw[<- h x (by simp[Tu,VS,ba]),<- CE _ cQ];exact ha
  ·exact ha.elim
 |makeSlice t x y=>dsimp only at ha⊢;rw[<- h x (by simp[Tu]),<- h y (by simp[Tu])];exact ha
 |buildSlice t len parts=>
  have e:kB ⟨T',H⟩ parts.toList=kB ⟨T,H⟩ parts.toList:=by
   have hp:∀p∈parts.toList,AS.ev ⟨T,H⟩ p.2=AS.ev ⟨T',H⟩ p.2:=λp hp=>h p.2 (by simp[Tu];exact⟨p.1,by simpa using hp⟩);clear ha;generalize parts.toList=l at hp;induction l with
   |nil=>rfl
   |cons p l ih=>simp only[kB,hp p TF,ih λq hq=>hp q (Td _ hq)]
  dsimp only at ha⊢;rw[e];exact ha
 |_=>exact ha.elim
end
def nQ (acc:List (Nat×List Nat))(j:Nat):List Nat:=((acc.find? (·.1==j)).map (·.2)).getD []
def gK (ops:Array Tx):List Nat->List (Nat×List Nat)->List (Nat×List Nat)
 |[],acc=>acc
 |i::l,acc=>match ops[i]?with
  |some o=>gK ops l ((i,(cU o++(cU o).flatMap (nQ acc)).eraseDups)::acc)
  |none=>gK ops l acc
def uB:List Nat->List (List Nat)
 |[]=>[[]]
 |x::l=>uB l++(uB l).map (x::·)
def xj (cl:List (Nat×List Nat))(es:List Nat)(i:Nat)(D:List Nat):Bool:=
 !D.contains i&&es.all λe=>(!(nQ cl i).contains e||D.contains e)&&(!D.contains e||(!(nQ cl e).contains i&&es.all λe'=> !(nQ cl e).contains e'||D.contains e'))
def ui (es:List Nat)(i:Nat)(D:List Nat):List Nat:=es.filter λe=>e==i||D.contains e
structure rD where
 i:Nat
 eff:Bool
 aft:List Nat
 NR:List (List Nat×List Nat)
 deriving DecidableEq
def entry (cl:List (Nat×List Nat))(es X:List Nat)(i:Nat):rD:=
 let cur:=es.filter λe=>X.contains e
 ⟨i,es.contains i,ui es i cur,((uB es).filter λD=>xj cl es i D&&D !=cur).map λD=>(D,ui es i D)⟩
def rf (cl:List (Nat×List Nat))(es:List Nat):List Nat->List Nat->List rD
 |_,[]=>[]
 |X,i::B=>entry cl es X i::rf cl es (i::X) B
def acJ (ops:Array Tx)(es ord:List Nat):List rD:=rf (gK ops ord []) es [] ord
def kL (ops:Array Tx):List Nat->List Nat->Bool
 |_,[]=>true
 |X,i::B=> !X.contains i&&(match ops[i]?with
  |some o=>(cU o).all X.contains
  |none=>false)&&kL ops (i::X) B
def rO (nt:Nat)(ops:Array Tx)(es ord:List Nat):Bool:=
 let cl:=gK ops ord [];decide (ord.length=ops.size)&&kL ops [] ord&&ord.all λi=>match ops[i]?with
  |some o=>o.dst.all (·<nt)&& !mL o.op&&o.guard.isNone&&
   (ord.all λj=>i==j||match o.dst,c9 ops j with
    |some d,some d'=>d !=d'
    |_,_=>true)&&
   (o.op.operands.toList.all λx=>match x with
    |.tmp t=>ord.all λj=>c9 ops j !=some t||(cU o).contains j||(nQ cl j).contains i
    |_=>true)
  |none=>false
theorem RS{acc:List (Nat×List Nat)}{j k:Nat}(h:k∈nQ acc j):∃l,(j,l)∈acc/\k∈l:=by
 unfold nQ at h;cases e:acc.find? (·.1==j)with
 |none=>rw[e]at h;simp at h
 |some x=>
  rw[e]at h;obtain⟨j',l⟩:=x;have h1:=List.mem_of_find?_eq_some e;have h2:=List.find?_some e;simp only[beq_iff_eq]at h2;subst h2;exact⟨l,h1,by simpa using h⟩
theorem JD{ops:Array Tx}:∀(ord:List Nat)(acc:List (Nat×List Nat)),(∀i l,(i,l)∈acc->∀j∈l,Reach ops i j)->∀i l,(i,l)∈gK ops ord acc->∀j∈l,Reach ops i j
 |[],acc,h=>h
 |x::ord,acc,h=>by
  unfold gK;split
  ·rename_i o ho;refine JD ord _ λi l hm j hj=> ?_;rcases SK.1 hm with e|hm
   ·cases e;rw[Zc,SS]at hj;rcases hj with hj|hj
    ·exact .J3 ho hj
    ·obtain⟨k,hk,hj⟩:=S5.1 hj;obtain⟨l',h1,h2⟩:=RS hj;exact .more ho hk (h _ _ h1 _ h2)
   ·exact h i l hm j hj
  ·exact JD ord acc h
theorem Ae{ops:Array Tx}{ord:List Nat}{i j:Nat}(h:j∈nQ (gK ops ord []) i):Reach ops i j:=by
 obtain⟨l,h1,h2⟩:=RS h;exact JD ord [] (by simp) i l h1 j h2
theorem F5(p:Nat->Bool):∀l:List Nat,l.filter p∈uB l
 |[]=>by simp[uB]
 |x::l=>by
  unfold uB;rw[SS];by_cases h:p x=true
  ·rw[WZ h];exact .inr (Tm.2 ⟨_,F5 p l,rfl⟩)
  ·rw[W1 h];exact .inl (F5 p l)
structure zO (nt:Nat)(ops:Array Tx)(ord:List Nat):Prop where
 full:∀i,i<ops.size->i∈ord
 lt:∀i∈ord,i<ops.size
 top:kL ops [] ord=true
 dst:∀(i:Nat) o d,ops[i]?=some o->o.dst=some d->d<nt
 wC:∀(i:Nat) o,ops[i]?=some o->mL o.op=false
 CP:∀(i:Nat) o,ops[i]?=some o->o.guard=none
 BJ:∀(i j d:Nat),c9 ops i=some d->c9 ops j=some d->i=j
 NQ:∀(i:Nat) o t j,ops[i]?=some o-> .tmp t∈o.op.operands->c9 ops j=some t->j∈cU o\/Reach ops j i
theorem EP{ops:Array Tx}:∀{ord X:List Nat},kL ops X ord=true->ord.Nodup/\(∀i∈ord,i∉X)/\∀i∈ord,i<ops.size
 |[],_,_=>⟨WQ,by simp,by simp⟩
 |i::B,X,h=>by
  simp only[kL,Tg,T4,Ut,decide_eq_false_iff_not]at h;obtain⟨⟨h1,h2⟩,h3⟩:=h;obtain⟨q1,q2,q3⟩:=EP h3;refine⟨VX.2 ⟨λhm=>q2 i hm (TF ..),q1⟩,λj hj=> ?_,λj hj=> ?_⟩
  ·rcases SK.1 hj with rfl|hj
   ·exact h1
   ·exactλhx=>q2 j hj (Td _ hx)
  ·rcases SK.1 hj with rfl|hj
   ·apply Tv;intro hn;rw[YA (by omega)]at h2;cases h2
   ·exact q3 j hj
theorem rO.out{nt:Nat}{ops:Array Tx}{es ord:List Nat}(h:rO nt ops es ord=true):zO nt ops ord:=by
 unfold rO at h;simp only[Tg,decide_eq_true_eq]at h;obtain⟨⟨hlen,me⟩,h⟩:=h;obtain⟨w7,_,hlt⟩:=EP me;have AK:∀i,i<ops.size->i∈ord:=λi hi=>by
  apply Tv;intro hn;have mb:(i::ord)⊆S0 ops.size:=λj hj=>by
   rcases SK.1 hj with rfl|hj
   ·simpa using hi
   ·simpa using hlt j hj
  have:=(VX.2 ⟨hn,w7⟩).length_le_of_subset mb;simp at this;omega
 have key:∀(i:Nat) o,ops[i]?=some o->o.dst.all (·<nt)=true/\mL o.op=false/\o.guard.isNone=true/\(∀j∈ord,(i==j||match o.dst,c9 ops j with
    |some d,some d'=>d !=d'
    |_,_=>true)=true)/\(∀x∈o.op.operands.toList,(match x with
    |.tmp t=>ord.all λj=>c9 ops j !=some t||(cU o).contains j||(nQ (gK ops ord []) j).contains i
    |_=>true)=true):=λi o ho=>by
  have hi:i<ops.size:=(SR.1 ho).1;have:=Tw.1 h i (AK i hi);rw[ho]at this;simp only[Tg,Tw,T4]at this;exact⟨this.1.1.1.1,this.1.1.1.2,this.1.1.2,this.1.2,this.2⟩
 have aam:∀j d,c9 ops j=some d->j<ops.size:=λj d e=>by
  apply Tv;intro hn;rw[c9,YA (by omega)]at e;cases e
 refine⟨AK,hlt,me,λi o d ho hd=> ?_,λi o ho=>(key i o ho).2.1,λi o ho=>by simpa using(key i o ho).2.2.1,λi j d hi hj=> ?_,λi o t j ho ht hj=> ?_⟩
 ·have:=(key i o ho).1;rw[hd]at this;simpa using this
 ·apply Tv;intro aG;obtain⟨o,ho,tL⟩:=Tf.1 hi;have:=(key i o ho).2.2.2.1 j (AK j (aam j d hj));rw[tL,hj]at this;simp[aG]at this
 ·have:=(key i o ho).2.2.2.2 (.tmp t) (by simpa using ht);simp only[Tw]at this;have:=this j (AK j (aam j t hj));rw[hj]at this;simp only[bne_self_eq_false,ZD,Xb,Ut,decide_eq_true_eq]at this;exact this.imp id Ae
section
variable (lv:Bool)(P:SI)(Hf:List Nat->List aa)
def BQ (T:List (Nat×AV))(o:Tx)(av:AV):List (List Nat×List Nat)->Prop
 |[]=>True
 |(D,_)::l=>(AQ lv P ⟨T,Hf D⟩ o λa=>a=av)/\BQ T o av l
def BE (T:List (Nat×AV))(o:Tx)(av:AV):List (List Nat×List Nat)->Prop
 |[]=>True
 |(D,D')::l=>(kv lv P (Hf D') ⟨T,Hf D⟩ o λa H'=>a=av/\H'=Hf D')/\BE T o av l
structure B0 (K:AS->Prop):Type where
 n:Nat
def gh (ops:Array Tx):List rD->AS->(K:AS->Prop)->B0 K->Prop
 |[],s,K,_=>K s
 |⟨i,false,_,l⟩::rest,s,K,t=>ao (ops[i]?) λo=>AQ lv P s o λav=>BQ lv P Hf s.T o av l/\gh ops rest (s.put o.dst av) K t
 |⟨i,true,D,l⟩::rest,s,K,t=>ao (ops[i]?) λo=>kv lv P (Hf D) s o λav H'=>H'=Hf D/\BE lv P Hf s.T o av l/\gh ops rest ((⟨s.T,H'⟩:AS).put o.dst av) K t
end
def TX (ops:Array Tx)(T0:List (Nat×AV))(f:Nat->AV):List Nat->List (Nat×AV)
 |[]=>T0
 |i::X=>match c9 ops i with
  |some d=>(d,f i)::TX ops T0 f X
  |none=>TX ops T0 f X
section
variable {ops:Array Tx}{T0:List (Nat×AV)}{f g:Nat->AV}
theorem Ca:∀{X:List Nat},(∀j∈X,f j=g j)->TX ops T0 f X=TX ops T0 g X
 |[],_=>rfl
 |i::X,h=>by
  simp only[TX,Ca (X:=X) λj hj=>h j (Td _ hj),h i (TF ..)]
theorem Cb(aba:∀(i j d:Nat),c9 ops i=some d->c9 ops j=some d->i=j):∀{X:List Nat}{j t:Nat},j∈X->c9 ops j=some t->look (TX ops T0 f X) t=some (f j)
 |i::X,j,t,hj,ht=>by
  by_cases kI:i=j
  ·subst kI;simp[TX,ht,look]
  ·have iI:j∈X:=(SK.1 hj).resolve_left (Ne.symm kI);have ih:=Cb aba (X:=X) iI ht;unfold TX;split
   ·rename_i d hd;have:d≠t:=λe=>kI (aba i j d hd (by rw[e];exact ht));simp only[look,if_neg this];exact ih
   ·exact ih
theorem xO:∀{X:List Nat}{t:Nat},(∀j∈X,c9 ops j≠some t)->look (TX ops T0 f X) t=look T0 t
 |[],_,_=>rfl
 |i::X,t,h=>by
  have ih:=xO (X:=X) (t:=t) λj hj=>h j (Td _ hj);unfold TX;split
  ·rename_i d hd;have:d≠t:=λe=>h i (TF ..) (by rw[hd,e]);simp only[look,if_neg this];exact ih
  ·exact ih
theorem xP{H:List aa}{X:List Nat}{i:Nat}{o:Tx}{av:AV}(ho:ops[i]?=some o)(hf:f i=av):(⟨TX ops T0 f X,H⟩:AS).put o.dst av=⟨TX ops T0 f (i::X),H⟩:=by
 have hd:c9 ops i=o.dst:=by simp[c9,ho]
 have e:TX ops T0 f (i::X)=match c9 ops i with
  |some d=>(d,f i)::TX ops T0 f X
  |none=>TX ops T0 f X:=rfl
 rw[e,hd];cases o.dst with
 |none=>rfl
 |some d=>simp[AS.put,hf]
def lg (ops:Array Tx)(X:List Nat):Prop:=∀i∈X,∀o,ops[i]?=some o->∀j∈cU o,j∈X
theorem lg.reach{X:List Nat}(hX:lg ops X){i j:Nat}(hi:i∈X)(h:Reach ops i j):j∈X:=Bt hX h λo ho k hk=>hX i hi o ho k hk
theorem lg.cons{X:List Nat}(hX:lg ops X){i:Nat}{o:Tx}(ho:ops[i]?=some o)(hd:∀j∈cU o,j∈X):lg ops (i::X):=λk hk o' bi j hj=>by
 rcases SK.1 hk with rfl|hk
 ·rw[ho]at bi;cases bi;exact Td _ (hd j hj)
 ·exact Td _ (hX k hk o' bi j hj)
theorem aeT{nt:Nat}{ord:List Nat}(aq:zO nt ops ord){X X':List Nat}{i:Nat}{o:Tx}(ho:ops[i]?=some o)(hX:lg ops X)(oQ:lg ops X')(hi:i∉X)(cG:i∉X')(hd:∀j∈cU o,j∈X)(cF:∀j∈cU o,j∈X'){t:Nat}(ht: .tmp t∈o.op.operands):
  look (TX ops T0 f X) t=look (TX ops T0 f X') t:=by
 by_cases hex:∃j,c9 ops j=some t
 ·obtain⟨j,hj⟩:=hex;rcases aq.NQ i o t j ho ht hj with h|h
  ·rw[Cb aq.BJ (hd j h) hj,Cb aq.BJ (cF j h) hj]
  ·rw[xO λj' iI e=>hi (hX.reach (aq.BJ j j' t hj e▸iI) h),xO λj' iI e=>cG (oQ.reach (aq.BJ j j' t hj e▸iI) h)]
 ·rw[xO λj _ e=>hex ⟨j,e⟩,xO λj _ e=>hex ⟨j,e⟩]
end
section
variable {lv:Bool}{P:SI}{r:Option Nat}{ops:Array Tx}{Hf:List Nat->List aa}{T0:List (Nat×AV)}{es ord:List Nat}{nt:Nat}
def done (es X:List Nat):List Nat:=es.filter λe=>X.contains e
theorem FY{X:List Nat}{i:Nat}:ui es i (done es X)=done es (i::X):=by
 unfold ui done;apply Ve;intro e he;by_cases h:e=i
 ·subst h;simp
 ·simp[Uy,he,h]
theorem JS{X:List Nat}{i:Nat}(hi:i∉es):done es (i::X)=done es X:=by
 unfold done;apply Ve;intro e he;have:e≠i:=λh=>hi (h▸he);simp[this]
theorem JU{X:List Nat}(hX:lg ops X){i:Nat}{o:Tx}(ho:ops[i]?=some o)(hi:i∉X)(hd:∀j∈cU o,j∈X):xj (gK ops ord []) es i (done es X)=true:=by
 have cK:∀e,e∈es->(e∈done es X<->e∈X):=λe he=>by simp[done,Uy,he]
 have hX2:=hX.cons ho hd;unfold xj;simp only[Tg,T4,Ut,decide_eq_false_iff_not,Tw,Xb,decide_eq_true_eq];refine⟨λh=>hi (by simpa[done]using(Uy.1 h).2),λe he=>⟨?_,?_⟩⟩
 ·by_cases h:e∈nQ (gK ops ord []) i
  ·right;rw[cK e he];exact Bt hX (Ae h) λo' bi k hk=>by rw[ho]at bi;cases bi;exact hd k hk
  ·exact .inl h
 ·by_cases h:e∈X
  ·right;refine⟨λhm=>hi (hX.reach h (Ae hm)),λe' kG=> ?_⟩;by_cases hm:e'∈nQ (gK ops ord []) e
   ·right;rw[cK e' kG];exact hX.reach h (Ae hm)
   ·exact .inl hm
  ·left;rw[cK e he];exact h
def OB (lv:Bool)(P:SI)(r:Option Nat)(ops:Array Tx)(Hf:List Nat->List aa)(T0:List (Nat×AV))(es:List Nat)(f:Nat->AV)(i:Nat)(o:Tx)(X:List Nat):Prop:=
 if i∈es then kv lv P (Hf (done es (i::X))) ⟨TX ops T0 f X,Hf (done es X)⟩ o (λa H'=>a=f i/\H'=Hf (done es (i::X)))
 else∃T,(∀t a,look T t=some a->look (TX ops T0 f X) t=some a)/\dF lv P r o ⟨T,Hf (done es X)⟩ (f i)
theorem BQ.mem{T:List (Nat×AV)}{o:Tx}{av:AV}:∀{l:List (List Nat×List Nat)},BQ lv P Hf T o av l->∀p∈l,AQ lv P ⟨T,Hf p.1⟩ o λa=>a=av
 |(D,D')::l,h,p,hp=>by
  rcases SK.1 hp with rfl|hp
  ·exact h.1
  ·exact BQ.mem h.2 p hp
theorem BE.mem{T:List (Nat×AV)}{o:Tx}{av:AV}:∀{l:List (List Nat×List Nat)},BE lv P Hf T o av l->∀p∈l,kv lv P (Hf p.2) ⟨T,Hf p.1⟩ o λa H'=>a=av/\H'=Hf p.2
 |(D,D')::l,h,p,hp=>by
  rcases SK.1 hp with rfl|hp
  ·exact h.1
  ·exact BE.mem h.2 p hp
def canon (T:List (Nat×AV)):List Tj->List (Nat×AV)
 |[]=>[]
 |.tmp t::l=>match look T t with
  |some a=>(t,a)::canon T l
  |none=>canon T l
 |_::l=>canon T l
theorem JB{T:List (Nat×AV)}:∀{l:List Tj}{t:Nat}{a:AV},look (canon T l) t=some a->look T t=some a
 |[],_,_,h=>by cases h
 |x::l,t,a,h=>by
  have ih:=@JB T l t a;cases x with
  |tmp t'=>
   simp only[canon]at h;split at h
   ·rename_i b hb;simp only[look]at h;split at h
    ·rename_i e;subst e;cases h;exact hb
    ·exact ih h
   ·exact ih h
  |_=>exact ih h
theorem Qf{T:List (Nat×AV)}:∀{l:List Tj}{t:Nat},.tmp t∈l->look (canon T l) t=look T t
 |x::l,t,h=>by
  by_cases hx:x=.tmp t
  ·subst hx;simp only[canon];split
   ·rename_i b hb;simp[look,hb]
   ·rename_i hb;rw[hb];cases e:look (canon T l) t with
    |none=>rfl
    |some a=>have:=JB e;rw[hb]at this;cases this
  ·have hm: .tmp t∈l:=(SK.1 h).resolve_left (Ne.symm hx);have ih:=Qf (T:=T) hm;cases x with
   |tmp t'=>
    have aG:t'≠t:=λe=>hx (by rw[e]);simp only[canon];split
    ·simp only[look,if_neg aG];exact ih
    ·exact ih
   |_=>exact ih
theorem Qe{T:List (Nat×AV)}:∀{l:List Tj}{t:Nat}{a:AV},look (canon T l) t=some a-> .tmp t∈l
 |[],_,_,h=>by cases h
 |x::l,t,a,h=>by
  have ih:=@Qe T l t a;cases x with
  |tmp t'=>
   simp only[canon]at h;split at h
   ·simp only[look]at h;split at h
    ·rename_i e;subst e;exact TF ..
    ·exact Td _ (ih h)
   ·exact Td _ (ih h)
  |_=>exact Td _ (ih h)
theorem Qd{T:List (Nat×AV)}{H:List aa}{l:List Tj}{x:Tj}(h:x∈l):AS.ev ⟨T,H⟩ x=AS.ev ⟨canon T l,H⟩ x:=by
 cases x with
 |tmp t=>exact(Qf h).symm
 |_=>rfl
theorem Cv(aq:zO nt ops ord){K:AS->Prop}{tk:B0 K}:∀(B X:List Nat)(acc:Nat->AV),kL ops X B=true->lg ops X->gh lv P Hf ops (rf (gK ops ord []) es X B) ⟨TX ops T0 acc X,Hf (done es X)⟩ K tk->
  ∃f,(∀j∈X,f j=acc j)/\(∀i∈B,∀o,ops[i]?=some o->∀X',lg ops X'->i∉X'->(∀j∈cU o,j∈X')->OB lv P r ops Hf T0 es f i o X')/\K ⟨TX ops T0 f (B.reverse++X),Hf (done es (B.reverse++X))⟩
 |[],X,acc,_,_,h=>⟨acc,λ_ _=>rfl,by simp,by simpa[rf,gh]using h⟩
 |i::B,X,acc,me,hX,h=>by
  have auX:=me;simp only[kL,Tg,T4,Ut,decide_eq_false_iff_not]at me;obtain⟨⟨hi,h2⟩,h3⟩:=me;cases ho:ops[i]?with
  |none=>rw[ho]at h2;cases h2
  |some o=>
  rw[ho]at h2;have hd:∀j∈cU o,j∈X:=λj hj=>by have:=Tw.1 h2 j hj;simpa using this
  have oQ:=hX.cons ho hd;have auJ:xj (gK ops ord []) es i (done es X)=true:=JU hX ho hi hd;have NR:∀D,D∈uB es->xj (gK ops ord []) es i D=true->D≠done es X->(D,ui es i D)∈((uB es).filter λD=>xj (gK ops ord []) es i D&&D !=done es X).map λD=>(D,ui es i D):=λD h1 h2 h3=>Tm.2 ⟨D,Uy.2 ⟨h1,by simp[h2,h3]⟩,rfl⟩;have Pv:∀av:AV,TX ops T0 acc X=TX ops T0 (λj=>if j=i then av else acc j) X:=λav=>Ca λj hj=>by
   have:j≠i:=λe=>hi (e▸hj);simp[this]
  have seen:∀(f:Nat->AV) X',(∀j∈X,f j=acc j)->lg ops X'->i∉X'->(∀j∈cU o,j∈X')->∀(H:List aa),∀x∈o.op.operands,AS.ev ⟨TX ops T0 acc X,H⟩ x=AS.ev ⟨TX ops T0 f X',H⟩ x:=λf X' hf hc hn cF H x hx=>by
   cases x with
   |tmp t=>
    show look _ t=look _ t;rw[<- Ca (f:=f) (g:=acc) hf];exact aeT aq ho hX hc hi hn hd cF hx
   |_=>rfl
  unfold rf at h;by_cases dD:i∈es
  ·have Ls:entry (gK ops ord []) es X i=⟨i,true,ui es i (done es X),((uB es).filter λD=>xj (gK ops ord []) es i D&&D !=done es X).map λD=>(D,ui es i D)⟩:=by
    unfold entry done;simp[dD]
   rw[Ls,gh,ho,ao]at h;obtain⟨av,H',g1,e1,g2,g3⟩:=h.ex;subst e1;rw[FY]at g1 g3;rw[Pv av,xP ho (by simp)]at g3;obtain⟨f,q1,q2,q3⟩:=Cv aq B (i::X) _ h3 oQ g3;have Lu:f i=av:=(by have:=q1 i (TF ..);simpa using this);have De:∀j∈X,f j=acc j:=λj hj=>by
    have:=q1 j (Td _ hj);have aG:j≠i:=λe=>hi (e▸hj);simpa[aG]using this
   refine⟨f,De,λk hk o' bi X' hc hn cF=> ?_,by simpa using q3⟩;rcases SK.1 hk with rfl|hk
   ·rw[ho]at bi;cases bi;unfold OB;rw[if_pos dD,Lu];refine kv.congr (T:=TX ops T0 acc X) (seen f X' De hc hn cF _) ?_;by_cases hD:done es X'=done es X
    ·rw[<- FY,hD,FY];exact g1
    ·have:=g2.mem _ (NR _ (F5 _ es) (JU hc ho hn cF) hD);rw[<- FY];exact this
   ·exact q2 k hk o' bi X' hc hn cF
  ·have Ls:entry (gK ops ord []) es X i=⟨i,false,ui es i (done es X),((uB es).filter λD=>xj (gK ops ord []) es i D&&D !=done es X).map λD=>(D,ui es i D)⟩:=by
    unfold entry done;simp[dD]
   rw[Ls,gh,ho,ao]at h;have h':=AQ.congr (T':=canon (TX ops T0 acc X) o.op.operands.toList) (λx hx=>Qd (by simpa using hx)) h;obtain⟨av,g1,g2,g3⟩:=h'.sound (r:=r);rw[Pv av,xP ho (by simp),<- JS (X:=X) dD]at g3;obtain⟨f,q1,q2,q3⟩:=Cv aq B (i::X) _ h3 oQ g3;have Lu:f i=av:=(by have:=q1 i (TF ..);simpa using this);have De:∀j∈X,f j=acc j:=λj hj=>by
    have:=q1 j (Td _ hj);have aG:j≠i:=λe=>hi (e▸hj);simpa[aG]using this
   refine⟨f,De,λk hk o' bi X' hc hn cF=> ?_,by simpa using q3⟩;rcases SK.1 hk with rfl|hk
   ·rw[ho]at bi;cases bi;unfold OB;rw[if_neg dD,Lu];refine⟨canon (TX ops T0 acc X) o.op.operands.toList,λt a e=> ?_,?_⟩
    ·have h1:=seen f X' De hc hn cF [] (.tmp t) (by simpa using Qe e);have h2:look (TX ops T0 acc X) t=look (TX ops T0 f X') t:=h1;rw[<- h2];exact JB e
    ·by_cases hD:done es X'=done es X
     ·rw[hD];exact g1
     ·have h1:=g2.mem _ (NR _ (F5 _ es) (JU hc ho hn cF) hD);have h2:=AQ.congr (T':=canon (TX ops T0 acc X) o.op.operands.toList) (λx hx=>Qd (by simpa using hx)) h1;obtain⟨m_,h3,rfl⟩:=h2.sound (r:=r);exact h3
   ·exact q2 k hk o' bi X' hc hn cF
theorem Fx{f:Nat->AV}(aq:zO nt ops ord){X X':List Nat}(h:∀i,i∈X<->i∈X')(t:Nat):look (TX ops T0 f X) t=look (TX ops T0 f X') t:=by
 by_cases hex:∃j∈X,c9 ops j=some t
 ·obtain⟨j,hj,hd⟩:=hex;rw[Cb aq.BJ hj hd,Cb aq.BJ ((h j).1 hj) hd]
 ·rw[xO λj hj e=>hex ⟨j,hj,e⟩,xO λj hj e=>hex ⟨j,(h j).2 hj,e⟩]
theorem FZ{X X':List Nat}(h:∀i,i∈X<->i∈X'):done es X=done es X':=by
 unfold done;apply Ve;intro e _;have:=h e;by_cases h1:e∈X
 ·have h2:=this.1 h1;simp[h1,h2]
 ·have h2:e∉X':=λx=>h1 (this.2 x);simp[h1,h2]
theorem ahQ{f:Nat->AV}(aq:zO nt ops ord)(ay:∀i∈ord,∀o,ops[i]?=some o->∀X',lg ops X'->i∉X'->(∀j∈cU o,j∈X')->OB lv P r ops Hf T0 es f i o X'){X l:List Nat}(hs:mv ops X l):
  (∀i∈X,i<ops.size)->lg ops X->∀(E:Env)(V:View)(a:Act)(Q:Ex->Act->View->Prop),At E V ⟨TX ops T0 f X,Hf (done es X)⟩ a nt->
   (∀E' V' a' X',Kept E E' V V' a a'->At E' V' ⟨TX ops T0 f X',Hf (done es X')⟩ a' nt->(∀i,i∈X'<->i<ops.size)->Q .normal a' V')->dq lv P r ops Q l a V:=by
 induction hs with
 |nil X h=>
  intro hX hc E V a Q ai hQ;exact hQ E V a X (Kept.refl E V a) ai λi=>⟨hX i,h i⟩
 |cons o ho hn hd l9 ih=>
  rename_i X i l;intro hX hc E V a Q ai hQ;have hi:i<ops.size:=(SR.1 ho).1;simp only[dq,ho];have oQ:∀k∈i::X,k<ops.size:=λk hk=>(SK.1 hk).elim (λe=>by rw[e];exact hi) (hX k);have bp:=hc.cons ho hd;have hw:Ti o (yielded ops a.tmps)=true:=by unfold Ti;rw[aq.CP i o ho]
  rw[if_pos hw];refine .inl ?_;have dx:∀d,o.dst=some d->d<a.tmps.size:=λd e=>by rw[ai.size];exact aq.dst i o d ho e
  have l8:=ay i (aq.full i hi) o ho X hc hn hd;unfold OB at l8;by_cases dD:i∈es
  ·rw[if_pos dD]at l8;have aP:=l8.step (r:=r) (bad:=λ_ _=>False);refine aP E V a _ Q ai.bw ai.tok dx (.inr (aq.wC i o ho)) (λE' V' a' s' hk cq ht e=> ?_) λ_ _ _ _ _ _ _ _ _ h=>h.elim;subst e;rw[xP ho rfl]at ht cq;exact ih oQ bp E' V' a' Q ⟨cq,ht,hk.size.trans ai.size⟩ λbT aU cw m9 aJ di eQ=>hQ bT aU cw m9 (hk.trans aJ) di eQ
  ·rw[if_neg dD]at l8;obtain⟨T,hT,hq⟩:=l8;refine hq E V a _ Q ai.bw (λt av e=>ai.tok t av (hT t av e)) (.inr (aq.wC i o ho)) λE' V' v hle cp fg cq hv=> ?_;have ht:cu E' ((⟨TX ops T0 f X,Hf (done es X)⟩:AS).put o.dst (f i)).T (a.put o.dst v).tmps:=cu.ii (s:=⟨TX ops T0 f X,Hf (done es X)⟩) (ai.tok.mono hle) dx hv;rw[xP ho rfl]at ht;refine ih oQ bp E' V' (a.put o.dst v) Q ⟨by rw[JS dD];exact cq,ht,(eo _ _ _).trans ai.size⟩ λbT aU cw m9 hk di eQ=>
    hQ bT aU cw m9 ⟨hle.trans hk.le,hk.size.trans (eo _ _ _),hk.defers.trans (put_defers _ _ _),hk.role.trans cp,hk.deaf.trans fg⟩ di eQ
theorem agm{s:AS}{id:Nat}{Φ:an->AS->Prop}(es ord:List Nat)(pl:List rD)(Hf:List Nat->List aa)(hm:P.follows .mixedOrders=true)(aq:rO nt ops es ord=true)(dz:acJ ops es ord=pl)(h0:s.H=Hf [])
  (h:gh lv P Hf ops pl s (Φ .normal) ⟨0⟩):aQ lv P r nt (.region id ops true) s Φ:=by
 intro E V a Q ai hQ;have aq:=rO.out aq;obtain⟨w7,_,hlt⟩:=EP aq.top;have de:s=⟨TX ops s.T (λ_=> .val undef) [],Hf (done es [])⟩:=by
  have:done es []=[]:=by simp[done]
  rw[this,<- h0];rfl
 subst dz;have h':gh lv P Hf ops (rf (gK ops ord []) es [] ord) ⟨TX ops s.T (λ_=> .val undef) [],Hf (done es [])⟩ (Φ .normal) ⟨0⟩:=by rw[<- de];exact h
 obtain⟨f,_,q2,q3⟩:=Cv (r:=r) aq ord [] _ aq.top (λi hi=>by cases hi) h';have AK:∀i,i∈ord<->i<ops.size:=λi=>⟨hlt i,aq.full i⟩;refine O6 λt=> ?_;rw[show VP (P.follows .mixedOrders) ops t=UM .any ops ops.size t (TP ops.size false) [] by unfold VP;rw[hm];simp[Zf]];have binds:∀(A B:List Nat)(X:List Nat),kL ops X (A++B)=true->True:=λ_ _ _ _=>trivial;have ready:∀(ord X:List Nat),kL ops X ord=true->∀A i B,ord=A++i::B->∃o,ops[i]?=some o/\∀j∈cU o,j∈A\/j∈X:=by
  intro ord;induction ord with
  |nil=>intro X _ A i B e;cases A<;>cases e
  |cons x l ih=>
   intro X me A i B e;simp only[kL,Tg,T4,Ut,decide_eq_false_iff_not]at me;obtain⟨⟨h1,h2⟩,h3⟩:=me;cases A with
   |nil=>
    have e1:x=i:=(by have:=congrArg List.head? e;simpa using this);rw[e1]at h2;cases ho:ops[i]?with
    |none=>rw[ho]at h2;cases h2
    |some o=>
     rw[ho]at h2;exact⟨o,rfl,λj hj=> .inr (by have:=Tw.1 h2 j hj;simpa using this)⟩
   |cons y A=>
    cases e;obtain⟨o,ho,hb⟩:=ih (x::X) h3 A i B rfl;refine⟨o,ho,λj hj=> ?_⟩;rcases hb j hj with h|h
    ·exact .inl (Td _ h)
    ·rcases SK.1 h with rfl|h
     ·exact .inl (TF ..)
     ·exact .inr h
 have hs:=Nr (ops:=ops) (λi o ho j hj=>by
   obtain⟨A,B,e⟩:=List.append_of_mem (aq.full i (SR.1 ho).1);obtain⟨o',bi,hb⟩:=ready ord [] aq.top A i B e;rw[ho]at bi;cases bi;rcases hb j hj with h|h
   ·exact hlt j (by rw[e];exact Th _ h)
   ·cases h)
  (λX ⟨i,hi,hn⟩=>by
   obtain⟨A,i',B,e,h1,h2⟩:=Ku (X:=X) ⟨i,aq.full i hi,hn⟩;obtain⟨o',bi,hb⟩:=ready ord [] aq.top A i' B e;refine⟨i',o',bi,h1,λj hj=> ?_⟩;rcases hb j hj with h|h
   ·exact h2 j h
   ·cases h)
  ops.size t (TP ops.size false) [] ⟨by simp,λi hi=>by simp[hi]⟩ (TV Y7 (by simp))
 have tJ:At E V ⟨TX ops s.T f [],Hf (done es [])⟩ a nt:=by
  have e:(⟨TX ops s.T f [],Hf (done es [])⟩:AS)=s:=de.symm;rw[e];exact ai
 refine ahQ (Hf:=Hf) (es:=es) aq q2 hs (by simp) (λi hi=>by cases hi) E V a Q tJ λE' V' a' X' hk aV eQ=> ?_;have fL:∀i,i∈X'<->i∈ord.reverse++[]:=λi=>by simp[eQ,AK]
 refine hQ .normal .normal E' V' a' _ hk ⟨?_,λt x e=> ?_,aV.size⟩ trivial q3
 ·rw[<- FZ fL];exact aV.bw
 ·rw[<- Fx aq fL]at e;exact aV.tok t x e
end
open Go.Proofs
theorem F.Pl:lj SA 77=(SM Go.Gg.xK.map):=by kernel_rfl
theorem F.Ps:eU SA 4=(SM (Xg Bool.false)):=by kernel_rfl
theorem F.Pt:eU SA 88=(SM (TA #[(Xg Bool.false),(Zz Option.none),(SF S6 (0)),(SF S6 (0)),(SF S6 (0)),(SF S6 (0)),(SF S6 (0)),(SF S6 (0)),(SF S6 (0)),(SF S6 (0)),(SF S6 (0)),(SF S6 (0)),(SF S6 (0)),(SF S6 (0)),(SF S6 (0)),(SF S6 (0)),(SF S6 (0)),(SF SD (0)),(SF SD (0)),(SF SD (0)),(SF SD (0)),(SF SD (0)),(SF SD (0)),(SF SD (0)),(SF SD (0)),(SF SD (0)),(SF SD (0)),(SF SD (0))])):=by kernel_rfl
theorem F.amR:mM SA 116=(SM Bool.false):=by kernel_rfl
theorem F.D4:mM SA 126=(SM Bool.true):=by kernel_rfl
theorem F.M6:mM SA 136=(SM Bool.false):=by kernel_rfl
theorem F.amS:mM SA 156=(SM Bool.false):=by kernel_rfl
theorem F.abk:mM SA 97=(SM Bool.false):=by kernel_rfl
theorem F.f31:SA.funcs[31]?=some Tryz.f31:=by kernel_rfl
theorem F.f71:SA.funcs[71]?=some Tryz.f71:=by kernel_rfl
theorem F.f77:SA.funcs[77]?=some XP:=by kernel_rfl
theorem F.f91:SA.funcs[91]?=some Tryz.f91:=by kernel_rfl
theorem F.f95:SA.funcs[95]?=some Tryz.f95:=by kernel_rfl
theorem F.f97:SA.funcs[97]?=some avk:=by kernel_rfl
theorem F.mixed:SA.follows .mixedOrders=true:=by kernel_rfl
inductive dN (lv:Bool)(P:SI)(r:Option Nat)(nt:Nat):Ub->(an->AS->Prop)->Ub->(an->AS->Prop)->Prop
 |base {c:Ub} {Φ:an->AS->Prop}:dN lv P r nt c Φ c Φ
 |seq {x y h:Ub} {Φ Ψ:an->AS->Prop} (i:dN lv P r nt x (an.then (λs=>aQ lv P r nt y s Φ) Φ) h Ψ):dN lv P r nt (.seq x y) Φ h Ψ
 |block {id:Nat} {x h:Ub} {Φ Ψ:an->AS->Prop} (i:dN lv P r nt x (an.inBlock id Φ) h Ψ):dN lv P r nt (.block id x) Φ h Ψ
section
variable {lv:Bool}{P:SI}{r:Option Nat}{s:AS}{nt id:Nat}{ops:Array Tx}{c h:Ub}{Φ Ψ:an->AS->Prop}
theorem bD{f:TS}{H:List aa}{args:List AV}{k kp:AV->List aa->Prop}{rs:List UT}(fn:YD)
  (h:bF H->(∀a∈args,Lt H.length a)->aQ lv P none nt c ⟨bk 0 args,H⟩ (uF P rs H.length k kp)) (hf:P.funcs[f]?=some fn:=by kernel_rfl) (hb:fn.body=some c:=by rfl) (hr:fn.results=rs.toArray:=by rfl) (hn:fn.ntmps=nt:=by rfl) (cQ:args.length<=nt:=by simp):bc lv P f H args k kp:=ajX hf hb hr hn cQ h
theorem dN.go(i:dN lv P r nt c Φ h Ψ):∀{s:AS},aQ lv P r nt h s Ψ->aQ lv P r nt c s Φ:=by
 induction i with
 |base=>exactλh=>h
 |seq _ ih=>exactλk=>gp (ih k)
 |block _ ih=>exactλk=>PJ (ih k)
theorem ah(h:iF lv P ops ops.toList s (Ψ .normal) (λpv s=>Ψ (.panic pv) s))(i:dN lv P r nt c Φ (.region id ops false) Ψ:=by repeat first|exact .base|apply dN.seq|apply dN.block)(hd:j9 nt ops=true:=by kernel_rfl):aQ lv P r nt c s Φ:=i.go (PQ hd h)
theorem auk{o:Tj}{x y:Ub}(h:ao (s.ev o) λa=>a.asBool λb=>(b=true->aQ lv P r nt x s Ψ)/\(b=false->aQ lv P r nt y s Ψ))(i:dN lv P r nt c Φ (.cond o x y) Ψ:=by repeat first|exact .base|apply dN.seq|apply dN.block):aQ lv P r nt c s Φ:=i.go (PK h)
theorem agw(h:Ψ .normal s)(i:dN lv P r nt c Φ .skip Ψ:=by repeat first|exact .base|apply dN.seq|apply dN.block):aQ lv P r nt c s Φ:=i.go (PT h)
theorem pC(h:Ψ .ret s)(i:dN lv P r nt c Φ .ret Ψ:=by repeat first|exact .base|apply dN.seq|apply dN.block):aQ lv P r nt c s Φ:=i.go (PR h)
theorem aum(h:Ψ (.exit id) s)(i:dN lv P r nt c Φ (.exit id) Ψ:=by repeat first|exact .base|apply dN.seq|apply dN.block):aQ lv P r nt c s Φ:=i.go (PL h)
theorem bU{x:Ub}(h:aQ lv P r nt x s (an.inBlock id Ψ))(i:dN lv P r nt c Φ (.block id x) Ψ:=by repeat first|exact .base|apply dN.seq|apply dN.block):aQ lv P r nt c s Φ:=i.go (PJ h)
theorem aj{p:Prop}(h:p)(i:dN lv P r nt c Φ (.region id ops false) Ψ:=by repeat first|exact .base|apply dN.seq|apply dN.block)(e:iF lv P ops ops.toList s (Ψ .normal) (λpv s=>Ψ (.panic pv) s)=p:=by conv=>lhs;simp only[seval])(hd:j9 nt ops=true:=by kernel_rfl):aQ lv P r nt c s Φ:=i.go (PQ hd (e.mpr h))
theorem aD{p:Prop}{o:Tj}{x y:Ub}(h:p)(i:dN lv P r nt c Φ (.cond o x y) Ψ:=by repeat first|exact .base|apply dN.seq|apply dN.block)(e:(ao (s.ev o) λa=>a.asBool λb=>(b=true->aQ lv P r nt x s Ψ)/\(b=false->aQ lv P r nt y s Ψ))=p:=by conv=>lhs;simp only[seval]):aQ lv P r nt c s Φ:=i.go (PK (e.mpr h))
theorem aK{p:Prop}(h:p)(i:dN lv P r nt c Φ .skip Ψ:=by repeat first|exact .base|apply dN.seq|apply dN.block)(e:Ψ .normal s=p:=by conv=>lhs;simp only[seval]):aQ lv P r nt c s Φ:=i.go (PT (e.mpr h))
theorem aZ{p:Prop}(h:p)(i:dN lv P r nt c Φ .ret Ψ:=by repeat first|exact .base|apply dN.seq|apply dN.block)(e:Ψ .ret s=p:=by conv=>lhs;simp only[seval]):aQ lv P r nt c s Φ:=i.go (PR (e.mpr h))
theorem bR{p:Prop}(h:p)(i:dN lv P r nt c Φ (.exit id) Ψ:=by repeat first|exact .base|apply dN.seq|apply dN.block)(e:Ψ (.exit id) s=p:=by conv=>lhs;simp only[seval]):aQ lv P r nt c s Φ:=i.go (PL (e.mpr h))
theorem eO{Φ Ψ:an->AS->Prop}{c:Ub}(p:Nat)(h:nA lv P ops (ops.toList.take p) s (λs'=>iF lv P ops (ops.toList.drop p) s' (Ψ .normal) (λpv s=>Ψ (.panic pv) s)))(i:dN lv P r nt c Φ (.region id ops true) Ψ:=by repeat first|exact .base|apply dN.seq|apply dN.block)(hm:P.follows .mixedOrders=true:=by kernel_rfl)(aq:Ai nt p ops=true:=by kernel_rfl):aQ lv P r nt c s Φ:=i.go (agl hm p aq h)
theorem nI{Φ Ψ:an->AS->Prop}{c:Ub}(es ord:List Nat)(pl:List rD)(Hf:List Nat->List aa)(h:gh lv P Hf ops pl s (Ψ .normal) ⟨0⟩)(i:dN lv P r nt c Φ (.region id ops true) Ψ:=by repeat first|exact .base|apply dN.seq|apply dN.block)(hm:P.follows .mixedOrders=true:=by kernel_rfl)(aq:rO nt ops es ord=true:=by kernel_rfl)(dz:acJ ops es ord=pl:=by kernel_rfl)(h0:s.H=Hf []:=by first|rfl|simp only[seval]):aQ lv P r nt c s Φ:=i.go (agm es ord pl Hf hm aq dz h0 h)
theorem uN(n:Nat)(V:Nat->List (Nat×AV))(Hf:Nat->List aa)(ok:Nat->Prop)(hm:ok 0)
  (h:bF s.H->(∀t a,look s.T t=some a->Lt s.H.length a)->∀m,m<=n->ok m->∀R:AS->Prop,(∀s',(m<n/\ok (m+1)/\rF s.T (V m) (V (m+1)) (Hf (m+1)) s')->R s')->aQ lv P r nt c ⟨V m++s.T,Hf m⟩ (an.then R Φ)) (vv:∀m m',(V m).map (·.1)=(V m').map (·.1):=by exactλ_ _=>rfl) (gL:∀p∈V 0,∃b,look s.T p.1=some b/\Wk b p.2:=by(simp only[seval];simp[a_,Wk.refl])) (va:Hf 0=s.H:=by rfl) (hl:∀m,m<=n->ok m->(Hf m).length=s.H.length:=by exactλ_ _ _=>rfl):aQ lv P r nt (.loop c) s Φ:=eI n V Hf ok vv gL va hl hm h
theorem cz{base Vi Vn T:List (Nat×AV)}{H:List aa}(hk:sW T (Vi++base) Vn:=by exact lL rfl rfl)(hv:∀p∈Vn,∃b,look T p.1=some b/\Wk b p.2:=by(simp only[seval];simp[a_,Wk.refl])):rF base Vi Vn H ⟨T,H⟩:=aqM hk hv
theorem acZ{base Vi Vn T:List (Nat×AV)}{H H':List aa}(aq:bF H)(hg:∃G,H++G=H':=by first|exact⟨_,rfl⟩|exact⟨_,SC ..⟩)(hk:sW T (Vi++base) Vn:=by exact lL rfl rfl)(hv:∀p∈Vn,∃b,look T p.1=some b/\Wk b p.2:=by(simp only[seval];simp[a_,Wk.refl]))(hlt:∀p∈Vn,Lt H.length p.2:=by simp[ec]):rF base Vi Vn H ⟨T,H'⟩:=by
 obtain⟨G,rfl⟩:=hg;exact acY hk hv aq hlt
theorem cC{H:List aa}{args:List AV}{k kp:AV->List aa->Prop}{g:TS}{first cW:List AV}(hf:bc lv P g H (first++args++cW) k kp)(hg:ru P g=true:=by kernel_rfl):je lv P (.fn (.func g) first cW) H args k kp:=Jy hg hf
end
theorem aH{lv:Bool}{P:SI}{H:List aa}{args:List AV}{k kp:AV->List aa->Prop}{g:TS}{first cW:List AV}{t:Ft k kp}(hf:bc lv P g H (first++args++cW) k kp)(hg:ru P g=true:=by kernel_rfl):BT lv P (.fn (.func g) first cW) H args k kp t:=xZ (Jy hg hf)
theorem F.q0:jC SA 22 22=(SM (3,(1,(SF SD (0)))))/\jC SA 23 23=(SM (61,(3,(TA #[(SF SD (0)),(SF SD (0)),(SF SD (0))]))))/\jC SA 24 24=(SM (48,(4,(TA #[(SF SD (0)),(SF SD (0)),(SF SD (0)),(SF SD (0))]))))/\jC SA 31 31=(SM (39,(3,(TA #[(TL Option.none 0 0),(TL Option.none 0 0),(TL Option.none 0 0)]))))/\jC SA 57 57=(SM (22,(1,(TL Option.none 0 0))))/\oz SA 136=(SM ((Go.Gg.iq.fields []),(TA #[])))/\oz SA 26=(SM ((Go.Gg.iq.fields [(0,1),(1,1),(2,1),(3,1),(4,1),(5,1)]),(TA #[(SF SD (0)),(SF SD (0)),(SF SD (0)),(TL Option.none 0 0),(TL Option.none 0 0),(TL Option.none 0 0)])))/\oz SA 39=(SM ((Go.Gg.iq.fields [(0,1),(1,1),(2,1)]),(TA #[(TL Option.none 0 0),(TL Option.none 0 0),(TL Option.none 0 0)])))/\oz SA 46=(SM ((Go.Gg.iq.fields [(0,1),(1,1)]),(TA #[(SF SD (0)),(SF SD (0))])))/\oz SA 48=(SM ((Go.Gg.iq.fields [(0,2),(2,2)]),(TA #[(SF SD (0)),(SF SD (0)),(SF SD (0)),(SF SD (0))])))/\oz SA 61=(SM ((Go.Gg.iq.fields [(0,1),(1,2)]),(TA #[(SF SD (0)),(SF SD (0)),(SF SD (0))])))/\oz SA 73=(SM ((Go.Gg.iq.fields [(0,1),(1,1),(2,1)]),(TA #[(TL Option.none 0 0),(SF SD (0)),(SF TD (0))])))/\oz SA 76=(SM ((Go.Gg.iq.fields [(0,6)]),(TA #[(SF SD (0)),(SF SD (0)),(SF SD (0)),(TL Option.none 0 0),(TL Option.none 0 0),(TL Option.none 0 0)])))/\oz SA 86=(SM ((Go.Gg.iq.fields [(0,4),(4,4),(8,3)]),(TA #[(SF SD (0)),(SF SD (0)),(SF SD (0)),(SF SD (0)),(SF SD (0)),(SF SD (0)),(SF SD (0)),(SF SD (0)),(SF SD (0)),(SF SD (0)),(SF SD (0))])))/\oz SA 88=(SM ((Go.Gg.iq.fields [(0,1),(1,1),(2,4),(6,4),(10,4),(14,3),(17,11)]),(TA #[(Xg Bool.false),(Zz Option.none),(SF S6 (0)),(SF S6 (0)),(SF S6 (0)),(SF S6 (0)),(SF S6 (0)),(SF S6 (0)),(SF S6 (0)),(SF S6 (0)),(SF S6 (0)),(SF S6 (0)),(SF S6 (0)),(SF S6 (0)),(SF S6 (0)),(SF S6 (0)),(SF S6 (0)),(SF SD (0)),(SF SD (0)),(SF SD (0)),(SF SD (0)),(SF SD (0)),(SF SD (0)),(SF SD (0)),(SF SD (0)),(SF SD (0)),(SF SD (0)),(SF SD (0))])))/\oz SA 97=(SM ((Go.Gg.iq.fields [(0,1),(1,1)]),(TA #[(SF SD (0)),(SF SD (0))]))):=by and_intros<;>kernel_rfl
theorem F.q1:BU SA 3 71=(SM (SM TD))/\BU SA 71 3=(SM (SM SD))/\eN SA 112 0=(SM 0)/\eN SA 112 1=(SM 1)/\eN SA 112 2=(SM 2)/\eN SA 26 0=(SM 0)/\eN SA 26 1=(SM 1)/\eN SA 26 2=(SM 2)/\eN SA 26 3=(SM 3)/\eN SA 26 4=(SM 4)/\eN SA 26 5=(SM 5)/\eN SA 39 0=(SM 0)/\eN SA 39 1=(SM 1)/\eN SA 39 2=(SM 2)/\eN SA 46 0=(SM 0)/\eN SA 46 1=(SM 1):=by and_intros<;>kernel_rfl
theorem F.q2:eN SA 48 0=(SM 0)/\eN SA 48 1=(SM 2)/\eN SA 61 0=(SM 0)/\eN SA 61 1=(SM 1)/\eN SA 73 0=(SM 0)/\eN SA 73 1=(SM 1)/\eN SA 73 2=(SM 2)/\eN SA 76 0=(SM 0)/\eN SA 86 0=(SM 0)/\eN SA 86 1=(SM 4)/\eN SA 86 2=(SM 8)/\eN SA 88 0=(SM 0)/\eN SA 88 1=(SM 1)/\eN SA 88 2=(SM 2)/\eN SA 88 3=(SM 6)/\eN SA 88 4=(SM 10):=by and_intros<;>kernel_rfl
theorem F.q3:eN SA 88 5=(SM 14)/\eN SA 88 6=(SM 17)/\eN SA 97 0=(SM 0)/\eN SA 97 1=(SM 1)/\nz SA 22=(SM (Option.none,1))/\nz SA 23=(SM (Option.none,3))/\nz SA 24=(SM (Option.none,4))/\nz SA 31=(SM (Option.none,3))/\nz SA 57=(SM (Option.none,1))/\nz SA 80=(SM ((SM 4),1))/\nz SA 81=(SM ((SM 3),1))/\nz SA 82=(SM ((SM 4),1))/\nz SA 83=(SM ((SM 4),1))/\nz SA 84=(SM ((SM 3),1))/\xI SA 82=(SM (4,1))/\xI SA 83=(SM (4,1)):=by and_intros<;>kernel_rfl
theorem F.q4:xI SA 84=(SM (3,1))/\kN SA 22=(SM (3,1))/\kN SA 24=(SM (48,4))/\kN SA 82=Option.none/\kN SA 83=Option.none/\kN SA 84=Option.none/\lj SA 22=(SM Go.Gg.xK.slice)/\lj SA 23=(SM Go.Gg.xK.slice)/\lj SA 24=(SM Go.Gg.xK.slice)/\lj SA 31=(SM Go.Gg.xK.slice)/\lj SA 57=(SM Go.Gg.xK.slice)/\B4 SA 22=(SM (3,(1,(SF SD (0)))))/\pu SA 77=(SM (83,4))/\qu SA 22=(SM (3,(1,(SF SD (0)))))/\qu SA 23=(SM (61,(3,(TA #[(SF SD (0)),(SF SD (0)),(SF SD (0))]))))/\qu SA 24=(SM (48,(4,(TA #[(SF SD (0)),(SF SD (0)),(SF SD (0)),(SF SD (0))])))):=by and_intros<;>kernel_rfl
theorem F.q5:qu SA 31=(SM (39,(3,(TA #[(TL Option.none 0 0),(TL Option.none 0 0),(TL Option.none 0 0)]))))/\qu SA 57=(SM (22,(1,(TL Option.none 0 0))))/\Ty SA 130=(SM (1,Bool.false))/\Ty SA 132=(SM (1,Bool.false))/\Ty SA 136=(SM (0,Bool.true))/\Ty SA 139=(SM (1,Bool.false))/\Ty SA 157=(SM (1,Bool.false))/\Ty SA 22=(SM (1,Bool.false))/\Ty SA 23=(SM (1,Bool.false))/\Ty SA 24=(SM (1,Bool.false))/\Ty SA 26=(SM (6,Bool.true))/\Ty SA 3=(SM (1,Bool.false))/\Ty SA 4=(SM (1,Bool.false))/\Ty SA 46=(SM (2,Bool.true))/\Ty SA 48=(SM (4,Bool.true))/\Ty SA 61=(SM (3,Bool.true)):=by and_intros<;>kernel_rfl
theorem F.q6:Ty SA 68=(SM (1,Bool.false))/\Ty SA 71=(SM (1,Bool.false))/\Ty SA 76=(SM (6,Bool.true))/\Ty SA 77=(SM (1,Bool.false))/\Ty SA 79=(SM (1,Bool.false))/\Ty SA 81=(SM (3,Bool.true))/\Ty SA 83=(SM (4,Bool.true))/\Ty SA 86=(SM (11,Bool.true))/\Ty SA 88=(SM (28,Bool.true))/\Ty SA 97=(SM (2,Bool.true))/\eU SA 112=(SM (TA #[(SF SD (0)),(SF SD (0)),(Xg Bool.false)]))/\eU SA 116=(SM (TA #[(SF SD (0)),(SF SD (0))]))/\eU SA 136=(SM (TA #[]))/\eU SA 139=(SM (XS Option.none))/\eU SA 147=(SM (TA #[(SF TD (0)),(SF an_ (0))]))/\eU SA 153=(SM (TA #[(SF SD (0)),(SF SD (0))])):=by and_intros<;>kernel_rfl
theorem F.q7:eU SA 157=(SM YV)/\eU SA 26=(SM (TA #[(SF SD (0)),(SF SD (0)),(SF SD (0)),(TL Option.none 0 0),(TL Option.none 0 0),(TL Option.none 0 0)]))/\eU SA 3=(SM (SF SD (0)))/\eU SA 46=(SM (TA #[(SF SD (0)),(SF SD (0))]))/\eU SA 48=(SM (TA #[(SF SD (0)),(SF SD (0)),(SF SD (0)),(SF SD (0))]))/\eU SA 61=(SM (TA #[(SF SD (0)),(SF SD (0)),(SF SD (0))]))/\eU SA 68=(SM YV)/\eU SA 76=(SM (TA #[(SF SD (0)),(SF SD (0)),(SF SD (0)),(TL Option.none 0 0),(TL Option.none 0 0),(TL Option.none 0 0)]))/\eU SA 79=(SM (SF S6 (0)))/\eU SA 80=(SM (TA #[(SF S6 (0)),(SF S6 (0)),(SF S6 (0)),(SF S6 (0))]))/\eU SA 81=(SM (TA #[(SF S6 (0)),(SF S6 (0)),(SF S6 (0))]))/\eU SA 83=(SM (TA #[(SF SD (0)),(SF SD (0)),(SF SD (0)),(SF SD (0))]))/\eU SA 86=(SM (TA #[(SF SD (0)),(SF SD (0)),(SF SD (0)),(SF SD (0)),(SF SD (0)),(SF SD (0)),(SF SD (0)),(SF SD (0)),(SF SD (0)),(SF SD (0)),(SF SD (0))]))/\eU SA 97=(SM (TA #[(SF SD (0)),(SF SD (0))])):=by and_intros<;>kernel_rfl
attribute [seval] F.q0 F.q1 F.q2 F.q3 F.q4 F.q5 F.q6 F.q7 F.Pl F.Pt
def isDone (j:Nat)(D:List Nat):Bool:=D.contains j
theorem amQ(j:Nat):isDone j []=false:=by simp[isDone]
theorem amP(i j:Nat)(D:List Nat):isDone j (i::D)=((j==i)||isDone j D):=by
 by_cases h:j=i<;>simp[isDone,h]
theorem ahf(lv:Bool)(P:SI)(Hf:List Nat->List aa)(T:List (Nat×AV))(o:Tx)(av:AV):BQ lv P Hf T o av []=True:=by rw[BQ]
theorem ahe(lv:Bool)(P:SI)(Hf:List Nat->List aa)(T:List (Nat×AV))(o:Tx)(av:AV)(D D':List Nat)(l:List (List Nat×List Nat)):BQ lv P Hf T o av ((D,D')::l)=((AQ lv P ⟨T,Hf D⟩ o λa=>a=av)/\BQ lv P Hf T o av l):=by rw[BQ]
theorem agM(lv:Bool)(P:SI)(Hf:List Nat->List aa)(T:List (Nat×AV))(o:Tx)(av:AV):BE lv P Hf T o av []=True:=by rw[BE]
theorem agL(lv:Bool)(P:SI)(Hf:List Nat->List aa)(T:List (Nat×AV))(o:Tx)(av:AV)(D D':List Nat)(l:List (List Nat×List Nat)):BE lv P Hf T o av ((D,D')::l)=((kv lv P (Hf D') ⟨T,Hf D⟩ o λa H'=>a=av/\H'=Hf D')/\BE lv P Hf T o av l):=by rw[BE]
theorem agI:type_of% @gh.eq_1:=by intros;rw[gh.eq_1]
theorem agJ:type_of% @gh.eq_2:=by intros;rw[gh.eq_2]
theorem agH:type_of% @gh.eq_3:=by intros;rw[gh.eq_3]
theorem ae5:type_of% @kv.eq_1:=by intros;rw[kv.eq_1]
theorem ah1(G H:List aa)(k:AV->List aa->Prop)(n m sz:Nat)(elem:TypeId)(l l':List AV):rz G H k n m sz elem l l' .exact=ky G[H.length]? (0<m/\k (.bz H.length 0 (n+m) 0) (H++[.own sz (l++l') elem])) (k (.sl (n+m) (l++l') (.opn H.length)) (H++[.tail (n+m) sz elem])) ⟨0⟩:=by rw[rz]
theorem aki(X Y:Prop)(t:mu X Y):ky none X Y t=Y:=by rw[ky];simp
theorem akj(a:Nat)(b:List AV)(c:TypeId)(X Y:Prop)(t:mu X Y):ky (some (.own a b c)) X Y t=X:=by rw[ky]
theorem akh(b:List AV)(c:TypeId)(X Y:Prop)(t:mu X Y):ky (some (.cells b c)) X Y t=Y:=by rw[ky];simp
theorem akm(a b:Nat)(c:TypeId)(X Y:Prop)(t:mu X Y):ky (some (.tail a b c)) X Y t=Y:=by rw[ky];simp
theorem akg(b:Obj)(X Y:Prop)(t:mu X Y):ky (some (.obj b)) X Y t=Y:=by rw[ky];simp
theorem akl(a:Nat)(b:List AV)(c:TypeId)(X Y:Prop)(t:mu X Y):ky (some (.part a b c)) X Y t=Y:=by rw[ky];simp
@[congr] theorem auC {x x' : Option aa} {X Y : Prop} {t : mu X Y} (h : x = x') : ky x X Y t = ky x' X Y t := by rw [h]
theorem ah2(G H:List aa)(k:AV->List aa->Prop)(n m sz:Nat)(elem:TypeId)(l l':List AV)(i:Nat):rz G H k n m sz elem l l' (.opn i)=((match H[i]?with
   |some (.tail n' eG gX)=>n'=n/\eG=sz/\gX=elem
   |_=>False)/\(∀a∈l',a.leaf=true)/\k (.sl (n+m) (l++l') (.opn i)) (H.set i (.tail (n+m) sz elem))):=by first|(rw[rz];done)|(rw[rz];rfl)
section
variable {lv:Bool}{P:SI}{s s':AS}
@[congr] theorem at0 {G G' : List aa} {o : Tx} {k : AV -> List aa -> Prop} (hG : G = G') (h : s = s') : kv lv P G s o k = kv lv P G' s' o k := by rw [hG, h]
@[congr] theorem auq {Hf : List Nat -> List aa} {ops : Array Tx} {l l' : List rD} {K : AS -> Prop} {t : B0 K} (hl : l = l') (h : s = s') : gh lv P Hf ops l s K t = gh lv P Hf ops l' s' K t := by rw [hl, h]
@[congr] theorem aut {Hf : List Nat -> List aa} {T T' : List (Nat × AV)} {o : Tx} {av m_ : AV} {l l' : List (List Nat × List Nat)} (h1 : T = T') (h2 : av = m_) (h3 : l = l') : BQ lv P Hf T o av l = BQ lv P Hf T' o m_ l' := by rw [h1, h2, h3]
@[congr] theorem aur {Hf : List Nat -> List aa} {T T' : List (Nat × AV)} {o : Tx} {av m_ : AV} {l l' : List (List Nat × List Nat)} (h1 : T = T') (h2 : av = m_) (h3 : l = l') : BE lv P Hf T o av l = BE lv P Hf T' o m_ l' := by rw [h1, h2, h3]
@[congr] theorem aux {f f' : AV} {H H' : List aa} {aF uM : List AV} {k : AV -> List aa -> Prop} {t : B1 k} (h1 : f = f') (h2 : H = H') (h3 : aF = uM) : Fh lv P f H aF k t = Fh lv P f' H' uM k t := by rw [h1, h2, h3]
@[congr] theorem auy {f f' : AV} {name : String} {H H' : List aa} {aF uM : List AV} {k : AV -> List aa -> Prop} {t : B1 k} (h1 : f = f') (h2 : H = H') (h3 : aF = uM) : I3 lv P f name H aF k t = I3 lv P f' name H' uM k t := by rw [h1, h2, h3]
@[congr] theorem auw {G G' H H' : List aa} {k : AV -> List aa -> Prop} {n n' m m' sz : Nat} {elem : TypeId} {l l' x x' : List AV} {e e' : End} (hG : G = G') (h0 : H = H') (h1 : n = n') (h2 : m = m') (h3 : l = l') (h4 : x = x') (h5 : e = e') : rz G H k n m sz elem l x e = rz G' H' k n' m' sz elem l' x' e' := by rw [hG, h0, h1, h2, h3, h4, h5]
end
attribute [seval] amQ amP ahf ahe agM agL agI agJ agH ae5 ah1 ah2 aki akj akh akm akg akl Bool.true_or Bool.false_or Bool.or_true Bool.or_false cond_true cond_false
def an.stay (Φ:an->AS->Prop):an->AS->Prop
 |.goto _,_=>False
 |e,s=>Φ e s
theorem ar2(Φ:an->AS->Prop)(s:AS):an.stay Φ .normal s=Φ .normal s:=by rw[an.stay];simp
theorem ar4(Φ:an->AS->Prop)(s:AS):an.stay Φ .ret s=Φ .ret s:=by rw[an.stay];simp
theorem ar1(Φ:an->AS->Prop)(i:Nat)(s:AS):an.stay Φ (.exit i) s=Φ (.exit i) s:=by rw[an.stay];simp
theorem ar3(Φ:an->AS->Prop)(a:AV)(s:AS):an.stay Φ (.panic a) s=Φ (.panic a) s:=by rw[an.stay];simp
theorem PS{lv:Bool}{P:SI}{r:Option Nat}{s:AS}{nt:Nat}{c:Ub}{Φ:an->AS->Prop}(h:aQ lv P r nt c s (an.stay Φ)):aQ lv P r nt (.scope c) s Φ:=by
 refine agv (λ_ _ _=>False) ⟨0,h.mono λe s hs=> ?_⟩ λ_ _ _ _ _ hf=>hf.elim;cases e<;>first|exact hs|exact hs.elim
@[congr] theorem au7 {s s' : AS} {Φ : an -> AS -> Prop} {e e' : an} (he : e = e') (h : s = s') : an.stay Φ e s = an.stay Φ e' s' := by rw [he, h]
attribute [seval] ar2 ar4 ar1 ar3
theorem amN{α:Type}(n:Nat)(x:α):(if(n:Int)<0 then none else some x)=some x:=by rw[if_neg (by omega)]
theorem ahc:(XM==Wz)=false:=by decide
theorem ahd:(Wz==Wz)=true:=by decide
theorem asG{α β:Type}(f:α->β)(xs:List α):(xs.map f).take xs.length=xs.map f:=SV (by simp)
theorem ao1(o:Wc):(o=o\/o=.neq)=True:=by simp
theorem ao2:(Wz=.eql\/Wz=.neq)=True:=by simp
theorem amU{α:Type}(a b:α):(if false=true then a else b)=b:=by simp
theorem amV{α:Type}(a b:α):(if true=true then a else b)=a:=by simp
theorem ag8(s:AS):s.jg none=some none:=by rw[AS.jg]
theorem ag9(s:AS)(x:Tj):s.jg (some x)=(s.ev x).bind λa=>a.ws.map some:=by
 rw[AS.jg];cases s.ev x<;>rfl
theorem af4(j:T8)(n:Int):AV.ws (.val (.int j n))=some n:=by rw[AV.ws]
theorem afk(P:SI)(t:TypeId)(id off:Nat)(l h m:Option Int)(k:AV->Prop):sR P t (.op id off) l h m k=ao (xI P t) λp=>sY id off p.1 p.1 p.2 l h m k:=by rw[sR]
theorem afl(P:SI)(t:TypeId)(id off n c:Nat)(l h m:Option Int)(k:AV->Prop):sR P t (.bz id off n c) l h m k=ao (kN P t) λp=>sY id off n c p.2 l h m k:=by rw[sR]
theorem afm(P:SI)(t:TypeId)(n:Nat)(li:List AV)(e:End)(l h m:Option Int)(k:AV->Prop):sR P t (.sl n li e) l h m k=ao (kN P t) λp=>xN n li e p.2 l h m k:=by rw[sR]
theorem ao8:type_of% @sY.eq_1:=by intros;rw[sY.eq_1]
theorem arD:type_of% @xN.eq_1:=by intros;rw[xN.eq_1]
@[congr] theorem au2 {id o5 off Et n n' cap cap' sz eG : Nat} {lo Ed hi cG mx Ej : Option Int} {k : AV -> Prop} (h1 : id = o5) (h2 : off = Et) (h3 : n = n') (h4 : cap = cap') (h5 : sz = eG) (h6 : lo = Ed) (h7 : hi = cG) (h8 : mx = Ej) : sY id off n cap sz lo hi mx k = sY o5 Et n' cap' eG Ed cG Ej k := by rw [h1, h2, h3, h4, h5, h6, h7, h8]
@[congr] theorem au5 {n n' sz eG : Nat} {l l' : List AV} {e e' : End} {lo Ed hi cG mx Ej : Option Int} {k : AV -> Prop} (h3 : n = n') (h1 : l = l') (h2 : e = e') (h5 : sz = eG) (h6 : lo = Ed) (h7 : hi = cG) (h8 : mx = Ej) : xN n l e sz lo hi mx k = xN n' l' e' eG Ed cG Ej k := by rw [h1, h2, h3, h5, h6, h7, h8]
theorem aow:((1:Nat):Int)=1:=rfl
theorem aox:((2:Nat):Int)=2:=rfl
theorem aoy:((3:Nat):Int)=3:=rfl
theorem aoz:((4:Nat):Int)=4:=rfl
theorem aoA:((5:Nat):Int)=5:=rfl
theorem aoB:((6:Nat):Int)=6:=rfl
theorem as4(p:Prop):(True\/p)=True:=by simp
theorem ao6(p:Prop):(p\/True)=True:=by simp
attribute [seval] aow aox aoy aoz aoA aoB as4 ao6 Int.le_refl List.length_map
theorem afV(H L:List aa):(H++L)[H.length+1+1]?=L[2]?:=wn H L 2
theorem afW(H L:List aa):(H++L)[H.length+1+1+1]?=L[3]?:=wn H L 3
theorem afZ(H L:List aa)(x:aa):(H++L).set (H.length+1+1) x=H++L.set 2 x:=wq H L 2 x
theorem af0(H L:List aa)(x:aa):(H++L).set (H.length+1+1+1) x=H++L.set 3 x:=wq H L 3 x
attribute [seval] afV afW afZ af0
attribute [seval] ag8 ag9 af4 afk afl afm ao8 arD Option.getD_none Option.getD_some Int.toNat_zero Nat.sub_zero Option.bind_some Option.map_some Nat.zero_le Option.isSome_none Option.isSome_some Bool.false_eq_true false_implies
attribute [seval] amN ahc ahd asG ao1 ao2 amU amV
section
variable {P:SI}{α β:Type}
theorem iP(a:α):cP P (pure a) a:=λw es=>by simp only[pure,VK]
theorem lR{x:Sem α}{f:α->Sem β}{a:α}{b:β}(h:cP P x a)(k:cP P (f a) b):cP P (x>>=f) b:=λw es=>by
 show (x.bind f).runT P w es=_;rw[Sem.runT_bind',h w es];exact k w es
theorem asv{k:SI->Sem α}{a:α}(h:cP P (k P) a):cP P (.program k) a:=λw es=>by simp only[VK];exact h w es
theorem ON{k:SI->Sem α}{a:α}(h:cP P (k P) a):cP P (program>>=k) a:=lR (a:=P) (asv (iP P)) h
theorem zE{t:TypeId}{d:TypeDesc}{k:TypeDesc->Sem α}{a:α}(h:P.underlying t=some d)(hk:cP P (k d) a):cP P (underlying t>>=k) a:=by
 unfold underlying;refine lR (a:=d) (ON ?_) hk;rw[h];exact iP d
def zZ:TypeDesc->Bool
 |.struct _|.array _ _=>true
 |_=>false
theorem ad1{t:TypeId}{d:TypeDesc}{k:Bool->Sem α}{a:α}(h:P.underlying t=some d)(hk:cP P (k (zZ d)) a):cP P (isAgg t>>=k) a:=by
 unfold isAgg;refine lR (zE (a:=zZ d) h ?_) hk;cases d<;>exact iP _
theorem OO{t:TypeId}{i:Wo}{k:Nat->Sem α}{a:α}(h:P.info? t=some i)(hk:cP P (k i.size) a):cP P (sizeOf t>>=k) a:=by
 unfold sizeOf typeInfo;refine lR (lR (a:=i) (ON ?_) (iP _)) hk;rw[h];exact iP i
theorem EN{t:TypeId}{d:TypeDesc}{xs:Array SQ}{off:Nat}{v:SQ}{k:SQ->Sem α}{a:α}(h:P.underlying t=some d)(hd:zZ d=false)(hv:xs[off]?=some v)(hk:cP P (k v) a):cP P (part t xs off>>=k) a:=by
 unfold part;refine lR (a:=v) (ad1 h ?_) hk;rw[hd,hv];exact iP v
theorem ad2{t:TypeId}{d:TypeDesc}{i:Wo}{xs:Array SQ}{off:Nat}{k:SQ->Sem α}{a:α}(h:P.underlying t=some d)(hd:zZ d=true)(hi:P.info? t=some i)(hk:cP P (k (.agg (xs.extract off (off+i.size)))) a):cP P (part t xs off>>=k) a:=by
 unfold part;refine lR (ad1 h ?_) hk;rw[hd];exact OO hi (iP _)
theorem ad0{t:TypeId}{k0 k:T8}{d:Nat}{x y:Int}(h:P.underlying t=some (.int k0)):cP P (VC (d+1) t (.int k x) (.int k y)) (x==y):=by
 rw[VC];refine zE h ?_;dsimp only;rw[if_pos rfl];exact iP _
theorem adU{ι:Type}{body:ι->Option Bool×Unit->Sem (ForInStep (Option Bool×Unit))}{p:ι->Bool}:∀(l:List ι),(∀i∈l,cP P (body i (none,())) (if p i then .yield (none,())else .done (some false,())))->cP P (forIn l (none,()) body) (if l.all p then(none,())else(some false,()))
 |[],_=>by simpa using iP (none,())
 |i::l,h=>by
  rw[W6];refine lR (h i (TF ..)) ?_;by_cases hp:p i=true
  ·simp only[hp,if_true,Z0,UP];exact adU l λj hj=>h j (Td _ hj)
  ·have AX:p i=false:=(by simpa using hp);simp only[AX,TR,if_false,Z0,Vq];exact iP _
theorem afN{α:Type}[BEq α][LawfulBEq α]{xs ys:List α}{n:Nat}(hx:xs.length=n)(hy:ys.length=n):((Ug 0 n).all λi=>xs[i]?==ys[i]?)=(xs==ys):=by
 rw[Vh,Tw,beq_iff_eq];constructor
 ·intro h;apply Yp;intro i;by_cases hi:i<n
  ·have:=h i (by simp[X2];omega);simpa using this
  ·rw[Ux (by omega),Ux (by omega)]
 ·rintro rfl i _;simp
theorem ass{t e:TypeId}{k0 k:T8}{n d:Nat}{i:Wo}{xs ys:List Int}(ht:P.underlying t=some (.array n e))(he:P.underlying e=some (.int k0))(hi:P.info? e=some i)(hs:i.size=1)(hx:xs.length=n)(hy:ys.length=n):
  cP P (VC (d+2) t (.agg (xs.map (SF k)).toArray) (.agg (ys.map (SF k)).toArray)) (xs==ys):=by
 rw[VC];refine zE ht ?_;dsimp only;refine OO hi ?_;rw[hs];simp only[WA,Xw];refine lR (a:=if(xs==ys)then(none,())else(some false,())) ?_ (by cases xs==ys<;>exact iP _);have hn:(n-0+1-1)/1=n:=by simp
 rw[hn,<- afN hx hy];refine adU _ λj hj=> ?_;have mE:j<n:=by simp[X2]at hj;omega
 have gx:xs[j]?=some (xs[j]'(by omega)):=SX _;have gy:ys[j]?=some (ys[j]'(by omega)):=SX _;rw[XH];refine EN he rfl (v:=.int k (xs[j]'(by omega))) (by simp[gx]) ?_;refine EN he rfl (v:=.int k (ys[j]'(by omega))) (by simp[gy]) ?_;refine lR (ad0 he) ?_;rw[gx,gy];by_cases h:xs[j]'(by omega)=ys[j]'(by omega)
 ·rw[h];simp;exact iP _
 ·have h1:(xs[j]'(by omega)==ys[j]'(by omega))=false:=by simpa using h
  have h2:(some (xs[j]'(by omega))==some (ys[j]'(by omega)))=false:=by simpa using h
  rw[h1,h2];exact iP _
theorem cP.uniq{x:Sem α}{a b:α}(h:cP P x a)(k:cP P x b):a=b:=by
 have e:=(h default #[]).symm.trans (k default #[]);have e1:=congrArg Prod.fst e;exact(ats e1).1
theorem adX{t e:TypeId}{k0:T8}{n:Nat}{i:Wo}{xs ys:List Int}(ht:P.underlying t=some (.array n e))(he:P.underlying e=some (.int k0))(hi:P.info? e=some i)(hs:i.size=1)(hx:xs.length=n)(hy:ys.length=n):
  cP P (Xs t (.agg (xs.map (SF .i64)).toArray) (.agg (ys.map (SF .i64)).toArray)) (xs==ys):=ass (d:=9998) ht he hi hs hx hy
theorem zr(xs:List Int):AV.raw (.agg (xs.map iv))=some (.agg (xs.map (SF .i64)).toArray):=by
 have:∀l:List Int,(l.map iv).mapM AV.Bs=some (l.map (SF .i64)):=by
  intro l;induction l with
  |nil=>rfl
  |cons x l ih=>simp only[U5,Ue,ih];rfl
 simp only[AV.raw,this];rfl
theorem apK{xs:List Int}{i:Nat}{y:Int}(h:i<xs.length):iO (xs.map iv) i [iv y]=(xs.set i y).map iv:=by
 unfold iO;rw[List.map_set,XQ,if_pos (by simpa using h)];simp
theorem xu{xs:List Int}{i:Nat}{y:Int}(h:i<xs.length):(xs.map iv).take i++[iv y]++(xs.map iv).drop (i+1)=(xs.set i y).map iv:=apK h
theorem lw{xs:List Int}{i:Nat}{x:Int}(h:xs[i]?=some x):(xs.map iv).drop i=iv x::(xs.drop (i+1)).map iv:=by
 have h1:=eX h;rw[<- ak',TY h1,U5];rw[SX h1]at h;cases h;rfl
end
theorem abB(xs:List Int):(∀a∈xs.map iv,a.leaf=true)=True:=by
 simp only[Tm,eq_iff_iff,iff_true]
 rintro a ⟨x,_,rfl⟩;rfl
attribute [seval] List.append_nil abB
def zN (lv:Bool)(P:SI)(g:TS)(args:Array SQ)(md:Vg)(V:View)(R:Vg->View->Prop):Prop:=
 ∀(main:Bool)(J:View->SG->Prop),Closed lv P main J->∀(fr:Uf)(cs:List Uf),fr.mode=md->(∀ou V',R ou V'->J V' (G {fr with mode:=ou} cs))->J V (G (Frame.enter P g args .deferred) (fr::cs))
def rL:Vg->Vg
 |.panicking ({recovered:=true, .. }::NP)=>match NP.dropWhile (!·.goexit)with
  |[]=> .returning
  |rest=> .panicking rest
 |m=>m
theorem abC{lv:Bool}{P:SI}{main:Bool}{J:View->SG->Prop}(C:Closed lv P main J){fr c:Uf}{cs:List Uf}{f:TS}{v:SQ}{V:View}(h:Leaves P fr f .deferred (.ret v) V)(hJ:J V (G {c with mode:=rL c.mode} cs)):J V (G fr (c::cs)):=by
 obtain⟨rfl,hd,hk,fn,hf,hm,hr⟩:=h;refine C.step _ _ rfl λw hw=> ?_;obtain⟨es,w',V',h1,h2,h3⟩:=hr.runs hw;rcases h3 with⟨x,h3,rfl,rfl⟩|⟨_,_,h⟩
 ·refine⟨G {c with mode:=rL c.mode} cs,w',seen P fr.fn es,V',?_,h1.seen P fr.fn,hJ⟩;simp only[G,stepG,unwind,doReturn,hm,hd,hk,hf,TE,h3,h2,T_];cases GU:c.mode with
  |run=>simp[rL,<- GU]
  |returning=>simp[rL,<- GU]
  |panicking ch=>
   cases ch with
   |nil=>simp[rL,<- GU]
   |cons p NP=>
    obtain⟨v,rec,ge⟩:=p;cases rec with
    |false=>simp[rL,<- GU]
    |true=>
     simp only[rL];cases hdw:NP.dropWhile (!·.goexit)with
     |nil=>simp
     |cons x y=>simp
 ·exact h.elim
theorem Q2{ρ:Tj->SQ}{o:Tx}{cl:Xt}(ay:o.op=.call cl)(ba:cl.callee=.builtin .recover)(P:SI)(w:Tq)(es:Array Uu):(execOp ρ o).runT P w es=(.ok .recover w,es):=by
 unfold execOp;rw[ay];dsimp only;unfold resolve;rw[ba];rfl
theorem aq1{P:SI}{main:Bool}{b c:Uf}{a:Act}{k:List WX}{cs:List Uf}{w:Tq}{ops:Array Tx}{i:Nat}{rest:List Nat}{o:Tx}{cl:Xt}{v:SQ}(ho:ops[i]?=some o)(hg:o.guard=none)(ay:o.op=.call cl)(ba:cl.callee=.builtin .recover)(hb:b.kind=.deferred)(hr:b.roundOf=none)
  (hm:c.mode=.panicking [{v,recovered:=false}]):stepG P main (G (on b a (.inRegion ops (i::rest)::k)) (c::cs)) w=.go (G (on b (a.put o.dst v) (.inRegion ops rest::k)) ({c with mode:=.panicking [{v,recovered:=true}]}::cs)) w #[]:=by
 have ep:(on b a (.inRegion ops (i::rest)::k)).finish v=on b (a.put o.dst v) (.inRegion ops rest::k):=by
  rw[Bj,ho];rfl
 rw[s_op ho (by unfold Ti;rw[hg]) (.inl hr),<- ep];have ki:((on b a (.inRegion ops (i::rest)::k)).kind==Vb)=false:=by simp[on,hb]
 simp only[stepG.apply,if_true,Q2 ay ba,ki,T_,TR,if_false];have h1:(on b a (.inRegion ops (i::rest)::k)).roundOf=none:=hr;have h2:(on b a (.inRegion ops (i::rest)::k)).kind=.deferred:=hb;rw[h1];simp only[tryRecover,h2,hm];simp[seen,G]
theorem aq2{P:SI}{main:Bool}{b c:Uf}{a:Act}{k:List WX}{cs:List Uf}{w:Tq}{ops:Array Tx}{i:Nat}{rest:List Nat}{o:Tx}{cl:Xt}(ho:ops[i]?=some o)(hg:o.guard=none)(ay:o.op=.call cl)(ba:cl.callee=.builtin .recover)(hb:b.kind=.deferred)(hr:b.roundOf=none)
  (hm:c.mode=.returning):stepG P main (G (on b a (.inRegion ops (i::rest)::k)) (c::cs)) w=.go (G (on b (a.put o.dst .nilIface) (.inRegion ops rest::k)) (c::cs)) w #[]:=by
 have ep:(on b a (.inRegion ops (i::rest)::k)).finish .nilIface=on b (a.put o.dst .nilIface) (.inRegion ops rest::k):=by
  rw[Bj,ho];rfl
 rw[s_op ho (by unfold Ti;rw[hg]) (.inl hr),<- ep];have ki:((on b a (.inRegion ops (i::rest)::k)).kind==Vb)=false:=by simp[on,hb]
 simp only[stepG.apply,if_true,Q2 ay ba,ki,T_,TR,if_false];have h1:(on b a (.inRegion ops (i::rest)::k)).roundOf=none:=hr;have h2:(on b a (.inRegion ops (i::rest)::k)).kind=.deferred:=hb;rw[h1];simp only[tryRecover,h2,hm];simp[seen,G]
def Fi (P:SI)(fn:YD)(K:View->Prop):Ex->Act->View->Prop
 |.normal,a,V|.ret,a,V=>a.defers=[]/\∃v,aR P V (results fn a.tmps) (λx V'=>x=v/\V'=V) (λ_ _=>False)/\K V
 |_,_,_=>False
theorem ahB{lv:Bool}{P:SI}{g:TS}{fn:YD}{id:Nat}{ops:Array Tx}{c2:Ub}{o:Tx}{cl:Xt}{args:Array SQ}{md:Vg}{v0:SQ}{V:View}{R:Vg->View->Prop}
  (hf:P.funcs[g]?=some fn) (hb:fn.body=some (.seq (.region id ops false) c2)) (ho:ops[0]?=some o) (hg:o.guard=none) (ay:o.op=.call cl) (ba:cl.callee=.builtin .recover)
  (qQ:md=.panicking [{v:=v0,recovered:=false}]\/(md=.returning/\v0=.nilIface))
  (h:dq lv P none ops (Ex.then (WP lv P none c2 (Fi P fn (R .returning))) (Fi P fn (R .returning))) (Ug 1 (ops.size-1)) (({tmps:=args++TP (fn.ntmps-args.size) undef,defers:=[]}:Act).put o.dst v0) V):zN lv P g args md V R:=by
 intro main J C fr cs mD hR;let b:Uf:={(default:Uf)with fn:=g,kind:=.deferred,roundOf:=none};have vk:Frame.enter P g args .deferred=on b {tmps:=args++TP (fn.ntmps-args.size) undef,defers:=[]} [.code (.seq (.region id ops false) c2)]:=by
  simp[Frame.enter,on,hf,hb,b]
 rw[vk];have aY:0<ops.size:=(SR.1 ho).1;have Mj:S0 ops.size=0::Ug 1 (ops.size-1):=by
  rw[Vw];obtain⟨n,hn⟩:∃n,ops.size=n+1:=⟨ops.size-1,by omega⟩;rw[hn,VU];rfl
 refine C.idle rfl (λ_=>ac5) (C.idle rfl (λ_=>ac4) ?_);rw[Mj];have fin:∀(c:Uf),rL c.mode=.returning->{c with mode:=rL c.mode}={fr with mode:=.returning}->∀e a' V',Fi P fn (R .returning) e a' V'->wi J b [] (c::cs) e a' V':=by
  intro c hc wR e a' V' q;cases e with
  |normal=>
   obtain⟨hd,v,hs,hr⟩:=q;refine C.idle rfl (λw=>ED rfl) (abC (f:=g) (v:=v) C ⟨rfl,hd,rfl,fn,hf,rfl,hs⟩ ?_);rw[wR];exact hR _ _ hr
  |ret=>
   obtain⟨hd,v,hs,hr⟩:=q;intro k;refine C.idle rfl (λw=>EE rfl) (abC (f:=g) (v:=v) C ⟨rfl,hd,rfl,fn,hf,rfl,hs⟩ ?_);rw[wR];exact hR _ _ hr
  |_=>exact q.elim
 have run:∀(c:Uf),rL c.mode=.returning->{c with mode:=rL c.mode}={fr with mode:=.returning}->J V (G (on b (({tmps:=args++TP (fn.ntmps-args.size) undef,defers:=[]}:Act).put o.dst v0) (.inRegion ops (Ug 1 (ops.size-1))::[.code c2])) (c::cs)):=by
  intro c hc wR;refine wp_ops _ _ V h main J C b [.code c2] (c::cs) (by show YN≠Vb;decide) rfl λe a' V' q=> ?_;cases e with
  |normal=>exact q main J C b [] (c::cs) (by show YN≠Vb;decide) rfl λe cw aU q'=>fin c hc wR e cw aU q'
  |ret=>exact fin c hc wR .ret a' V' q
  |panic ch=>exact q.elim
  |exit i=>exact q.elim
  |goto i=>exact q.elim
 rcases qQ with qQ|⟨qQ,hv⟩
 ·refine C.idle rfl (λw=>aq1 ho hg ay ba rfl rfl (by rw[mD,qQ])) ?_;exact run {fr with mode:=.panicking [{v:=v0,recovered:=true}]} rfl rfl
 ·refine C.idle rfl (λw=>aq2 ho hg ay ba rfl rfl (by rw[mD,qQ])) ?_;subst hv;have g_:fr.mode=.returning:=by rw[mD,qQ]
  exact run fr (by rw[g_];rfl) (by rw[g_];rfl)
section
variable {lv:Bool}{P:SI}
theorem Ot{g:TS}{args:Array SQ}{V:View}{K:Next->View->Prop}{Kp:SQ->View->Prop}(hg:ru P g=true)(h:K (.enter g args) V):aR P V (callFunc g args) K Kp:=by
 unfold callFunc;refine az (ri (cM ?_));unfold ru at hg;split at hg
 ·rename_i fn yC;simp only[Tg,T4]at hg;rw[yC];dsimp only;have La:fn.body.isNone=false:=by
   have h1:=hg.1;cases hb:fn.body with
   |none=>rw[hb]at h1;cases h1
   |some _=>rfl
  rw[if_neg (by rw[hg.2];simp),if_neg (by rw[La];simp)];exact au h
 ·cases hg
theorem Cq{E:Env}{V:View}{H:List aa}{args:List AV}{vs:Array SQ}{nt:Nat}(hc:Conc E V H)(hd:cN E args vs)(cQ:args.length<=nt):At E V ⟨bk 0 args,H⟩ {tmps:=vs++TP (nt-vs.size) undef,defers:=[]} nt:=by
 have aY:(vs++TP (nt-vs.size) undef).size=nt:=by simp[hd.1];omega
 refine⟨hc,λq a e=> ?_,aY⟩;obtain⟨_,e⟩:=Nu args 0 q a e;simp only[Z8]at e;have hq:q<args.length:=(SN.1 e).1;have tZ:q<vs.size:=by rw[hd.1];exact hq
 refine⟨by rw[aY];omega,?_⟩;have:=hd.2 q a e;rw[SH,Yd tZ];rwa [SH]at this
def zM (E:Env)(c:AV×List AV)(d:U3):Prop:=∃f first cW fa ca vs,c.1=.fn (.func f) first cW/\d=⟨.fn (.func f) ca,fa++vs⟩/\cN E first fa/\cN E cW ca/\cN E c.2 vs
theorem zM.mono{E E':Env}(h:E.Le E'){c:AV×List AV}{d:U3}(k:zM E c d):zM E' c d:=by
 obtain⟨f,first,cW,fa,ca,vs,h1,h2,h3,h4,h5⟩:=k;exact⟨f,first,cW,fa,ca,vs,h1,h2,h3.mono h,h4.mono h,h5.mono h⟩
def Pm (E:Env):Option AV->Vg->Prop
 |none,md=>md=.returning
 |some pv,md=>∃v,md=.panicking [{v,recovered:=false}]/\ap E pv v
def ry (lv:Bool)(P:SI)(c:AV×List AV)(H:List aa)(m:Option AV)(kr kp:List aa->Prop):Prop:=
 ∀(E:Env)(V:View)(d:U3)(md:Vg),Conc E V H->zM E c d->Pm E m md->aR P V (invoke d.target d.args) (λnx V'=>∃g args,nx=.enter g args/\zN lv P g args md V' λou aU=>∃E' H',E.Le E'/\aU.role=V.role/\aU.deaf=V.deaf/\Conc E' aU H'/\((ou=.returning/\kr H')\/(ou=md/\m.isSome=true/\kp H'))) (λ_ _=>False)
def BW (n0:Nat)(kr:List aa->Prop):an->AS->Prop
 |.normal,s|.ret,s=>kr s.H\/∃H' G,s.H=H'++G/\n0<=H'.length/\bF H'/\kr H'
 |_,_=>False
theorem BW.out{n0:Nat}{E0 E:Env}{V':View}{H:List aa}{kr:List aa->Prop}(h:kr H\/∃H' G,H=H'++G/\n0<=H'.length/\bF H'/\kr H')(hc:Conc E V' H)(hle:E0.Le E)(hn:E0.n=n0):∃E' H',E0.Le E'/\Conc E' V' H'/\kr H':=by
 rcases h with h|⟨H',G,rfl,h1,h2,h3⟩
 ·exact⟨E,H,hle,hc,h⟩
 ·exact⟨{E with n:=H'.length},H',ER h1 (by rw[hc.n];simp) hle hn,hc.trim h2,h3⟩
theorem results_none{fn:YD}{tmps:Array SQ}{V:View}(hr:fn.results=#[]):aR P V (results fn tmps) (λx V'=>x=.tuple #[]/\V'=V) (λ_ _=>False):=by
 unfold results;rw[show fn.results=([]:List UT).toArray from hr,X4];refine az ?_;refine az ?_;rw[UH];refine au (au (au ⟨?_,rfl⟩));simp
theorem ahA{g:TS}{fn:YD}{id nt:Nat}{ops:Array Tx}{c2:Ub}{o:Tx}{cl:Xt}{first cW aF:List AV}{H:List aa}{m:Option AV}{kr kp:List aa->Prop}
  (hg:ru P g=true) (hf:P.funcs[g]?=some fn) (hb:fn.body=some (.seq (.region id ops false) c2)) (hr:fn.results=#[]) (hn:fn.ntmps=nt) (ho:ops[0]?=some o) (tO:o.guard=none) (ay:o.op=.call cl) (ba:cl.callee=.builtin .recover) (dx:j9 nt ops=true) (cQ:(first++aF++cW).length<=nt)
  (h:iF lv P ops (ops.toList.drop 1) ((⟨bk 0 (first++aF++cW),H⟩:AS).put o.dst (m.getD (.val .nilIface))) (λs'=>aQ lv P none nt c2 s' (BW H.length kr)) (λ_ _=>False)):ry lv P (.fn (.func g) first cW,aF) H m kr kp:=by
 intro E V d md hc hd qQ;obtain⟨f,auz,auv,fa,ca,vs,h1,rfl,h3,h4,h5⟩:=hd;cases h1;unfold invoke;dsimp only;refine Ot hg ⟨g,_,rfl,?_⟩;obtain⟨v0,hv,alI⟩:∃v0,ap E (m.getD (.val .nilIface)) v0/\(md=.panicking [{v:=v0,recovered:=false}]\/(md=.returning/\v0=.nilIface)):=by
  cases m with
  |none=>exact⟨.nilIface,.val _,.inr ⟨qQ,rfl⟩⟩
  |some pv=>obtain⟨v,e,hv⟩:=qQ;exact⟨v,hv,.inl e⟩
 refine ahB hf hb ho tO ay ba alI ?_;have ai:=Cq (nt:=nt) hc (CB (CB h3 h5) h4) cQ;rw[hn];have aY:0<ops.size:=(SR.1 ho).1;have fL:o∈ops:=W8 ho;have aV:At E V ((⟨bk 0 (first++aF++cW),H⟩:AS).put o.dst (m.getD (.val .nilIface))) (({tmps:=fa++vs++ca++TP (nt-(fa++vs++ca).size) undef,defers:=[]}:Act).put o.dst v0) nt:=
  ⟨by rw[fx];exact ai.bw,ai.tok.ii (λd e=>by rw[ai.size];exact(j9.out dx fL).1 d e) hv,(eo _ _ _).trans ai.size⟩
 refine Bm (r:=none) (Φ:=λe s'=>match e with
  |.normal=>aQ lv P none nt c2 s' (BW H.length kr)
  |_=>False) (λo ho d e=>(j9.out dx ho).1 d e) (λ_ _=> .inl rfl) (ops.size-1) 1 _ (by omega) h E V _ _ aV λae e E' V' a' s' hk akK he hΦ=> ?_
 cases ae<;>cases e<;>first
  |exact he.elim
  |exact hΦ.elim
  |skip
 refine hΦ E' V' a' _ akK λae e bT aU cw dn aJ di kG ug=> ?_;have fin:(kr dn.H\/∃H' G,dn.H=H'++G/\H.length<=H'.length/\bF H'/\kr H')->Fi P fn (λaU=>∃E' H',E.Le E'/\aU.role=V.role/\aU.deaf=V.deaf/\Conc E' aU H'/\((Ys=.returning/\kr H')\/(Ys=md/\m.isSome=true/\kp H'))) .ret cw aU:=λug=>by
  obtain⟨E3,H',q1,q2,q3⟩:=BW.out (E0:=E) ug di.bw (hk.le.trans aJ.le) hc.n;have bB:cw.defers=[]:=by rw[aJ.defers,hk.defers];exact put_defers _ _ _
  exact⟨bB,_,results_none hr,E3,H',q1,aJ.role.trans hk.role,aJ.deaf.trans hk.deaf,q2,.inl ⟨rfl,q3⟩⟩
 cases ae<;>cases e<;>first
  |exact kG.elim
  |exact ug.elim
  |exact fin ug
theorem Qr{g:TS}{fn:YD}{id nt:Nat}{ops:Array Tx}{c2:Ub}{o:Tx}{l:List Tx}{d0:Option Nat}{cl:Xt}{first cW aF:List AV}{H:List aa}{m:Option AV}{kr kp:List aa->Prop}
  (hg:ru P g=true) (hf:P.funcs[g]?=some fn) (hb:fn.body=some (.seq (.region id ops false) c2)) (hr:fn.results=#[]) (hn:fn.ntmps=nt) (hl:ops.toList=o::l) (tO:o.guard=none) (aS:o.dst=d0) (ay:o.op=.call cl) (ba:cl.callee=.builtin .recover) (dx:j9 nt ops=true) (cQ:(first++aF++cW).length<=nt)
  (h:iF lv P ops l ((⟨bk 0 (first++aF++cW),H⟩:AS).put d0 (m.getD (.val .nilIface))) (λs'=>aQ lv P none nt c2 s' (BW H.length kr)) (λ_ _=>False)):ry lv P (.fn (.func g) first cW,aF) H m kr kp:=by
 subst aS;refine ahA hg hf hb hr hn (o:=o) (cl:=cl) ?_ tO ay ba dx cQ (by rw[hl];simpa using h);have:ops.toList[0]?=some o:=by rw[hl];rfl
 simpa using this
end
section
variable {lv:Bool}{P:SI}{r:Option Nat}{s:AS}
theorem HY{nt:Nat}{all:Array Tx}{Φ:an->AS->Prop}(dx:∀o∈all,∀d,o.dst=some d->d<nt)(nW:r=none):∀(n k:Nat)(s:AS),k+n<=all.size->iF lv P all ((all.toList.drop k).take n) s (Φ .normal) (λpv s=>Φ (.panic pv) s)->
  ∀(E:Env)(V:View)(a:Act)(Q:Ex->Act->View->Prop),At E V s a nt->(∀ae e E' V' a' s',Kept E E' V V' a a'->At E' V' s' a' nt->qn E' ae e->Φ ae s'->Q e a' V')->dq lv P r all Q (Ug k n) a V
 |0,k,s,hk,h,E,V,a,Q,ai,hQ=>by
  rw[Za]at h;exact hQ .normal .normal E V a s (Kept.refl E V a) ai trivial h
 |n+1,k,s,hk,h,E,V,a,Q,ai,hQ=>by
  have hlt:k<all.size:=by omega
  have hd:all.toList.drop k=all[k]::all.toList.drop (k+1):=by
   rw[TY (by simpa using hlt)];simp
  rw[hd,VZ]at h;have fL:all[k]∈all:=XX hlt;have ho:all[k]?=some all[k]:=SJ hlt;simp only[VU,dq,ho];have go:∀s:AS,At E V s a nt->mV lv P s all[k] (λs'=>iF lv P all ((all.toList.drop (k+1)).take n) s' (Φ .normal) (λpv s=>Φ (.panic pv) s)) (λpv s=>Φ (.panic pv) s)->xL lv P r all[k] a V (dq lv P r all Q (Ug (k+1) n)) Q:=λs ai h=>by
   refine h.sound (lv:=lv) (r:=r) E V a _ Q ai.bw ai.tok (λd e=>by rw[ai.size];exact dx _ fL d e) (.inl nW) (λE' V' a' s' aJ bp mJ hn=> ?_) (λE' V' s' pv v aJ bp mJ bt hb=> ?_)
   ·exact HY dx nW n (k+1) s' (by omega) hn E' V' a' Q ⟨bp,mJ,aJ.size.trans ai.size⟩ (λae e bT aU cw dn fY di he hΦ=>hQ ae e bT aU cw dn (aJ.trans fY) di he hΦ)
   ·exact hQ (.panic pv) (.panic _) E' V' a s' aJ ⟨bp,mJ,ai.size⟩ ⟨v,rfl,bt⟩ hb
  simp only[iF]at h;split at h
  ·rename_i hg;have hw:Ti all[k] (yielded all a.tmps)=true:=(by unfold Ti;rw[hg]);rw[if_pos hw];exact .inl (go s ai h)
  ·rename_i j cj hg;obtain⟨d,gz,h⟩:=h.out;obtain⟨av,h1,h⟩:=h.out;obtain⟨b,rfl,h2,h3⟩:=Co h;have hv:=(ai.tok d _ h1).2;have hy:yielded all a.tmps j=some b:=by
    obtain⟨oj,kV,jn⟩:=Tf.1 gz;generalize hx:a.tmps.getD d undef=x at hv;cases hv;have mF:d<a.tmps.size:=(ai.tok d _ h1).1;rw[SH,SJ mF]at hx;simp only[S7]at hx;simp[yielded,kV,jn,SJ mF,hx]
   have sw:∀b',b=b'->At E V ⟨(d,.val (.bool b'))::s.T,s.H⟩ a nt:=λb' dI=>by
    subst dI;refine⟨ai.bw,λt x e=> ?_,ai.size⟩;simp only[look]at e;split at e
    ·rename_i e';subst e';cases e;exact ai.tok d _ h1
    ·exact ai.tok t x e
   by_cases hb:b=cj
   ·have hw:Ti all[k] (yielded all a.tmps)=true:=(by unfold Ti;rw[hg];simp[hy,hb]);rw[if_pos hw];exact .inl (go _ (sw cj hb) (h2 hb))
   ·have hw:¬Ti all[k] (yielded all a.tmps)=true:=(by unfold Ti;rw[hg];simp[hy,hb]);rw[if_neg hw];have dI:b= !cj:=(by cases b<;>cases cj<;>simp_all);have wI:=h3 dI;have ai:=sw _ dI;exact HY dx nW n (k+1) ((⟨(d,.val (.bool !cj))::s.T,s.H⟩:AS).put all[k].dst (.val undef)) (by omega) wI E V (a.put all[k].dst undef) Q
     ⟨by rw[fx];exact ai.bw,ai.tok.ii (λd e=>by rw[ai.size];exact dx _ fL d e) (.val undef),by rw[eo];exact ai.size⟩
     (λae e bT aU cw dn fY di he hΦ=>hQ ae e bT aU cw dn ⟨fY.le,fY.size.trans (eo _ _ _),fY.defers.trans (put_defers _ _ _),fY.role,fY.deaf⟩ di he hΦ)
theorem m8.mono{o:Tx}{a:Act}{N N':Act->View->Prop}{Q Q':Ex->Act->View->Prop}(hN:∀a V,N a V->N' a V)(hQ:∀ch a V,Q (.panic ch) a V->Q' (.panic ch) a V){nx:Next}{V:View}(h:m8 lv P r o a N Q nx V):m8 lv P r o a N' Q' nx V:=by
 cases nx with
 |value v=>exact hN _ _ h
 |skip=>exact hN _ _ h
 | «defer» d => exact ⟨h.1, hN _ _ h.2⟩
 |enter f args=>
  refine Body.mono (R:=fun
   |.ret v,V'=>N (a.put o.dst v) V'
   |.panic ch,V'=>Q (.panic ch) a V') (R':=fun
   |.ret v,V'=>N' (a.put o.dst v) V'
   |.panic ch,V'=>Q' (.panic ch) a V') h λot V' h=> ?_
  cases ot
  ·exact hN _ _ h
  ·exact hQ _ _ _ h
 |round l f tmps aF b=>
  refine nC.mono (R:=fun
   |.ret v,V'=>N (a.put o.dst v) V'
   |.panic ch,V'=>Q (.panic ch) a V') (R':=fun
   |.ret v,V'=>N' (a.put o.dst v) V'
   |.panic ch,V'=>Q' (.panic ch) a V') h λot V' h=> ?_
  cases ot
  ·exact hN _ _ h
  ·exact hQ _ _ _ h
 |_=>exact h.elim
theorem BM{ops:Array Tx}{Q:Ex->Act->View->Prop}{l2:List Nat}:∀(l1:List Nat)(a:Act)(V:View),dq lv P r ops (Ex.then (dq lv P r ops Q l2) Q) l1 a V->dq lv P r ops Q (l1++l2) a V
 |[],a,V,h=>h
 |i::l1,a,V,h=>by
  simp only[Vp,dq]at h⊢;cases ho:ops[i]?with
  |none=>rw[ho]at h;exact BM l1 a V h
  |some o=>
   rw[ho]at h;dsimp only at h⊢;split at h
   ·rename_i hw;rw[if_pos hw];rcases h with h|h
    rotate_left
    ·exact .inr (h.mono λa V h=>BM l1 a V h)
    obtain⟨h1,h2⟩:=h;exact .inl ⟨h1,h2.mono (λnx V' h=>m8.mono (λa V h=>BM l1 a V h) (λ_ _ _ h=>h) h) λ_ _ h=>h⟩
   ·rename_i hw;rw[if_neg hw];exact BM l1 _ V h
def xF (E:Env):List (AV×List AV)->List U3->Prop
 |[],[]=>True
 |c::ds,d::l=>zM E c d/\xF E ds l
 |_,_=>False
theorem xF.mono{E E':Env}(h:E.Le E'):∀{ds:List (AV×List AV)}{l:List U3},xF E ds l->xF E' ds l
 |[],[],_=>trivial
 |_::_,_::_,k=>⟨k.1.mono h,xF.mono h k.2⟩
 |[],_::_,k=>k.elim
 |_::_,[],k=>k.elim
structure rB (E E':Env)(V V':View)(a a':Act):Prop where
 le:E.Le E'
 size:a'.tmps.size=a.tmps.size
 role:V'.role=V.role
 deaf:V'.deaf=V.deaf
theorem rB.trans{E E' bT:Env}{V V' aU:View}{a a' cw:Act}(h:rB E E' V V' a a')(k:rB E' bT V' aU a' cw):rB E bT V aU a cw:=⟨h.le.trans k.le,k.size.trans h.size,k.role.trans h.role,k.deaf.trans h.deaf⟩
theorem Kept.d{E E':Env}{V V':View}{a a':Act}(h:Kept E E' V V' a a'):rB E E' V V' a a':=⟨h.le,h.size,h.role,h.deaf⟩
def BR (lv:Bool)(P:SI)(nt:Nat)(c:Ub)(s:AS)(ds:List (AV×List AV))(Φ:an->AS->List (AV×List AV)->Prop):Prop:=
 ∀(E:Env)(V:View)(a:Act)(Q:Ex->Act->View->Prop),At E V s a nt->xF E ds a.defers->(∀ae e E' V' a' s' nN,rB E E' V V' a a'->At E' V' s' a' nt->xF E' nN a'.defers->qn E' ae e->Φ ae s' nN->Q e a' V')->WP lv P none c Q a V
def an.xx (next:AS->List (AV×List AV)->Prop)(Φ:an->AS->List (AV×List AV)->Prop):an->AS->List (AV×List AV)->Prop
 |.normal,s,ds=>next s ds
 |e,s,ds=>Φ e s ds
theorem agA{nt id n:Nat}{ops:Array Tx}{o:Tx}{c:Xt}{x:Tj}{ds:List (AV×List AV)}{Φ:an->AS->List (AV×List AV)->Prop}(hn:ops.size=n+1)(ho:ops[n]?=some o)(hg:o.guard=none)(ay:o.op=.defer c)(ba:c.callee=.value x)
  (dx:(ops.all λo=>o.dst.all (·<nt))=true)
  (h:iF lv P ops (ops.toList.take n) s (λs'=>ao (s'.ev x) λf=>ao (ft s' c.args.toList) λaF=>(∃g first cW,f=.fn (.func g) first cW)/\Φ .normal (s'.put o.dst (.val undef)) ((f,aF)::ds)) (λpv s'=>Φ (.panic pv) s' ds)):BR lv P nt (.region id ops false) s ds Φ:=by
 intro E V a Q ai hd hQ;refine wp_region ?_;have hr:S0 ops.size=Ug 0 n++[n]:=by
  have:=Zb (s:=0) (m:=n) (n:=1);rw[Vw,hn,<- this];simp
 rw[hr];have aao:∀o∈ops,∀d,o.dst=some d->d<nt:=λo ho d e=>by
  have:=(UQ.1 dx) o ho;rw[e]at this;simpa using this
 refine BM _ _ _ (HY (r:=none) (Φ:=λe s'=>match e with
  |.normal=>ao (s'.ev x) λf=>ao (ft s' c.args.toList) λaF=>(∃g first cW,f=.fn (.func g) first cW)/\Φ .normal (s'.put o.dst (.val undef)) ((f,aF)::ds)
  |e=>Φ e s' ds) aao rfl n 0 s (by omega) (by simpa using h) E V a _ ai λae e E' V' a' s' hk aV he hΦ=> ?_)
 cases ae<;>cases e<;>first
  |exact he.elim
  |exact hQ _ _ E' V' a' s' ds hk.d aV (by rw[hk.defers];exact hd.mono hk.le) he hΦ
  |skip
 obtain⟨f,h1,hA⟩:=ao.out hΦ;obtain⟨aF,h2,⟨g,first,cW,rfl⟩,hB⟩:=hA.out;simp only[Ex.then,dq,ho];rw[if_pos (by unfold Ti;rw[hg])];refine .inl ⟨.inl rfl,?_⟩;unfold execOp;rw[ay];dsimp only;unfold resolve;rw[ba];dsimp only;have bB:=ap.ev aV.tok h1;generalize ce:a'.eval x=cv at bB;cases bB with
 |fn dW f_ q1 q2=>
  rename_i fa ca;unfold U_;refine az (au (au ?_));refine⟨rfl,?_⟩;have fL:o∈ops:=W8 ho;have e:c.args.map a'.eval=(c.args.toList.map a'.eval).toArray:=by apply VH;simp
  refine hQ .normal .normal E' V' _ (s'.put o.dst (.val undef)) ((.fn (.func g) first cW,aF)::ds) ⟨hk.le,(eo _ _ _).trans hk.size,hk.role,hk.deaf⟩ ⟨by rw[fx];exact aV.bw,aV.tok.ii (a:={a' with defers:=⟨.fn (.func g) ca,fa++c.args.map a'.eval⟩::a'.defers}) (λd e=>by rw[aV.size];exact aao o fL d e) (.val _),(eo _ _ _).trans aV.size⟩ ?_ trivial hB;rw[put_defers];refine⟨⟨g,first,cW,fa,ca,_,rfl,rfl,⟨dW,q1⟩,⟨f_,q2⟩,?_⟩,by rw[hk.defers];exact hd.mono hk.le⟩;rw[e];exact An aV.tok h2
theorem PV{nt id n:Nat}{ops:Array Tx}{o:Tx}{c:Xt}{x:Tj}{ds:List (AV×List AV)}{Φ:an->AS->List (AV×List AV)->Prop}(hn:ops.size=n+1)(ho:ops[n]?=some o)(hg:o.guard=none)(aS:o.dst=none)(ay:o.op=.defer c)(ba:c.callee=.value x)
  (dx:(ops.all λo=>o.dst.all (·<nt))=true)
  (h:iF lv P ops (ops.toList.take n) s (λs'=>ao (s'.ev x) λf=>ao (ft s' c.args.toList) λaF=>(∃g first cW,f=.fn (.func g) first cW)/\Φ .normal s' ((f,aF)::ds)) (λpv s'=>Φ (.panic pv) s' ds)):BR lv P nt (.region id ops false) s ds Φ:=by
 refine agA hn ho hg ay ba dx ?_;rw[aS];exact h
end
section
variable {lv:Bool}{P:SI}
theorem acX{rs:List UT}{fn:YD}{n nt:Nat}{k kp:AV->List aa->Prop}{E E':Env}{V V':View}{s':AS}{a':Act}(hr:fn.results=rs.toArray)(ai:At E' V' s' a' nt)(hle:E.Le E')(hn:E.n=n)(cp:V'.role=V.role)(fg:V'.deaf=V.deaf)(hΦ:ao (ik P s' rs) λl=>cJ n s'.H (jc l) k):
  ∃v,aR P V' (results fn a'.tmps) (λx aU=>x=v/\aU=V') (λ_ _=>False)/\gW E V k kp (.ret v) V':=by
 obtain⟨l,h1,h2⟩:=hΦ.out;have gC:∃v,ap E' (jc l) v/\aR P V' (results fn a'.tmps) (λx aU=>x=v/\aU=V') (λ_ _=>False):=by
  obtain⟨vs,hl,mh,yN⟩:=Ii ai rs l h1;refine⟨if h:vs.length=1 then vs[0]else .tuple vs.toArray,?_,?_⟩
  ·match l,vs,hl,mh with
   |[x],[v],_,mh=>exact mh 0 x rfl
   |[],[],_,mh=>exact .aO rfl (by simp)
   |x::y::l,v::w::vs,hl,mh=>exact .aO (by simpa using hl) (λi z hz=>by simpa[SH,SE]using mh i z hz)
  ·unfold results;rw[hr,X4];refine az ?_;refine az (yN ?_);refine au (au ⟨?_,rfl⟩);simp
 obtain⟨v,bt,qV⟩:=gC;obtain⟨b,bT,H',q1,q2,q3,q4⟩:=x_ h2 ai.bw bt hle hn;exact⟨v,qV,b,bT,H',q1,cp,fg,q2,q3,q4⟩
def zS (lv:Bool)(P:SI)(rs:List UT)(n:Nat)(k kp:AV->List aa->Prop):an->AS->List (AV×List AV)->Prop
 |.normal,s,[]|.ret,s,[]=>ao (ik P s rs) λl=>cJ n s.H (jc l) k
 |.panic pv,s,[]=>cJ n s.H pv kp
 |.normal,s,[c]|.ret,s,[c]=>ry lv P c s.H none (λH'=>ao (ik P ⟨s.T,H'⟩ rs) λl=>cJ n H' (jc l) k) (λ_=>False)
 |.panic pv,s,[c]=>ry lv P c s.H (some pv) (λH'=>ao (ik P ⟨s.T,H'⟩ rs) λl=>cJ n H' (jc l) k) (λH'=>cJ n H' pv kp)
 |_,_,_=>False
theorem zN.mono{g:TS}{args:Array SQ}{md:Vg}{V:View}{R R':Vg->View->Prop}(h:zN lv P g args md V R)(hr:∀m V,R m V->R' m V):zN lv P g args md V R':=λmain J C fr cs hm hR=>h main J C fr cs hm λou V' r=>hR ou V' (hr _ _ r)
@[congr] theorem aun {nt : Nat} {c : Ub} {s s' : AS} {ds nN : List (AV × List AV)} {Φ : an -> AS -> List (AV × List AV) -> Prop} (h : s = s') (hd : ds = nN) : BR lv P nt c s ds Φ = BR lv P nt c s' nN Φ := by rw [h, hd]
theorem asH(K:AS->List (AV×List AV)->Prop)(Φ:an->AS->List (AV×List AV)->Prop)(s:AS)(ds:List (AV×List AV)):an.xx K Φ .normal s ds=K s ds:=by rw[an.xx]
theorem asK(K:AS->List (AV×List AV)->Prop)(Φ:an->AS->List (AV×List AV)->Prop)(s:AS)(ds:List (AV×List AV)):an.xx K Φ .ret s ds=Φ .ret s ds:=by rw[an.xx];simp
theorem asJ(K:AS->List (AV×List AV)->Prop)(Φ:an->AS->List (AV×List AV)->Prop)(a:AV)(s:AS)(ds:List (AV×List AV)):an.xx K Φ (.panic a) s ds=Φ (.panic a) s ds:=by rw[an.xx];simp
@[congr] theorem au8 {K : AS -> List (AV × List AV) -> Prop} {Φ : an -> AS -> List (AV × List AV) -> Prop} {e e' : an} {s s' : AS} {ds nN : List (AV × List AV)} (he : e = e') (h : s = s') (hd : ds = nN) : an.xx K Φ e s ds = an.xx K Φ e' s' nN := by rw [he, h, hd]
@[congr] theorem auA {rs : List UT} {n : Nat} {k kp : AV -> List aa -> Prop} {e e' : an} {s s' : AS} {ds nN : List (AV × List AV)} (he : e = e') (h : s = s') (hd : ds = nN) : zS lv P rs n k kp e s ds = zS lv P rs n k kp e' s' nN := by rw [he, h, hd]
theorem aj0(rs:List UT)(n:Nat)(k kp:AV->List aa->Prop)(s:AS):zS lv P rs n k kp .ret s []=ao (ik P s rs) λl=>cJ n s.H (jc l) k:=by rw[zS]
theorem ajZ(rs:List UT)(n:Nat)(k kp:AV->List aa->Prop)(s:AS)(pv:AV):zS lv P rs n k kp (.panic pv) s []=cJ n s.H pv kp:=by rw[zS]
attribute [seval] asH asK asJ aj0 ajZ
end
section
variable {P:SI}
theorem adW{ι:Type}{body:ι->PUnit->Sem (ForInStep PUnit)}:∀(l:List ι),(∀i∈l,cP P (body i ⟨⟩) (.yield ⟨⟩))->cP P (forIn l ⟨⟩ body) ⟨⟩
 |[],_=>by simpa using iP PUnit.unit
 |i::l,h=>by
  rw[W6];exact lR (h i (TF ..)) (adW l λj hj=>h j (Td _ hj))
theorem ast{t:TypeId}{k0 k:T8}{d:Nat}{b:Bool}{x:Int}(h:P.underlying t=some (.int k0)):cP P (Vk b (d+1) t (.int k x)) ():=by
 rw[Vk];exact zE h (iP _)
theorem adV{t e:TypeId}{k0 k:T8}{n d:Nat}{i:Wo}{b:Bool}{xs:List Int}(ht:P.underlying t=some (.array n e))(he:P.underlying e=some (.int k0))(hi:P.info? e=some i)(hs:i.size=1)(hx:xs.length=n):
  cP P (Vk b (d+2) t (.agg (xs.map (SF k)).toArray)) ():=by
 rw[Vk];refine zE ht ?_;dsimp only;simp only[WA,Xw];refine lR (a:=⟨⟩) ?_ (iP _);refine adW _ λj hj=> ?_;have hn:(n-0+1-1)/1=n:=by simp
 have mE:j<n:=by rw[hn]at hj;simp[X2]at hj;omega
 have gx:xs[j]?=some (xs[j]'(by omega)):=SX _;refine OO hi ?_;rw[hs,XH];refine EN he rfl (v:=.int k (xs[j]'(by omega))) (by simp[gx]) ?_;exact lR (ast he) (iP _)
def eF (x:List Int×Nat):Wp:={key:=.agg (x.1.map (SF .i64)).toArray,val:=.bool true,born:=x.2}
def qC (x:List Int):List (List Int×Nat)->Nat->Option (Nat×SQ)
 |[],_=>none
 |y::ts,i=>if x==y.1 then some (i,.bool true)else qC x ts (i+1)
theorem adY{t e:TypeId}{k0:T8}{n:Nat}{i:Wo}{x:List Int}(ht:P.underlying t=some (.array n e))(he:P.underlying e=some (.int k0))(hi:P.info? e=some i)(hs:i.size=1)(hx:x.length=n):∀(ts:List (List Int×Nat))(j:Nat),(∀y∈ts,y.1.length=n)->
  cP P (XK t (.agg (x.map (SF .i64)).toArray) (ts.map eF) j) (qC x ts j)
 |[],j,_=>by rw[List.map_nil,XK,qC];exact iP _
 |y::ts,j,h=>by
  rw[U5,XK,qC];refine lR (adX ht he hi hs hx (h y (TF ..))) ?_;by_cases xc:(x==y.1)=true
  ·rw[if_pos xc,if_pos xc];exact iP _
  ·rw[if_neg xc,if_neg xc];exact adY ht he hi hs hx ts (j+1) λz hz=>h z (Td _ hz)
theorem adZ{t e:TypeId}{k0:T8}{n:Nat}{i:Wo}{x:List Int}(ht:P.underlying t=some (.array n e))(he:P.underlying e=some (.int k0))(hi:P.info? e=some i)(hs:i.size=1)(hx:x.length=n){ts:List (List Int×Nat)}(h:∀y∈ts,y.1.length=n):
  cP P (VR t (.agg (x.map (SF .i64)).toArray) (ts.map eF)) (qC x ts 0):=by
 unfold VR;refine zE ht ?_;cases ts with
 |nil=>exact iP _
 |cons y ts=>
  have e1:Instr.findNow (.array n e) (.agg (x.map (SF .i64)).toArray) ((y::ts).map eF) 0=none:=rfl;rw[e1];exact adY ht he hi hs hx (y::ts) 0 h
theorem Rn{x:List Int}:∀{ts:List (List Int×Nat)}{j i:Nat}{v:SQ},qC x ts j=some (i,v)->∃b,j<=i/\ts[i-j]?=some (x,b)/\v=.bool true
 |y::ts,j,i,v,h=>by
  rw[qC]at h;split at h
  ·rename_i xc;cases h;obtain⟨y1,b⟩:=y;have:x=y1:=(by simpa using xc);subst this;exact⟨b,SP _,by simp,rfl⟩
  ·obtain⟨b,h1,h2,h3⟩:=Rn h;refine⟨b,by omega,?_,h3⟩;have:i-j=(i-(j+1))+1:=(by omega);rw[this,UR];exact h2
theorem Rm{x:List Int}:∀{ts:List (List Int×Nat)}{j:Nat},qC x ts j=none->∀y∈ts,y.1≠x
 |y::ts,j,h,z,hz=>by
  rw[qC]at h;split at h
  ·cases h
  ·rename_i xc;rcases SK.1 hz with rfl|hz
   ·intro e;exact xc (by simp[e])
   ·exact Rm h z hz
end
theorem aq7(xs:List Int):WF 10000 (.agg (xs.map (SF .i64)).toArray) (.agg (xs.map (SF .i64)).toArray)=true:=by
 show WF (9999+1) _ _=true;rw[WF];simp only[beq_self_eq_true,UP,Tw]
 rintro⟨a,b⟩ h
 have:a=b/\a∈xs.map (SF .i64):=by
  have key:∀l:List SQ,(a,b)∈l.zip l->a=b/\a∈l:=by
   intro l;induction l with
   |nil=>intro h;cases h
   |cons x l ih=>
    intro h;rw[List.zip_cons_cons]at h;rcases SK.1 h with h|h
    ·cases h;exact⟨rfl,TF ..⟩
    ·exact⟨(ih h).1,Td _ (ih h).2⟩
  exact key _ h
 obtain⟨rfl,hm⟩:=this;obtain⟨x,_,rfl⟩:=Tm.1 hm;simp[WF]
theorem acO(ts:List (List Int×Nat))(ck:Nat)(x:List Int):xq (ts.map eF).toArray ck (.agg (x.map (SF .i64)).toArray) (.bool true) none=.map ((ts++[(x,ck)]).map eF).toArray (ck+1):=by
 simp[xq,eF]
theorem apO{ts:List (List Int×Nat)}{ck i b:Nat}{x:List Int}{v:SQ}(h:ts[i]?=some (x,b)):xq (ts.map eF).toArray ck (.agg (x.map (SF .i64)).toArray) (.bool true) (some (i,v))=.map (ts.map eF).toArray ck:=by
 simp only[xq];congr 1;apply Array.ext_getElem?;intro j;rw[Wn];by_cases hj:i=j
 ·subst hj;rw[if_pos rfl];simp[h,eF]
 ·rw[if_neg hj]
theorem aoV(xs:List Int):AV.of (.agg (xs.map (SF .i64)).toArray)=.agg (xs.map iv):=by
 simp only[AV.of,WR];congr 1
theorem P8(ts:List (List Int×Nat))(ck:Nat)(h:∀y∈ts,y.2<ck):((ts.map eF).toArray.all (λe=>decide (e.born>=ck))=false\/(ts.map eF).toArray.isEmpty=true):=by
 cases ts with
 |nil=>right;rfl
 |cons y ts=>
  left;have:=h y (TF ..);simp[eF];omega
theorem Em{α β:Type}(f:α->β):∀{l:List α},(l.map f).Nodup->l.Nodup
 |[],_=>WQ
 |x::l,h=>by
  rw[U5,VX]at h;exact VX.2 ⟨λhm=>h.1 (Tm.2 ⟨x,hm,rfl⟩),Em f h.2⟩
theorem ac8{ts vs:List (List Int×Nat)}(hv:(vs.map (·.2)).Nodup)(ht:(ts.map (·.2)).Nodup)(mb:∀y∈vs,y∈ts)(eQ:∀y∈ts,y.2∈vs.map (·.2)):vs.Perm ts:=by
 have yV:vs.Nodup:=Em _ hv;have mJ:ts.Nodup:=Em _ ht;refine(List.perm_ext_iff_of_nodup yV mJ).2 λy=>⟨mb y,λhy=> ?_⟩;obtain⟨z,hz,e⟩:=Tm.1 (eQ y hy);have MS:=mb z hz;have:∀(l:List (List Int×Nat)),(l.map (·.2)).Nodup->z∈l->y∈l->z=y:=by
  intro l;induction l with
  |nil=>intro _ h;cases h
  |cons x l ih=>
   intro hn h1 h2;rw[U5,VX]at hn;rcases SK.1 h1 with e1|KJ
   ·rcases SK.1 h2 with e2|As
    ·rw[e1,e2]
    ·exact absurd (show x.2∈l.map (·.2)from Tm.2 ⟨y,As,by rw[<- e1];exact e.symm⟩) hn.1
   ·rcases SK.1 h2 with e2|As
    ·exact absurd (show x.2∈l.map (·.2)from Tm.2 ⟨z,KJ,by rw[<- e2];exact e⟩) hn.1
    ·exact ih hn.2 KJ As
 rw[<- this ts ht MS hy];exact hz
theorem Rp{y:List Int×Nat}:∀{ts:List (List Int×Nat)},(ts.map (·.2)).Nodup->y∈ts->(ts.map eF).toArray.find? (λe=>e.born==y.2)=some (eF y):=by
 intro ts hn hy;rw[List.find?_toArray];induction ts with
 |nil=>cases hy
 |cons z ts ih=>
  rw[U5,VX]at hn;rw[U5];by_cases h:z.2=y.2
  ·rw[List.find?_cons_of_pos (by simp[eF,h])];rcases SK.1 hy with e|p_
   ·rw[e]
   ·exact absurd (show z.2∈ts.map (·.2)from Tm.2 ⟨y,p_,h.symm⟩) hn.1
  ·rw[List.find?_cons_of_neg (by simp[eF,h])];rcases SK.1 hy with e|p_
   ·exact absurd (by rw[e]) h
   ·exact ih hn.2 p_
theorem acr(y:List Int×Nat):AV.of (eF y).key=.agg (y.1.map iv):=aoV y.1
section
variable {lv:Bool}{P:SI}
theorem ard{l:Nat}{r:avg}{V:View}(ho:V.own l=some (.loop r))(hs:r.state=.ready)(hc:V.role.chan≠some l):aR P V (do XL l;pure Next.skip) (λnx V'=>nx=.skip/\V'=V.upd l (.loop {r with state:=.busy})) (λ_ _=>False):=by
 unfold XL WM;refine az (az (az ?_));unfold getObj;refine oy ho rfl rfl hc (cM ?_);dsimp only;refine au ?_;refine az ?_;unfold setObj;refine zx ho rfl rfl hc (cM ?_);rw[hs];exact au (au ⟨rfl,rfl⟩)
theorem ari{l:Nat}{r:avg}{V:View}(qa:Option Ub)(ho:V.own l=some (.loop r))(hc:V.role.chan≠some l):aR P V (W_ l qa) (λv V'=>v=.bool qa.isNone/\V'=V.upd l (.loop {r with state:=if qa.isNone then .ready else .done,pending:=qa})) (λ_ _=>False):=by
 unfold W_ WM;refine az (az ?_);unfold getObj;refine oy ho rfl rfl hc (cM ?_);dsimp only;refine au ?_;refine az ?_;unfold setObj;refine zx ho rfl rfl hc (cM ?_);exact au ⟨rfl,rfl⟩
theorem arh{l:Nat}{r:avg}{V:View}(ho:V.own l=some (.loop r))(hs:r.state≠ .busy)(hc:V.role.chan≠some l):aR P V (ZW l) (λv V'=>v=r.pending/\V'=V.upd l (.loop {r with state:=.exhausted})) (λ_ _=>False):=by
 unfold ZW WM;refine az (az ?_);unfold getObj;refine oy ho rfl rfl hc (cM ?_);dsimp only;refine au ?_;have:(r.state==avf)=false:=by simpa using hs
 rw[if_neg (by rw[this];simp)];refine az ?_;unfold setObj;refine zx ho rfl rfl hc (cM ?_);exact au ⟨rfl,rfl⟩
theorem arj{fn:TS}{tmps:Array SQ}{ps:Array Tmp}{bO body:Ub}{V:View}:aR P V (W3 fn tmps ps bO body none) (λx V1=>∃d l,V.fresh d/\(V.upd d (.deferred (some []))).fresh l/\x=(l,[{target:=.collected d,args:=#[]}])/\
  V1=(V.upd d (.deferred (some []))).upd l (.loop {state:=.ready,pending:=none,fn,tmps,params:=ps,assign:=bO,body,defers:=d})) (λ_ _=>False):=by
 unfold W3;dsimp only;refine az ?_;unfold newObj;refine pi λd hd=>cM ?_;refine az (au ?_);dsimp only;refine az (pi λl hl=>cM (au ?_));exact⟨d,l,hd,hl,rfl,rfl⟩
theorem Oy{d:Nat}{V:View}(ho:V.own d=some (.deferred (some [])))(hc:V.role.chan≠some d):aR P V (Y9 d) (λv V'=>v=[]/\V'=V.upd d (.deferred none)) (λ_ _=>False):=by
 unfold Y9;refine az ?_;unfold getObj;refine oy ho rfl rfl hc (cM ?_);dsimp only;refine az ?_;unfold setObj;refine zx ho rfl rfl hc (cM ?_);exact au ⟨rfl,rfl⟩
def aeR (l:Nat)(R:Out->View->Prop):Ex->Act->View->Prop
 |.normal,_,V=>∃r,V.own l=some (.loop r)/\V.role.chan≠some l/\R (.ret (.bool true)) (V.upd l (.loop {r with state:=.ready,pending:=none}))
 |.ret,_,V=>∃r,V.own l=some (.loop r)/\V.role.chan≠some l/\R (.ret (.bool false)) (V.upd l (.loop {r with state:=.done,pending:=some .ret}))
 |.exit i,_,V=>∃r,V.own l=some (.loop r)/\V.role.chan≠some l/\R (.ret (.bool false)) (V.upd l (.loop {r with state:=.done,pending:=some (.exit i)}))
 |.goto i,_,V=>∃r,V.own l=some (.loop r)/\V.role.chan≠some l/\R (.ret (.bool false)) (V.upd l (.loop {r with state:=.done,pending:=some (.goto i)}))
 |.panic ch,a,V=>a.defers=[]/\R (.panic ch) V
def aeP (lv:Bool)(P:SI)(l:Nat)(body:Ub)(R:Out->View->Prop):Ex->Act->View->Prop
 |.normal,a,V=>∃r,V.own l=some (.loop r)/\V.role.chan≠some l/\r.state=.ready/\WP lv P (some l) body (aeR l R) a (V.upd l (.loop {r with state:=.busy}))
 |_,_,_=>False
theorem aqS{l f:Nat}{tmps:Array SQ}{bO body:Ub}{V:View}{R:Out->View->Prop}(h:WP lv P (some l) bO (aeP lv P l body R) {tmps,defers:=[]} V):nC lv P (Xe l f tmps bO body .normal) V R:=by
 intro main J C c cs h1 h2;let b:Uf:={(default:Uf)with fn:=f,kind:=.normal,roundOf:=some l};have amq:Xe l f tmps bO body .normal=on b {tmps,defers:=[]} [.code bO,.beginRound,.code body]:=rfl;rw[amq];have leave:∀(a:Act)(V':View)(r:avg)(qa:Option Ub)(todo:List WX),V'.own l=some (.loop r)->V'.role.chan≠some l->R (.ret (.bool qa.isNone)) (V'.upd l (.loop {r with state:=if qa.isNone then .ready else .done,pending:=qa}))->
   (∀w,stepG P main (G (on b a todo) (c::cs)) w=T_ (seen P b.fn ((W_ l qa).runT P w #[]).2) (match((W_ l qa).runT P w #[]).1 with
    |.ok v w=>doReturn P main (on b a todo) (c::cs) none v w
    | .halt _ w => .ended (.stuck "range over a function: no such loop" ((on b a todo).pos P)) w)) -> J V' (G (on b a todo) (c :: cs)) := by
  intro a V' r qa todo ho ff hR aP;refine C.step _ _ rfl λw fE=> ?_;obtain⟨es,w',aU,k1,k2,k3⟩:=(ari (P:=P) qa ho ff).runs fE;rcases k3 with⟨v,k3,rfl,rfl⟩|⟨_,_,hx⟩
  ·refine⟨G (c.finish (.bool qa.isNone)) cs,w',seen P b.fn es,_,?_,k1.seen P b.fn,h1 _ _ hR⟩;rw[aP w];simp[TE,k3,k2,doReturn,T_,on,b,G]
  ·exact hx.elim
 refine h main J C b [.beginRound,.code body] (c::cs) (by show Y'≠Vb;decide) rfl λe a' V' q=> ?_;cases e with
 |normal=>
  obtain⟨r,ho,ff,hs,hw⟩:=q;refine C.step _ _ rfl λw fE=> ?_;obtain⟨es,w',aU,k1,k2,k3⟩:=(ard (P:=P) ho hs ff).runs fE;rcases k3 with⟨nx,k3,rfl,rfl⟩|⟨_,_,hx⟩
  ·refine⟨G (on b a' [.code body]) (c::cs),w',seen P b.fn es,_,?_,k1.seen P b.fn,?_⟩
   ·have:stepG P main (G (on b a' [.beginRound,.code body]) (c::cs)) w=stepG.apply P true (on b a' [.beginRound,.code body]) (c::cs) none (do XL l;pure Next.skip) w:=by
     simp[G,stepG,Uk,on,b]
    rw[this];have ki:((on b a' [.beginRound,.code body]).kind==Vb)=false:=(by simp[on,b]);simp only[stepG.apply,TE,if_true,k3,k2,ki,T_];rfl
   ·refine hw main J C b [] (c::cs) (by show Y'≠Vb;decide) rfl λe cw aU q=> ?_;cases e with
    |normal=>
     obtain⟨r',bi,nV,hR⟩:=q;refine leave cw aU r' none [] bi nV hR λw=> ?_;simp[G,stepG,Uk,on,b];rfl
    |ret=>
     obtain⟨r',bi,nV,hR⟩:=q;intro k;refine leave cw aU r' (some .ret) _ bi nV hR λw=> ?_;simp[G,stepG,Uk,on,b];rfl
    |exit i=>
     obtain⟨r',bi,nV,hR⟩:=q;refine .inr ⟨rfl,λk2 cL=> ?_⟩;refine leave cw aU r' (some (.exit i)) _ bi nV hR λw=> ?_;simp[G,stepG,Uk,on,b,cL];rfl
    |goto i=>
     obtain⟨r',bi,nV,hR⟩:=q;refine .inr ⟨rfl,λk2 cL=> ?_⟩;refine leave cw aU r' (some (.goto i)) _ bi nV hR λw=> ?_;simp[G,stepG,Uk,on,b,cL];rfl
    |panic ch=>
     obtain⟨hd,hR⟩:=q;intro todo amG;refine C.idle rfl (λw=> ?_) (h2 _ _ hR);have akU:Z4 P {on b cw todo with mode:=.panicking ch}=false:=by
      unfold Z4
      match todo,amG with
      |.call .. ::_,h=>cases h
      |[],_=>split<;>simp_all[on]
      |x::k,_=>cases x<;>(split<;>simp_all[on,ab8])
     have bB:({on b cw todo with mode:=.panicking ch}:Uf).defers=[]:=hd;simp only[G,stepG,unwind,bB,akU];simp
  ·exact hx.elim
 |_=>exact q.elim
def mark (a:Act)(d:Nat):Act:={a with defers:={target:=.collected d,args:=#[]}::a.defers}
def xM (l:Nat)(Q:Ex->Act->View->Prop)(a:Act):Out->View->Prop
 |.ret _,V=>∃r,V.own l=some (.loop r)/\V.role.chan≠some l/\r.state≠ .busy/\(match r.pending with
  |none=>Q .normal a (V.upd l (.loop {r with state:=.exhausted}))
  |some .ret=>Q .ret a (V.upd l (.loop {r with state:=.exhausted}))
  |some (.exit i)=>Q (.exit i) a (V.upd l (.loop {r with state:=.exhausted}))
  |some (.goto i)=>Q (.goto i) a (V.upd l (.loop {r with state:=.exhausted}))
  |_=>False)
 |.panic ch,V=>Q (.panic ch) a V
abbrev Fw (l d:Nat)(Q:Ex->Act->View->Prop)(a:Act):Out->View->Prop:=xM l Q (mark a d)
theorem acU{rr:Option Nat}{f:Tj}{ps:Array Tmp}{bO body:Ub}{Q:Ex->Act->View->Prop}{a a1:Act}{V1:View}{l:Nat}{main:Bool}{J:View->SG->Prop}(C:Closed lv P main J){b:Uf}{k:List WX}{cs:List Uf}(hb:b.kind≠ .early)(hr:b.roundOf=rr)(hL:∀e a' V',Q e a' V'->wi J b k cs e a' V'){w w1:Tq}{es:Array Uu}{V:View}
  (h:aR P V1 (do let dd<- U_ (a.eval f) #[.func (.yield l) #[] #[]];invoke dd.target dd.args) (λnx V'=>Nx lv P (xM l Q a1) nx V') (λv V'=>xM l Q a1 (.panic [{v,recovered:=false}]) V'))
  (s1:dh V w V1 w1 (fN es)) (aP:stepG P main (G (on b a (.code (.rangeFunc f ps bO body)::k)) cs) w=T_ (seen P b.fn es) (stepG.apply P true (on b a1 (.inRangeFunc l::k)) cs none (do let dd<- U_ (a.eval f) #[.func (.yield l) #[] #[]];invoke dd.target dd.args) w1)):
  ∃g' w' es V',stepG P main (G (on b a (.code (.rangeFunc f ps bO body)::k)) cs) w=.go g' w' es/\dh V w V' w' es/\J V' g':=by
 have fin:∀(v:SQ)(V':View),xM l Q a1 (.ret v) V'->J V' (G (on b a1 (.endRangeFunc l::k)) cs):=by
  intro v V' ⟨r,ho,ff,hs,hq⟩;refine C.step _ _ rfl λw fE=> ?_;obtain⟨es,w',aU,k1,k2,k3⟩:=(arh (P:=P) ho hs ff).runs fE;rcases k3 with⟨x,k3,rfl,rfl⟩|⟨_,_,hx⟩
  ·refine⟨G (on b a1 ((r.pending.map Item.code).toList++k)) cs,w',seen P b.fn es,_,?_,k1.seen P b.fn,?_⟩
   ·simp[G,stepG,Uk,on,TE,k3,k2,T_]
   ·generalize r.pending=pe at hq⊢
    match pe,hq with
    |none,hq=>exact hL _ _ _ hq
    |some .ret,hq=>exact hL _ _ _ hq _
    |some (.exit i),hq=>exact abq C (hL _ _ _ hq)
    |some (.goto i),hq=>exact am2 C (hL _ _ _ hq)
  ·exact hx.elim
 obtain⟨nO,w2,V2,t1,t2,t3⟩:=h.runs s1.sat;have ki:((on b a1 (.inRangeFunc l::k)).kind==Vb)=false:=by simpa[on]using hb
 rw[aP];rcases t3 with⟨nx,t3,hU⟩|⟨v,t3,hU⟩
 ·cases nx with
  |value v=>exact⟨_,w2,seen P b.fn es++seen P b.fn nO,V2,by simp only[stepG.apply,TE,if_true,t3,t2,ki,T_];rfl,(s1.seen P _).trans (t1.seen P _),fin v _ hU⟩
  |skip=>exact⟨_,w2,seen P b.fn es++seen P b.fn nO,V2,by simp only[stepG.apply,TE,if_true,t3,t2,ki,T_];rfl,(s1.seen P _).trans (t1.seen P _),fin undef _ hU⟩
  |enter g args=>
   refine⟨G (Frame.enter P g args .normal) (on b a1 (.inRangeFunc l::k)::cs),w2,seen P b.fn es++seen P b.fn nO,V2,by simp only[stepG.apply,TE,if_true,t3,t2,ki,T_];rfl,(s1.seen P _).trans (t1.seen P _),?_⟩;refine Body.runs hU main J C _ cs (λv aU hR=> ?_) (λch aU hR=> ?_)
   ·exact fin v _ hR
   ·exact hL _ _ _ hR _ rfl
  |round l2 f2 asW as2 b2=>
   refine⟨G (Xe l2 f2 asW as2 b2 .normal) (on b a1 (.inRangeFunc l::k)::cs),w2,seen P b.fn es++seen P b.fn nO,V2,by simp only[stepG.apply,TE,if_true,t3,t2,ki,T_];rfl,(s1.seen P _).trans (t1.seen P _),?_⟩;refine hU main J C _ cs (λv aU hR=> ?_) (λch aU hR=> ?_)
   ·exact fin v _ hR
   ·exact hL _ _ _ hR _ rfl
  |_=>exact hU.elim
 ·exact⟨_,w2,seen P b.fn es++seen P b.fn nO,V2,by simp only[stepG.apply,TE,if_true,t3,t2,ki,T_];rfl,(s1.seen P _).trans (t1.seen P _),hL _ _ _ hU _ rfl⟩
theorem aeA{f:Tj}{ps:Array Tmp}{bO body:Ub}{Q:Ex->Act->View->Prop}{a:Act}{V:View}
  (h:∀(fn d l:Nat),V.fresh d->(V.upd d (.deferred (some []))).fresh l->aR P ((V.upd d (.deferred (some []))).upd l (.loop {state:=.ready,pending:=none,fn,tmps:=a.tmps,params:=ps,assign:=bO,body,defers:=d}))
   (do let dd<- U_ (a.eval f) #[.func (.yield l) #[] #[]];invoke dd.target dd.args) (λnx V'=>Nx lv P (Fw l d Q a) nx V') (λv V'=>Fw l d Q a (.panic [{v,recovered:=false}]) V')):WP lv P none (.rangeFunc f ps bO body) Q a V:=by
 intro main J C b k cs hb hr hL;refine C.step _ _ rfl λw fE=> ?_;obtain⟨es,w1,V1,s1,s2,s3⟩:=(arj (P:=P) (fn:=b.fn) (tmps:=a.tmps) (ps:=ps) (bO:=bO) (body:=body)).runs fE;rcases s3 with⟨x,s3,d,l,hd,hl,rfl,rfl⟩|⟨_,_,hx⟩
 ·refine acU C hb hr hL (h b.fn d l hd hl) s1 ?_;have ce:∀(todo:List WX)(x:Tj),(on b (mark a d) todo).eval x=a.eval x:=λtodo x=>by rw[HX];cases x<;>rfl
  have e:=ce (.inRangeFunc l::k) f;have e2:=ce (.inRangeFunc l::k) (.const (.func (.yield l) #[] #[]));simp only[on,mark]at e e2;simp[G,stepG,Uk,on,TE,s3,s2,hr,mark,resolve];rw[hr]at e;rw[e];rfl
 ·exact hx.elim
theorem ark{fn:TS}{tmps:Array SQ}{ps:Array Tmp}{bO body:Ub}{V:View}{l0:Nat}{r0:avg}(ho:V.own l0=some (.loop r0))(hc:V.role.chan≠some l0):aR P V (W3 fn tmps ps bO body (some l0)) (λx V1=>∃l,V.fresh l/\x=(l,[])/\
  V1=V.upd l (.loop {state:=.ready,pending:=none,fn,tmps,params:=ps,assign:=bO,body,defers:=r0.defers})) (λ_ _=>False):=by
 unfold W3 WM;dsimp only;refine az (az ?_);unfold getObj;refine oy ho rfl rfl hc (cM ?_);dsimp only;refine au (az (au ?_));dsimp only;refine az ?_;unfold newObj;refine pi λl hl=>cM (au ?_);exact⟨l,hl,rfl,rfl⟩
theorem atA{f:Tj}{ps:Array Tmp}{bO body:Ub}{Q:Ex->Act->View->Prop}{a:Act}{V:View}{l0:Nat}{r0:avg}(ho:V.own l0=some (.loop r0))(hc:V.role.chan≠some l0)
  (h:∀(fn l:Nat),V.fresh l->aR P (V.upd l (.loop {state:=.ready,pending:=none,fn,tmps:=a.tmps,params:=ps,assign:=bO,body,defers:=r0.defers}))
   (do let dd<- U_ (a.eval f) #[.func (.yield l) #[] #[]];invoke dd.target dd.args) (λnx V'=>Nx lv P (xM l Q a) nx V') (λv V'=>xM l Q a (.panic [{v,recovered:=false}]) V')):WP lv P (some l0) (.rangeFunc f ps bO body) Q a V:=by
 intro main J C b k cs hb hr hL;refine C.step _ _ rfl λw fE=> ?_;obtain⟨es,w1,V1,s1,s2,s3⟩:=(ark (P:=P) (fn:=b.fn) (tmps:=a.tmps) (ps:=ps) (bO:=bO) (body:=body) ho hc).runs fE;rcases s3 with⟨x,s3,l,hl,rfl,rfl⟩|⟨_,_,hx⟩
 ·refine acU C hb hr hL (h b.fn l hl) s1 ?_;have e:=HX b a (.inRangeFunc l::k) f;simp only[on]at e;simp[G,stepG,Uk,on,TE,s3,s2,hr,resolve];rw[hr]at e;rw[e];rfl
 ·exact hx.elim
theorem Conc.zA{E:Env}{V:View}{H:List aa}(hc:Conc E V H){id r fn nt df:Nat}{st:ad_}{pe:Option Ub}{T:List (Nat×AV)}{ps:Array Tmp}{bO body:Ub}(hk:H[id]?=some (.loop r st pe fn T nt ps bO body df)):
  E.blk id=r/\V.role.chan≠some r/\∃tmps,V.own r=some (.loop {state:=st,pending:=pe,fn,tmps,params:=ps,assign:=bO,body,defers:=E.blk df})/\tmps.size=nt/\cu E T tmps/\
   ∀st' xp,Conc E (V.upd r (.loop {state:=st',pending:=xp,fn,tmps,params:=ps,assign:=bO,body,defers:=E.blk df})) (H.set id (.loop r st' xp fn T nt ps bO body df)):=by
 obtain⟨⟨tmps,p1,p2,p3⟩,p4,p5,p6⟩:=hc.obj id _ hk;have ff:=(hc.jv hk (b:=E.blk id) rfl).2;subst p6;refine⟨rfl,ff,tmps,p1,p2,p3,λst' xp=> ?_⟩;refine hc.iQ id (.loop (E.blk id) st' xp fn T nt ps bO body df) (Env.Le.refl E) hc.I (by simpa using hc.n) lM rfl (λ_ _ _=>rfl) (λb z hb hz=>⟨?_,λ_=>rfl⟩) ⟨⟨tmps,by simp[View.upd],p2,p3⟩,p4,p5,rfl⟩ (λb h=> .inl ⟨_,hk,h⟩);have:b≠E.blk id:=λe=>hb _ hk (by rw[e];rfl);simpa[View.upd,this]using hz
theorem Conc.EH{E:Env}{V:View}{H:List aa}(hc:Conc E V H){id:Nat}(x:aa)(hk:H[id]?=some x)(y:Obj){b:Nat}(hb:bP E id x=some b):Conc E (V.upd b y) (H.set id .gone):=by
 refine hc.iQ id .gone (Env.Le.refl E) hc.I (by simpa using hc.n) lM rfl (λ_ _ _=>rfl) (λb' z dI hz=>⟨?_,λ_=>rfl⟩) trivial (λb h=>by cases h);have:b'≠b:=λe=>dI _ hk (by rw[e];exact hb);simpa[View.upd,this]using hz
def sP:List Nat->List AV->List (Nat×AV)->List (Nat×AV)
 |t::ts,a::aF,T=>sP ts aF ((t,a)::T)
 |_,_,T=>T
theorem aeF{E:Env}{nt:Nat}:∀(ts:List Nat)(aF:List AV)(vs:List SQ)(T:List (Nat×AV))(tmps:Array SQ),vs.length=aF.length->(∀(i:Nat) a,aF[i]?=some a->ap E a (vs.getD i undef))->(∀t∈ts,t<nt)->tmps.size=nt->cu E T tmps->
  cu E (sP ts aF T) ((ts.zip vs).foldl (λtmps (x:Nat×SQ)=>tmps.setIfInBounds x.1 x.2) tmps)/\((ts.zip vs).foldl (λtmps (x:Nat×SQ)=>tmps.setIfInBounds x.1 x.2) tmps).size=nt
 |[],aF,vs,T,tmps,_,_,_,hs,hT=>by cases aF<;>cases vs<;>exact⟨hT,hs⟩
 |t::ts,[],[],T,tmps,_,_,_,hs,hT=>⟨hT,hs⟩
 |t::ts,[],_::_,T,tmps,h,_,_,hs,hT=>by cases h
 |t::ts,_::_,[],T,tmps,h,_,_,hs,hT=>by cases h
 |t::ts,a::aF,v::vs,T,tmps,hl,hd,ht,hs,hT=>by
  have h0:ap E a v:=by simpa using hd 0 a rfl
  have h1:t<tmps.size:=by rw[hs];exact ht t (by simp)
  exact aeF ts aF vs ((t,a)::T) (tmps.setIfInBounds t v) (by simpa using hl) (λi x hx=>by simpa using hd (i+1) x (by simpa using hx)) (λx hx=>ht x (by simp[hx])) (by simpa using hs) (hT.put h1 h0)
def py (id n:Nat)(k:AV->List aa->Prop)(st':ad_)(xp:Option Ub)(b:Bool)(s:AS):Prop:=∃r st pe fn T nt ps bO body df,s.H[id]?=some (.loop r st pe fn T nt ps bO body df)/\cJ n (s.H.set id (.loop r st' xp fn T nt ps bO body df)) (.val (.bool b)) k
def aeQ (id n:Nat)(k kp:AV->List aa->Prop):an->AS->Prop
 |.normal,s=>py id n k .ready none true s
 |.ret,s=>py id n k .done (some .ret) false s
 |.exit i,s=>py id n k .done (some (.exit i)) false s
 |.goto i,s=>py id n k .done (some (.goto i)) false s
 |.panic pv,s=>cJ n s.H pv kp
def uK (lv:Bool)(P:SI)(l nt id n:Nat)(body:Ub)(k kp:AV->List aa->Prop):an->AS->Prop
 |.normal,s=>∃pe fn T jw ps bO fz df,s.H[id]?=some (.loop l .ready pe fn T jw ps bO fz df)/\aQ lv P (some l) nt body ⟨s.T,s.H.set id (.loop l .busy pe fn T jw ps bO fz df)⟩ (aeQ id n k kp)
 |_,_=>False
theorem wA{l id fn nt df:Nat}{pe:Option Ub}{T:List (Nat×AV)}{ps:Array Tmp}{bO body:Ub}{H:List aa}{args:List AV}{k kp:AV->List aa->Prop}(bZ:H[id]?=some (.loop l .ready pe fn T nt ps bO body df))(hlen:args.length=ps.size)(o1:ps.all (·<nt)=true)
  (h:bF H->(∀a∈args,Lt H.length a)->aQ lv P (some l) nt bO ⟨sP ps.toList args T,H⟩ (uK lv P l nt id H.length body k kp)):je lv P (.fn (.yield l) [] []) H args k kp:=by
 intro E V cv vs hc hd pM;cases hd with
 |fn dW f_ h1 h2=>
  rename_i fa ca;have e1:fa=#[]:=by apply VH;simpa using dW
  subst e1;have hlt:∀a∈args,Lt H.length a:=λa ha=>by
   obtain⟨i,hi⟩:=qe ha;rw[<- hc.n];exact(pM.2 i a hi).lt
  obtain⟨hb,ff,tmps,ho,aY,hT,_⟩:=hc.zA bZ;unfold U_;refine az (au ?_);unfold invoke;dsimp only;unfold Instr.yield WM;refine az (az ?_);unfold getObj;refine oy ho rfl rfl ff (cM ?_);dsimp only;refine au ?_;have mh:(#[]++vs).size=ps.size:=by simp[pM.1,hlen]
  rw[if_neg (by simp[pM.1,hlen])];refine au ?_;show nC lv P _ V (gW E V k kp);have hz:=aeF (nt:=nt) ps.toList args vs.toList T tmps (by simpa using pM.1) (λi a e=>by
   have:=pM.2 i a e;simpa[SH,SE]using this) (λt ht=>by
    have:=(UQ.1 o1) t (by simpa using ht);simpa using this) aY hT
  have ah3:(ps.zip (#[]++vs)).foldl (λtmps (x:Nat×SQ)=>tmps.setIfInBounds x.1 x.2) tmps=(ps.toList.zip vs.toList).foldl (λtmps (x:Nat×SQ)=>tmps.setIfInBounds x.1 x.2) tmps:=by
   rw[<- Array.foldl_toList,Array.toList_zip];simp
  have ah4:Array.foldl (λtmps x=>match x with|(t,a)=>tmps.setIfInBounds t a) tmps (ps.zip (#[]++vs))=(ps.toList.zip vs.toList).foldl (λtmps (x:Nat×SQ)=>tmps.setIfInBounds x.1 x.2) tmps:=ah3;rw[ah4];refine aqS ?_;refine h hc.aq hlt E V _ _ ⟨hc,hz.1,hz.2⟩ λae e E' V' a' s' hk aV he hΦ=> ?_;cases ae<;>cases e<;>first
   |exact he.elim
   |exact hΦ.elim
   |skip
  obtain⟨xp,fI,T',jw,gE,gn,fz,gq,als,hw⟩:=hΦ;obtain⟨dI,nV,rn,bi,Mv,tF,ub⟩:=aV.bw.zA als;refine⟨_,bi,nV,rfl,?_⟩;refine hw E' _ a' _ ⟨ub .busy xp,aV.tok,aV.size⟩ λae e bT aU cw dn cL di Dd Ho=> ?_;have fin:∀(st':ad_)(Ia:Option Ub)(b:Bool),(∃r st pe fn T nt ps bO body df,dn.H[id]?=some (.loop r st pe fn T nt ps bO body df)/\cJ H.length (dn.H.set id (.loop r st' Ia fn T nt ps bO body df)) (.val (.bool b)) k)->
    ∃r,aU.own l=some (.loop r)/\aU.role.chan≠some l/\gW E V k kp (.ret (.bool b)) (aU.upd l (.loop {r with state:=st',pending:=Ia})):=by
   intro st' Ia b ⟨r,st,pe3,fn3,T3,nt3,Og,auj,aus,df3,alt,tN⟩;obtain⟨Gr,akY,avc,L8,auV,hT3,amx⟩:=di.bw.zA alt;have hlt:id<E.n:=(by rw[hc.n];exact(SN.1 bZ).1);have hle:E.Le bT:=hk.le.trans cL.le;have hr:r=l:=(by rw[<- Gr,<- hb];exact hle.blk id hlt);subst hr;obtain⟨x,E4,H4,q1,q2,q3,q4⟩:=x_ tN (amx st' Ia) (.val _) hle hc.n;exact⟨_,L8,akY,x,E4,H4,q1,cL.role.trans hk.role,cL.deaf.trans hk.deaf,q2,q3,q4⟩
  cases ae<;>cases e<;>first
   |exact Dd.elim
   |exact fin .ready none true Ho
   |exact fin .done (some .ret) false Ho
   |(have e:_=_:=Dd
     subst e;exact fin .done _ false Ho)
   |skip
  obtain⟨v,akX,bt⟩:=Dd;subst akX;obtain⟨x,E4,H4,q1,q2,q3,q4⟩:=x_ Ho di.bw bt (hk.le.trans cL.le) hc.n;refine⟨by rw[cL.defers,hk.defers],x,v,E4,H4,rfl,q1,cL.role.trans hk.role,cL.deaf.trans hk.deaf,q2,q3,q4⟩
def Marks (E:Env)(ms:List Nat)(l:List U3):Prop:=l=ms.map (λi=>({target:=.collected (E.blk i),args:=#[]}:U3))/\∀i∈ms,i<E.n
theorem Marks.mono{E E':Env}(h:E.Le E'){ms:List Nat}{l:List U3}(k:Marks E ms l):Marks E' ms l:=
 ⟨by rw[k.1];exact VF λi hi=>by rw[h.blk i (k.2 i hi)],λi hi=>Te (k.2 i hi) h.n⟩
def mW (lv:Bool)(P:SI)(nt:Nat)(c:Ub)(s:AS)(ms:List Nat)(Φ:an->AS->List Nat->Prop):Prop:=
 ∀(E:Env)(V:View)(a:Act)(Q:Ex->Act->View->Prop),At E V s a nt->Marks E ms a.defers->(∀ae e E' V' a' s' cH,rB E E' V V' a a'->At E' V' s' a' nt->Marks E' cH a'.defers->qn E' ae e->Φ ae s' cH->Q e a' V')->WP lv P none c Q a V
variable {s:AS}{ms:List Nat}{nt:Nat}
theorem Jp{c:Ub}{Φ:an->AS->List Nat->Prop}(h:aQ lv P none nt c s λe s'=>Φ e s' ms):mW lv P nt c s ms Φ:=λE V a Q ai hd hQ=>
 h E V a Q ai λae e E' V' a' s' hk aV he hΦ=>hQ ae e E' V' a' s' ms hk.d aV (by rw[hk.defers];exact hd.mono hk.le) he hΦ
def an.sK (next:AS->List Nat->Prop)(Φ:an->AS->List Nat->Prop):an->AS->List Nat->Prop
 |.normal,s,ms=>next s ms
 |e,s,ms=>Φ e s ms
theorem Jq{x y:Ub}{Φ:an->AS->List Nat->Prop}(h:mW lv P nt x s ms (an.sK (λs' cH=>mW lv P nt y s' cH Φ) Φ)):mW lv P nt (.seq x y) s ms Φ:=by
 intro E V a Q ai hd hQ;refine wp_seq (h E V a _ ai hd λae e E' V' a' s' cH hk aV cF he hΦ=> ?_);cases ae<;>cases e<;>first
  |exact he.elim
  |exact hΦ E' V' a' Q aV cF λae e bT aU cw dn Ei aJ di AG kG ug=>hQ ae e bT aU cw dn Ei (hk.trans aJ) di AG kG ug
  |exact hQ _ _ E' V' a' s' cH hk aV cF he hΦ
theorem nJ{x y:Ub}{Φ:an->AS->List Nat->Prop}(h:aQ lv P none nt x s (an.then (λs'=>mW lv P nt y s' ms Φ) λe s'=>Φ e s' ms)):mW lv P nt (.seq x y) s ms Φ:=by
 refine Jq (Jp (h.mono λe s' hs=> ?_));cases e<;>exact hs
def sZ (Φ:an->AS->List Nat->Prop)(s:AS)(ms:List Nat):Option Ub->Prop
 |none=>Φ .normal s ms
 |some .ret=>Φ .ret s ms
 |some (.exit i)=>Φ (.exit i) s ms
 |some (.goto i)=>Φ (.goto i) s ms
 |_=>False
theorem agC{f:Tj}{ps:Array Tmp}{bO body:Ub}{fv:AV}{Φ:an->AS->List Nat->Prop}(hf:s.ev f=some fv)
  (h:∀l fn:Nat,je lv P fv (s.H++[.obj (.deferred (some [])),.loop l .ready none fn s.T nt ps bO body s.H.length]) [.fn (.yield l) [] []]
   (λ_ H'=>∃st pe fI T' jw gE gn fz gq,H'[s.H.length+1]?=some (.loop l st pe fI T' jw gE gn fz gq)/\st≠ .busy/\sZ Φ ⟨s.T,H'.set (s.H.length+1) .gone⟩ (s.H.length::ms) pe)
   (λpv H'=>Φ (.panic pv) ⟨s.T,H'⟩ (s.H.length::ms))):mW lv P nt (.rangeFunc f ps bO body) s ms Φ:=by
 intro E V a Q ai hm hQ;refine aeA λfn d l hd hl=> ?_;have hc:=ai.bw;have du:Conc (E.add d V.ab) (V.upd d (.deferred (some []))) (s.H++[.obj (.deferred (some []))]):=by
  refine hc.add hd _ ⟨?_,rfl,rfl,λo=> ?_⟩ (λb e=> ?_)
  ·rw[Env.dQ];simp[View.upd]
  ·rw[Env.dQ];exact hd.2 o
  ·simp only[bP,Env.dQ,Tl]at e;exact e.symm
 have Dm:E.Le (E.add d V.ab):=E.q_ d (λb o v h=>by rw[<- hc.I];exact h);have C6:(E.add d V.ab).blk s.H.length=d:=by rw[<- hc.n];exact E.dQ d _
 let E1:=E.add d V.ab;let V1:=V.upd d (.deferred (some []));have pU:E1.n=s.H.length+1:=by rw[du.n];simp
 have qO:E1.Le (E1.add l V1.ab):=E1.q_ l (λb o v h=>by rw[<- du.I];exact h);have cq:Conc (E1.add l V1.ab) (V1.upd l (.loop {state:=.ready,pending:=none,fn,tmps:=a.tmps,params:=ps,assign:=bO,body,defers:=d})) ((s.H++[.obj (.deferred (some []))])++[.loop l .ready none fn s.T nt ps bO body s.H.length]):=by
  refine du.add hl _ ⟨⟨a.tmps,?_,ai.size,(ai.tok.mono Dm).mono qO⟩,?_,λo=> ?_,?_⟩ (λb e=> ?_)
  ·have e:(E1.add l V1.ab).blk s.H.length=d:=(by rw[qO.blk s.H.length (by rw[pU];omega)];exact C6);rw[e,Env.dQ];simp[View.upd]
  ·show s.H.length<E1.n+1;omega
  ·rw[Env.dQ];exact hl.2 o
  ·exact Env.dQ _ _ _
  ·simp only[bP,Env.dQ,Tl]at e;exact e.symm
 have hle:E.Le (E1.add l V1.ab):=Dm.trans qO;have cR:(E1.add l V1.ab).blk (s.H.length+1)=l:=by rw[<- pU];exact E1.dQ l _
 have K_:(E1.add l V1.ab).blk s.H.length=d:=by rw[qO.blk s.H.length (by rw[pU];omega)];exact C6
 rw[SC]at cq;have se:∀E',(E1.add l V1.ab).Le E'->Marks E' (s.H.length::ms) (mark a d).defers:=λE' hE=>by
  refine Marks.mono hE ⟨?_,λi hi=> ?_⟩
  ·have:=(hm.mono hle).1;simp only[mark,U5,K_];rw[<- this]
  ·rcases SK.1 hi with rfl|hi
   ·show _<E1.n+1;omega
   ·exact Te (hm.2 i hi) hle.n
 have bB:=ap.ev ai.tok hf;have C8:=h l fn (E1.add l V1.ab) (V1.upd l (.loop {state:=.ready,pending:=none,fn,tmps:=a.tmps,params:=ps,assign:=bO,body,defers:=d})) (a.eval f) #[.func (.yield l) #[] #[]] cq (bB.mono hle) ⟨rfl,λi x hx=>by
  match i,hx with
  |0,hx=>cases hx;exact .fn rfl rfl (by simp) (by simp)⟩
 have key:∀o V',gW (E1.add l V1.ab) (V1.upd l (.loop {state:=.ready,pending:=none,fn,tmps:=a.tmps,params:=ps,assign:=bO,body,defers:=d}))
   (λ_ H'=>∃st pe fI T' jw gE gn fz gq,H'[s.H.length+1]?=some (.loop l st pe fI T' jw gE gn fz gq)/\st≠ .busy/\sZ Φ ⟨s.T,H'.set (s.H.length+1) .gone⟩ (s.H.length::ms) pe)
   (λpv H'=>Φ (.panic pv) ⟨s.T,H'⟩ (s.H.length::ms)) o V'->Fw l d Q a o V':=by
  intro o V' hr;cases o with
  |ret v=>
   obtain⟨av,E',H',hE,cp,fg,_,bp,st,pe,fI,T',jw,gE,gn,fz,gq,bZ,aP,hp⟩:=hr;obtain⟨dI,nV,rn,bi,Mv,tF,ub⟩:=bp.zA bZ;refine⟨_,bi,nV,aP,?_⟩;have hg:Conc E' (V'.upd l (.loop {state:=.exhausted,pending:=pe,fn:=fI,tmps:=rn,params:=gE,assign:=gn,body:=fz,defers:=E'.blk gq})) (H'.set (s.H.length+1) .gone):=bp.EH _ bZ _ (by simp only[bP,dI]);have aV:At E' (V'.upd l (.loop {state:=.exhausted,pending:=pe,fn:=fI,tmps:=rn,params:=gE,assign:=gn,body:=fz,defers:=E'.blk gq})) ⟨s.T,H'.set (s.H.length+1) .gone⟩ (mark a d) nt:=⟨hg,ai.tok.mono (hle.trans hE),ai.size⟩;have eD:rB E E' V (V'.upd l (.loop {state:=.exhausted,pending:=pe,fn:=fI,tmps:=rn,params:=gE,assign:=gn,body:=fz,defers:=E'.blk gq})) a (mark a d):=⟨hle.trans hE,rfl,cp,fg⟩;dsimp only
   match pe,hp,aV,eD with
   |none,hp,aV,eD=>exact hQ .normal .normal E' _ _ _ _ eD aV (se E' hE) trivial hp
   |some .ret,hp,aV,eD=>exact hQ .ret .ret E' _ _ _ _ eD aV (se E' hE) trivial hp
   |some (.exit i),hp,aV,eD=>exact hQ (.exit i) (.exit i) E' _ _ _ _ eD aV (se E' hE) rfl hp
   |some (.goto i),hp,aV,eD=>exact hQ (.goto i) (.goto i) E' _ _ _ _ eD aV (se E' hE) rfl hp
  |panic ch=>
   obtain⟨pv,v,E',H',rfl,hE,cp,fg,bt,bp,hp⟩:=hr;exact hQ (.panic pv) (.panic _) E' V' (mark a d) ⟨s.T,H'⟩ _ ⟨hle.trans hE,rfl,cp,fg⟩ ⟨bp,ai.tok.mono (hle.trans hE),ai.size⟩ (se E' hE) ⟨v,rfl,bt⟩ hp
 exact C8.mono (λnx V' hn=>Nx.mono key hn) (λv V' hr=>key _ _ hr)
def uJ (Φ:an->AS->Prop)(s:AS):Option Ub->Prop
 |none=>Φ .normal s
 |some .ret=>Φ .ret s
 |some (.exit i)=>Φ (.exit i) s
 |some (.goto i)=>Φ (.goto i) s
 |_=>False
theorem agr{f:Tj}{ps:Array Tmp}{bO body:Ub}{fv:AV}{Φ:an->AS->Prop}{l0 Hq KD NJ df:Nat}{OJ:ad_}{NX:Option Ub}{T0:List (Nat×AV)}{Of:Array Tmp}{Jk Jx:Ub}(hf:s.ev f=some fv)(h0:s.H[Hq]?=some (.loop l0 OJ NX KD T0 NJ Of Jk Jx df))
  (h:∀l fn:Nat,je lv P fv (s.H++[.loop l .ready none fn s.T nt ps bO body df]) [.fn (.yield l) [] []]
   (λ_ H'=>∃st pe fI T' jw gE gn fz gq,H'[s.H.length]?=some (.loop l st pe fI T' jw gE gn fz gq)/\st≠ .busy/\uJ Φ ⟨s.T,H'.set s.H.length .gone⟩ pe)
   (λpv H'=>Φ (.panic pv) ⟨s.T,H'⟩)):aQ lv P (some l0) nt (.rangeFunc f ps bO body) s Φ:=by
 intro E V a Q ai hQ;have hc:=ai.bw;obtain⟨qI,akW,avb,ho0,Mw,hT0,_⟩:=hc.zA h0;obtain⟨_,bB,_⟩:=hc.obj Hq _ h0;refine atA ho0 akW λfn l hl=> ?_;have hle:E.Le (E.add l V.ab):=E.q_ l (λb o v h=>by rw[<- hc.I];exact h);have cR:(E.add l V.ab).blk s.H.length=l:=by rw[<- hc.n];exact E.dQ l _
 have cq:Conc (E.add l V.ab) (V.upd l (.loop {state:=.ready,pending:=none,fn,tmps:=a.tmps,params:=ps,assign:=bO,body,defers:=E.blk df})) (s.H++[.loop l .ready none fn s.T nt ps bO body df]):=by
  refine hc.add hl _ ⟨⟨a.tmps,?_,ai.size,ai.tok.mono hle⟩,?_,λo=> ?_,?_⟩ (λb e=> ?_)
  ·rw[Env.dQ,hle.blk df bB];simp[View.upd]
  ·show df<E.n+1;omega
  ·rw[Env.dQ];exact hl.2 o
  ·exact Env.dQ _ _ _
  ·simp only[bP,Env.dQ,Tl]at e;exact e.symm
 have alf:=ap.ev ai.tok hf;have C8:=h l fn (E.add l V.ab) (V.upd l (.loop {state:=.ready,pending:=none,fn,tmps:=a.tmps,params:=ps,assign:=bO,body,defers:=E.blk df})) (a.eval f) #[.func (.yield l) #[] #[]] cq (alf.mono hle) ⟨rfl,λi x hx=>by
  match i,hx with
  |0,hx=>cases hx;exact .fn rfl rfl (by simp) (by simp)⟩
 have key:∀o V',gW (E.add l V.ab) (V.upd l (.loop {state:=.ready,pending:=none,fn,tmps:=a.tmps,params:=ps,assign:=bO,body,defers:=E.blk df}))
   (λ_ H'=>∃st pe fI T' jw gE gn fz gq,H'[s.H.length]?=some (.loop l st pe fI T' jw gE gn fz gq)/\st≠ .busy/\uJ Φ ⟨s.T,H'.set s.H.length .gone⟩ pe)
   (λpv H'=>Φ (.panic pv) ⟨s.T,H'⟩) o V'->xM l Q a o V':=by
  intro o V' hr;cases o with
  |ret v=>
   obtain⟨av,E',H',hE,cp,fg,_,bp,st,pe,fI,T',jw,gE,gn,fz,gq,bZ,aP,hp⟩:=hr;obtain⟨dI,nV,rn,bi,Mv,tF,ub⟩:=bp.zA bZ;refine⟨_,bi,nV,aP,?_⟩;have hg:Conc E' (V'.upd l (.loop {state:=.exhausted,pending:=pe,fn:=fI,tmps:=rn,params:=gE,assign:=gn,body:=fz,defers:=E'.blk gq})) (H'.set s.H.length .gone):=bp.EH _ bZ _ (by simp only[bP,dI]);have aV:At E' (V'.upd l (.loop {state:=.exhausted,pending:=pe,fn:=fI,tmps:=rn,params:=gE,assign:=gn,body:=fz,defers:=E'.blk gq})) ⟨s.T,H'.set s.H.length .gone⟩ a nt:=⟨hg,ai.tok.mono (hle.trans hE),ai.size⟩;have eD:Kept E E' V (V'.upd l (.loop {state:=.exhausted,pending:=pe,fn:=fI,tmps:=rn,params:=gE,assign:=gn,body:=fz,defers:=E'.blk gq})) a a:=⟨hle.trans hE,rfl,rfl,cp,fg⟩;dsimp only
   match pe,hp,aV,eD with
   |none,hp,aV,eD=>exact hQ .normal .normal E' _ _ _ eD aV trivial hp
   |some .ret,hp,aV,eD=>exact hQ .ret .ret E' _ _ _ eD aV trivial hp
   |some (.exit i),hp,aV,eD=>exact hQ (.exit i) (.exit i) E' _ _ _ eD aV rfl hp
   |some (.goto i),hp,aV,eD=>exact hQ (.goto i) (.goto i) E' _ _ _ eD aV rfl hp
  |panic ch=>
   obtain⟨pv,v,E',H',rfl,hE,cp,fg,bt,bp,hp⟩:=hr;exact hQ (.panic pv) (.panic _) E' V' a ⟨s.T,H'⟩ ⟨hle.trans hE,rfl,rfl,cp,fg⟩ ⟨bp,ai.tok.mono (hle.trans hE),ai.size⟩ ⟨v,rfl,bt⟩ hp
 exact C8.mono (λnx V' hn=>Nx.mono key hn) (λv V' hr=>key _ _ hr)
def xR (P:SI)(fn:YD)(R:Out->View->Prop):List U3->Vg->Array SQ->View->Prop
 |[],.returning,tmps,V=>∃v,aR P V (results fn tmps) (λx V'=>x=v/\V'=V) (λ_ _=>False)/\R (.ret v) V
 |[],.panicking ch,_,V=>R (.panic ch) V
 |d::ds,md,tmps,V=>(md matches .run)=false/\∃b,d={target:=.collected b,args:=#[]}/\V.own b=some (.deferred (some []))/\V.role.chan≠some b/\xR P fn R ds md tmps (V.upd b (.deferred none))
 |[],.run,_,_=>False
theorem IF{f:TS}{fn:YD}{kd:Xj}{R:Out->View->Prop}(hf:P.funcs[f]?=some fn){main:Bool}{J:View->SG->Prop}(C:Closed lv P main J){cs:List Uf}(hR:∀o V' CH,R o V'->Leaves P CH f kd o V'->J V' (G CH cs)):∀(ds:List U3)(md:Vg)(V:View)(fr:Uf),fr.fn=f->fr.kind=kd->fr.mode=md->fr.defers=ds->xR P fn R ds md fr.tmps V->J V (G fr cs)
 |[],.returning,V,fr,h1,h2,h3,h4,h=>by
  obtain⟨v,hs,hr⟩:=h;exact hR _ _ _ hr ⟨h1,h4,h2,fn,hf,h3,hs⟩
 |[],.panicking ch,V,fr,h1,h2,h3,h4,h=>hR _ _ _ h ⟨h1,h4,h2,fn,hf,h3⟩
 |[],.run,_,_,_,_,_,_,h=>h.elim
 |d::ds,md,V,fr,h1,h2,h3,h4,h=>by
  obtain⟨hm,b,rfl,ho,ff,hu⟩:=h;refine C.step _ _ rfl λw hw=> ?_;obtain⟨es,w',V',k1,k2,k3⟩:=(Oy (P:=P) ho ff).runs hw;rcases k3 with⟨x,k3,rfl,rfl⟩|⟨_,_,hx⟩
  ·refine⟨G {fr with defers:=ds} cs,w',seen P fr.fn es,_,?_,k1.seen P fr.fn,?_⟩
   ·have e:∀main,stepG P main (G fr cs) w=unwind P main fr cs none w:=λmain=>by
     cases md with
     |run=>cases hm
     |returning=>simp[G,stepG,h3]
     |panicking ch=>simp[G,stepG,h3]
    rw[e];simp only[unwind,h4];simp[TE,k3,k2,T_,G]
   ·exact IF hf C hR ds md _ {fr with defers:=ds} h1 h2 h3 rfl hu
  ·exact hx.elim
def aeK (P:SI)(fn:YD)(R:Out->View->Prop):Ex->Act->View->Prop
 |.normal,a,V|.ret,a,V=>xR P fn R a.defers .returning a.tmps V
 |.panic ch,a,V=>xR P fn R a.defers (.panicking ch) a.tmps V
 |_,_,_=>False
theorem aha{f:TS}{fn:YD}{c:Ub}{args:Array SQ}{kd:Xj}{V:View}{R:Out->View->Prop}(hk:kd≠ .early)(hf:P.funcs[f]?=some fn)(hb:fn.body=some c)
  (h:WP lv P none c (aeK P fn R) {tmps:=args++TP (fn.ntmps-args.size) undef,defers:=[]} V):Body lv P f args kd V R:=by
 intro main J C cs hR;let b:Uf:={(default:Uf)with fn:=f,kind:=kd,roundOf:=none};have vk:Frame.enter P f args kd=on b {tmps:=args++TP (fn.ntmps-args.size) undef,defers:=[]} [.code c]:=by
  simp[Frame.enter,on,hf,hb,b]
 rw[vk];refine h main J C b [] cs hk rfl λe a' V' q=> ?_;cases e with
 |normal=>exact C.idle rfl (λw=>ED rfl) (IF hf C hR _ _ _ _ rfl rfl rfl rfl q)
 |ret=>intro k;exact C.idle rfl (λw=>EE rfl) (IF hf C hR _ _ _ _ rfl rfl rfl rfl q)
 |panic ch=>intro todo _;exact IF hf C hR _ _ _ _ rfl rfl rfl rfl q
 |exit id=>exact q.elim
 |goto l=>exact q.elim
def iT:List Nat->List aa->Option (List aa)
 |[],H=>some H
 |i::ms,H=>match H[i]?with
  |some (.obj (.deferred (some [])))=>iT ms (H.set i .gone)
  |_=>none
def sV (P:SI)(rs:List UT)(n:Nat)(k kp:AV->List aa->Prop):an->AS->List Nat->Prop
 |.normal,s,ms|.ret,s,ms=>ao (iT ms s.H) λH'=>ao (ik P ⟨s.T,H'⟩ rs) λl=>cJ n H' (jc l) k
 |.panic pv,s,ms=>ao (iT ms s.H) λH'=>cJ n H' pv kp
 |_,_,_=>False
theorem OX{fn:YD}{R:Out->View->Prop}{tmps:Array SQ}{md:Vg}(hm:(md matches .run)=false):∀(ms:List Nat)(H H':List aa)(E:Env)(V:View)(l:List U3),iT ms H=some H'->Conc E V H->Marks E ms l->(∀V',V'.role=V.role->V'.deaf=V.deaf->Conc E V' H'->xR P fn R [] md tmps V')->xR P fn R l md tmps V
 |[],H,H',E,V,l,hg,hc,mG,hk=>by
  cases hg;have:l=[]:=mG.1;subst this;exact hk V rfl rfl hc
 |i::ms,H,H',E,V,l,hg,hc,mG,hk=>by
  simp only[iT]at hg;split at hg
  ·rename_i hi;obtain⟨e,hlt⟩:=mG;simp only[U5]at e;subst e;obtain⟨p1,p2,p3,p4⟩:=hc.obj i _ hi;exact⟨hm,_,rfl,p1,(hc.jv hi rfl).2,OX hm ms _ H' E _ _ hg (hc.EH _ hi _ rfl) ⟨rfl,λj hj=>hlt j (by simp[hj])⟩ λV' h1 h2 h3=>hk V' h1 h2 h3⟩
  ·cases hg
theorem Rw{f:TS}{fn:YD}{c:Ub}{rs:List UT}{nt:Nat}{H:List aa}{args:List AV}{k kp:AV->List aa->Prop}(hf:P.funcs[f]?=some fn)(hb:fn.body=some c)(hr:fn.results=rs.toArray)(hn:fn.ntmps=nt)(cQ:args.length<=nt)
  (h:bF H->(∀a∈args,Lt H.length a)->mW lv P nt c ⟨bk 0 args,H⟩ [] (sV P rs H.length k kp)):bc lv P f H args k kp:=by
 intro E V vs hc hd;have hlt:∀a∈args,Lt H.length a:=λa ha=>by
  obtain⟨i,hi⟩:=qe ha;rw[<- hc.n];exact(hd.2 i a hi).lt
 have ai:=Cq (nt:=nt) hc hd cQ;refine aha (by simp) hf hb ?_;rw[hn];refine h hc.aq hlt E V _ _ ai ⟨rfl,by simp⟩ λae e E' V' a' s' cH hk aV fZ he hΦ=> ?_;have fin:sV P rs H.length k kp .ret s' cH->xR P fn (gW E V k kp) a'.defers .returning a'.tmps V':=λhΦ=>by
  obtain⟨H',hg,hΦ⟩:=ao.out hΦ;exact OX rfl cH _ H' E' V' _ hg aV.bw fZ λaU h1 h2 h3=>acX (s':=⟨s'.T,H'⟩) (a':=a') hr ⟨h3,aV.tok,aV.size⟩ hk.le hc.n (h1.trans hk.role) (h2.trans hk.deaf) hΦ
 cases ae<;>cases e<;>first
  |exact he.elim
  |exact fin hΦ
  |exact hΦ.elim
  |skip
 rename_i pv ch;obtain⟨v,ff,bt⟩:∃v,ch=[{v,recovered:=false}]/\ap E' pv v:=he;subst ff;obtain⟨H',hg,hΦ⟩:=ao.out hΦ;refine OX rfl cH _ H' E' V' _ hg aV.bw fZ λaU h1 h2 h3=> ?_;obtain⟨b,bT,uG,r1,r2,r3,r4⟩:=x_ hΦ h3 bt hk.le hc.n;exact⟨b,v,bT,uG,rfl,r1,h1.trans hk.role,h2.trans hk.deaf,r2,r3,r4⟩
end
def Env.frame (E:Env)(f:Nat->Option Obj):Env:={E with fr:=f}
theorem ap.frame{E:Env}{a:AV}{v:SQ}(h:ap E a v)(f:Nat->Option Obj):ap (E.frame f) a v:=by
 induction h with
 |val x=>exact .val x
 |agg hs _ ih=>exact .agg hs ih
 |aO hs _ ih=>exact .aO hs ih
 |sl b o cap g hc he h1 _ ih=>exact .sl b o cap g hc (by cases kG:‹End›<;>(subst kG;exact he)) h1 ih
 |nil he=>exact .nil (by cases kG:‹End›<;>(subst kG;exact he))
 |bz hi dU=>exact .bz (E:=E.frame f) hi dU
 |rp b o g h1 _ ih=>exact .rp b o g h1 ih
 |op hi=>exact .op (E:=E.frame f) hi
 |fn dW f_ _ _ ni lK=>exact .fn dW f_ ni lK
 |db _ ih=>exact .db ih
 |mp hi=>exact .mp (E:=E.frame f) hi
theorem cN.frame{E:Env}{l:List AV}{cs:Array SQ}(h:cN E l cs)(f:Nat->Option Obj):cN (E.frame f) l cs:=⟨h.1,λi a e=>(h.2 i a e).frame f⟩
theorem kx.frame{E:Env}{l:List AV}{cs:Array SQ}(h:kx E l cs)(f:Nat->Option Obj):kx (E.frame f) l cs:=⟨h.1,λi a e=>(h.2 i a e).frame f⟩
theorem cu.frame{E:Env}{T:List (Nat×AV)}{tmps:Array SQ}(h:cu E T tmps)(f:Nat->Option Obj):cu (E.frame f) T tmps:=λt a e=>⟨(h t a e).1,(h t a e).2.frame f⟩
theorem ww(E:Env)(f:Nat->Option Obj)(k:Nat)(x:aa):bP (E.frame f) k x=bP E k x:=by cases x<;>rfl
theorem fU.frame{E:Env}{V:View}{k:Nat}{x:aa}(h:fU E V k x)(f:Nat->Option Obj):fU (E.frame f) V k x:=by
 cases x with
 |cells l el=>obtain⟨⟨cs,h1,h2⟩,h3⟩:=h;exact⟨⟨cs,h1,h2.frame f⟩,h3⟩
 |part p l el=>obtain⟨⟨cs,h1,h2,h4⟩,h3⟩:=h;exact⟨⟨cs,h1,h2.frame f,h4⟩,h3⟩
 |own sz l el=>obtain⟨⟨cs,h1,h2,h4⟩,h3⟩:=h;exact⟨⟨cs,h1,h2.frame f,h4⟩,h3⟩
 |tail n sz el=>exact h
 |obj x=>exact h
 |iter=>exact h
 |loop=>obtain⟨⟨tmps,h1,h2,h3⟩,h4,h5⟩:=h;exact⟨⟨tmps,h1,h2,h3.frame f⟩,h4,h5⟩
 |gone=>trivial
 |main=>exact h
theorem Conc.zt{E:Env}{V V':View}{H:List aa}(h:Conc E V H)(f:Nat->Option Obj)(hI:V'.ab=V.ab)
  (ho:∀b x k y,H[k]?=some y->bP E k y=some b->V.own b=some x->V'.own b=some x)
  (hg:∀g,V'.role.group=some g->V'.own g≠none/\(∀o,V'.ab g o=none)/\∀(k:Nat) x,H[k]?=some x->bP E k x≠some g)
  (hc:∀g,V'.role.chan=some g->V'.own g≠none/\(∀o,V'.ab g o=none)/\∀(k:Nat) x,H[k]?=some x->bP E k x≠some g)
  (ht:E.main=true->V'.role=.plain/\V'.deaf=0) (hf:∀b y,f b=some y->V'.own b=some y/\(∀o,V'.ab b o=none)/\∀(k:Nat) x,H[k]?=some x->bP E k x≠some b):Conc (E.frame f) V' H:=by
 have hlt:∀(k:Nat) y,H[k]?=some y->k<E.n:=λk y e=>by rw[h.n];exact(SN.1 e).1
 refine⟨by rw[hI];exact h.I,h.n,λk x e=>fU.frame ((h.obj k x e).mono (Env.Le.refl E) (hlt k x e) rfl (λb y hb hy=>ho b y k x e hb hy) (λb _ o=>by rw[hI])) f,λi j x y b h1 h2 h3 h4=> ?_,λg e=> ?_,λg e=> ?_,ht,λb y e=> ?_⟩
 ·rw[ww]at h3 h4;exact h.inj i j x y b h1 h2 h3 h4
 ·obtain⟨a,b,c⟩:=hg g e;exact⟨a,b,λk x e=>by rw[ww];exact c k x e⟩
 ·obtain⟨a,b,c⟩:=hc g e;exact⟨a,b,λk x e=>by rw[ww];exact c k x e⟩
 ·obtain⟨a,b',c⟩:=hf b y e;exact⟨a,b',λk x e=>by rw[ww];exact c k x e⟩
theorem Conc.En{E:Env}{V:View}{H:List aa}(h:Conc E V H){b:Nat}{x:Obj}(hb:E.fr b=some x){k:Nat}{y:aa}(hk:H[k]?=some y){b':Nat}(dI:bP E k y=some b'):b'≠b:=λe=>by subst e;exact(h.fr _ x hb).2.2 k y hk dI
theorem Conc.ake{E:Env}{V:View}{H:List aa}(h:Conc E V H){b:Nat}{x:Obj}(hb:E.fr b=some x)(y:Obj):Conc (E.frame λb'=>if b'=b then some y else E.fr b') (V.upd b y) H:=by
 obtain⟨p1,p2,p3⟩:=h.fr b x hb;refine h.zt _ rfl (λb' z k w hk kT hz=> ?_) (λg hg=> ?_) (λg hg=> ?_) h.top (λb' z hz=> ?_)
 ·have:b'≠b:=h.En hb hk kT;simpa[View.upd,this]using hz
 ·obtain⟨q1,q2,q3⟩:=h.group g hg;refine⟨?_,q2,q3⟩;simp only[View.upd];split
  ·simp
  ·exact q1
 ·obtain⟨q1,q2,q3⟩:=h.chan g hg;refine⟨?_,q2,q3⟩;simp only[View.upd];split
  ·simp
  ·exact q1
 ·by_cases e:b'=b
  ·subst e;rw[if_pos rfl]at hz;cases hz;exact⟨by simp[View.upd],p2,p3⟩
  ·rw[if_neg e]at hz;obtain⟨q1,q2,q3⟩:=h.fr b' z hz;exact⟨by simpa[View.upd,e]using q1,q2,q3⟩
theorem Conc.akc{E:Env}{V:View}{H:List aa}(h:Conc E V H){b:Nat}(hb:V.fresh b)(y:Obj):Conc (E.frame λb'=>if b'=b then some y else E.fr b') (V.upd b y) H:=by
 have aG:∀(k:Nat) x,H[k]?=some x->bP E k x≠some b:=λk x hk e=>by
  obtain⟨z,hz⟩:=(h.obj k x hk).Ct e;rw[hb.1]at hz;cases hz
 refine h.zt _ rfl (λb' z k w hk kT hz=> ?_) (λg hg=> ?_) (λg hg=> ?_) h.top (λb' z hz=> ?_)
 ·have:b'≠b:=λe=>by subst e;exact aG k w hk kT
  simpa[View.upd,this]using hz
 ·obtain⟨q1,q2,q3⟩:=h.group g hg;refine⟨?_,q2,q3⟩;simp only[View.upd];split
  ·simp
  ·exact q1
 ·obtain⟨q1,q2,q3⟩:=h.chan g hg;refine⟨?_,q2,q3⟩;simp only[View.upd];split
  ·simp
  ·exact q1
 ·by_cases e:b'=b
  ·subst e;rw[if_pos rfl]at hz;cases hz;exact⟨by simp[View.upd],hb.2,aG⟩
  ·rw[if_neg e]at hz;obtain⟨q1,q2,q3⟩:=h.fr b' z hz;exact⟨by simpa[View.upd,e]using q1,q2,q3⟩
theorem Conc.akd{E:Env}{V:View}{H:List aa}(h:Conc E V H){id:Nat}{l:List AV}{el:TypeId}(hk:H[id]?=some (.cells l el)):∃cs,cN E l cs/\V.own (E.blk id)=some (.cells cs el (0,0))/\(∀o,V.ab (E.blk id) o=none)/\
  Conc (E.frame λb'=>if b'=E.blk id then some (.cells cs el (0,0))else E.fr b') V (H.set id .gone):=by
 obtain⟨⟨cs,h1,h2⟩,h3⟩:=h.obj id _ hk;refine⟨cs,h2,h1,h3,?_⟩;have hg:Conc E V (H.set id .gone):=by
  refine h.iQ id .gone (Env.Le.refl E) h.I (by simpa using h.n) lM rfl (λ_ _ _=>rfl) (λb y _ hy=>⟨hy,λ_=>rfl⟩) trivial (λb e=>by cases e)
 have aG:∀(k:Nat) x,(H.set id .gone)[k]?=some x->bP E k x≠some (E.blk id):=λk x hx e=>by
  rcases lM k x hx with⟨rfl,rfl⟩|⟨aG,hx⟩
  ·cases e
  ·exact aG (h.inj k id x _ _ hx hk e rfl)
 refine hg.zt _ rfl (λ_ _ _ _ _ _ hz=>hz) hg.group hg.chan h.top (λb' z hz=> ?_);by_cases e:b'=E.blk id
 ·subst e;rw[if_pos rfl]at hz;cases hz;exact⟨h1,h3,aG⟩
 ·rw[if_neg e]at hz;exact hg.fr b' z hz
theorem Conc.If{E:Env}{V:View}{H:List aa}(h:Conc E V H){id:Nat}{l:List AV}{el:TypeId}(hk:H[id]?=some (.cells l el))(p:Nat)(hp:p<=l.length):∃V',d_ V V'/\V'.own=V.own/\V'.role=V.role/\V'.deaf=V.deaf/\E.Le {E with I:=V'.ab}/\Conc {E with I:=V'.ab} V' (H.set id (.part p l el))/\
  ap {E with I:=V'.ab} (.rp (l.take p)) (.pointer (some ⟨E.blk id,0,none⟩)):=by
 obtain⟨⟨cs,h1,h2⟩,h3⟩:=h.obj id _ hk;let V':=V.eT (E.blk id) cs λo=>decide (o<p);have lE:∀b o,b≠E.blk id->V'.ab b o=V.ab b o:=λb o hb=>by simp[V',View.eT,hb]
 have cK:∀o,o<p->V'.ab (E.blk id) o=cs[o]?:=λo ho=>by simp[V',View.eT,ho]
 have alZ:∀o,p<=o->V'.ab (E.blk id) o=none:=λo ho=>by simp[V',View.eT,Nat.not_lt.2 ho,h3]
 have hle:E.Le {E with I:=V'.ab}:=⟨λb o v e=>by
  rw[h.I]at e;have hb:b≠E.blk id:=λhb=>by subst hb;rw[h3]at e;cases e
  show V'.ab b o=some v;rw[lE b o hb];exact e,SP _,λ_ _=>rfl,λ_ _=>SP _,λ_ _ _ _=>rfl,rfl,rfl⟩
 refine⟨V',yj h1 (λo _=>h3 o),rfl,rfl,rfl,hle,?_,?_⟩
 ·refine h.iQ (E':={E with I:=V'.ab}) id (.part p l el) hle rfl (by simpa using h.n) lM rfl (λ_ _ _=>rfl) (λb y hb hy=>⟨hy,λo=>lE b o λe=>hb _ hk (by rw[e];rfl)⟩) ⟨⟨cs,h1,(h2.mono hle).p,cK⟩,alZ⟩ (λb e=> .inl ⟨_,hk,e⟩)
 ·refine .rp (E.blk id) 0 (λi=>cs.getD i undef) (λi hi=> ?_) λi x hx=> ?_
  ·have cG:i<p:=(by simp at hi;omega);rw[Wv];show V'.ab (E.blk id) i=_;rw[cK i cG];have:i<cs.size:=(by have:=h2.1;omega);simp[SH,SJ this]
  ·rw[Uj]at hx;split at hx
   ·exact(h2.2 i x hx).mono hle
   ·cases hx
theorem Conc.anG{E:Env}{V V':View}{H:List aa}(h:Conc E V H)(ho:V'.own=V.own)(lE:∀b o v,V.ab b o=some v->V'.ab b o=some v)(eE:∀b o,V.own b≠none->V.ab b o=none->V'.ab b o=none)
  (hg:V'.role.group=none) (hc:V'.role.chan=none) (ht:E.main=true->V'.role=.plain/\V'.deaf=0):E.Le {E with I:=V'.ab}/\Conc {E with I:=V'.ab} V' H:=by
 have hle:E.Le {E with I:=V'.ab}:=⟨λb o v e=>by rw[h.I]at e;exact lE b o v e,SP _,λ_ _=>rfl,λ_ _=>SP _,λ_ _ _ _=>rfl,rfl,rfl⟩;have hlt:∀(k:Nat) y,H[k]?=some y->k<E.n:=λk y e=>by rw[h.n];exact(SN.1 e).1
 have key:∀b o,V.own b≠none->V'.ab b o=V.ab b o:=λb o hb=>by
  cases e:V.ab b o with
  |none=>exact eE b o hb e
  |some v=>exact lE b o v e
 refine⟨hle,rfl,h.n,λk x e=>(h.obj k x e).mono hle (hlt k x e) rfl (λb y _ hy=>by rw[ho];exact hy) (λb hb o=> ?_),h.inj,λg e=>(by rw[hg]at e;cases e),λg e=>(by rw[hc]at e;cases e),ht,λb y e=> ?_⟩
 ·obtain⟨y,hy⟩:=(h.obj k x e).Ct hb;exact key b o (by rw[hy];simp)
 ·obtain⟨q1,q2,q3⟩:=h.fr b y e;exact⟨by rw[ho];exact q1,λo=>by rw[key b o (by rw[q1];simp)];exact q2 o,q3⟩
section
variable {lv:Bool}{P:SI}{nt id:Nat}{ops:Array Tx}{s:AS}{E:Env}{V:View}{a:Act}{Q:Ex->Act->View->Prop}{K:AS->Prop}
theorem IL(n m:Nat)(hn:ops.size=n+m)(dx:j9 nt ops=true)(ai:At E V s a nt)(h:iF lv P ops (ops.toList.take n) s K (λ_ _=>False))
  (hk:∀E' V' a' s',Kept E E' V V' a a'->At E' V' s' a' nt->K s'->dq lv P none ops Q (Ug n m) a' V'):WP lv P none (.region id ops false) Q a V:=by
 refine wp_region ?_;have hr:S0 ops.size=Ug 0 n++Ug n m:=by
  have:=Zb (s:=0) (m:=n) (n:=m);rw[Vw,hn,<- this];simp
 rw[hr];refine BM _ _ _ (HY (r:=none) (Φ:=λe s'=>match e with
  |.normal=>K s'
  |_=>False) (λo ho d e=>(j9.out dx ho).1 d e) rfl n 0 s (by omega) (by simpa using h) E V a _ ai λae e E' V' a' s' aJ aV he hΦ=> ?_)
 cases ae<;>cases e<;>first
  |exact he.elim
  |exact hΦ.elim
  |exact hk E' V' a' s' aJ aV hΦ
theorem O8{n:Nat}{o:Tx}(ho:ops[n]?=some o)(hg:o.guard=none)(h:wl lv P o a V λa' V'=>Q .normal a' V'):dq lv P none ops Q (Ug n 1) a V:=by
 simp only[List.range'_one,dq,ho];rw[if_pos (by unfold Ti;rw[hg])];exact .inr h
end
section
variable {lv main:Bool}{P:SI}{J:View->SG->Prop}
theorem aer(C:Closed lv P main J){V:View}{fr:Uf}{cs:List Uf}{g:TS}{ca aF:Array SQ}{ds:List U3}(hd:fr.defers=⟨.fn (.func g) ca,aF⟩::ds)(hm:(fr.mode matches .run)=false)(hg:ru P g=true)
  (h:J V (G (Frame.enter P g (aF++ca) .deferred) ({fr with defers:=ds}::cs))):J V (G fr cs):=by
 refine C.step _ _ rfl λw hw=> ?_;have hs:aR P V (invoke (.fn (.func g) ca) aF) (λnx V'=>nx=.enter g (aF++ca)/\V'=V) (λ_ _=>False):=by
  unfold invoke;exact Ot hg ⟨rfl,rfl⟩
 obtain⟨es,w',V',k1,k2,k3⟩:=hs.runs hw;rcases k3 with⟨nx,k3,rfl,rfl⟩|⟨_,_,h⟩
 ·refine⟨G (Frame.enter P g (aF++ca) .deferred) ({fr with defers:=ds}::cs),w',seen P fr.fn es,V',?_,k1.seen P fr.fn,h⟩;have e:stepG P main (G fr cs) w=unwind P main fr cs none w:=by
   obtain⟨fn,tmps,todo,defers,mode,kind,ro⟩:=fr;cases mode with
   |run=>cases hm
   |returning=>simp[G,stepG]
   |panicking ch=>simp[G,stepG]
  rw[e];simp only[unwind,hd];simp[callDeferred,TE,k3,k2,T_,G]
 ·exact h.elim
theorem ah9(C:Closed lv P main J){f:TS}{fn:YD}{c:Ub}{args:Array SQ}{kd:Xj}{V:View}{cs:List Uf}{Q:Act->View->Prop}(hk:kd≠ .early)(hf:P.funcs[f]?=some fn)(hb:fn.body=some c)
  (h:WP lv P none c (λe a V=>(match e with|.normal|.ret=>True|_=>False)/\Q a V) {tmps:=args++TP (fn.ntmps-args.size) undef,defers:=[]} V)
  (hQ:∀a V todo,Q a V->J V (G {fn:=f,tmps:=a.tmps,todo,defers:=a.defers,mode:=.returning,kind:=kd,roundOf:=none} cs)):J V (G (Frame.enter P f args kd) cs):=by
 let b:Uf:={(default:Uf)with fn:=f,kind:=kd,roundOf:=none};have vk:Frame.enter P f args kd=on b {tmps:=args++TP (fn.ntmps-args.size) undef,defers:=[]} [.code c]:=by
  simp[Frame.enter,on,hf,hb,b]
 rw[vk];refine h main J C b [] cs hk rfl λe a' V' q=> ?_;cases e with
 |normal=>exact C.idle rfl (λw=>ED rfl) (hQ a' V' [] q.2)
 |ret=>intro k;exact C.idle rfl (λw=>EE rfl) (hQ a' V' (.code .ret::k) q.2)
 |panic ch=>exact q.1.elim
 |exit id=>exact q.1.elim
 |goto l=>exact q.1.elim
end
def Env.fy (E:Env)(m:Bool):Env:={E with main:=m}
theorem ap.fy{E:Env}{a:AV}{v:SQ}(h:ap E a v)(m:Bool):ap (E.fy m) a v:=by
 induction h with
 |val x=>exact .val x
 |agg hs _ ih=>exact .agg hs ih
 |aO hs _ ih=>exact .aO hs ih
 |sl b o cap g hc he h1 _ ih=>exact .sl b o cap g hc (by cases kG:‹End›<;>(subst kG;exact he)) h1 ih
 |nil he=>exact .nil (by cases kG:‹End›<;>(subst kG;exact he))
 |bz hi dU=>exact .bz (E:=E.fy m) hi dU
 |rp b o g h1 _ ih=>exact .rp b o g h1 ih
 |op hi=>exact .op (E:=E.fy m) hi
 |fn dW f_ _ _ ni lK=>exact .fn dW f_ ni lK
 |db _ ih=>exact .db ih
 |mp hi=>exact .mp (E:=E.fy m) hi
theorem cN.fy{E:Env}{l:List AV}{cs:Array SQ}(h:cN E l cs)(m:Bool):cN (E.fy m) l cs:=⟨h.1,λi a e=>(h.2 i a e).fy m⟩
theorem kx.fy{E:Env}{l:List AV}{cs:Array SQ}(h:kx E l cs)(m:Bool):kx (E.fy m) l cs:=⟨h.1,λi a e=>(h.2 i a e).fy m⟩
theorem cu.fy{E:Env}{T:List (Nat×AV)}{tmps:Array SQ}(h:cu E T tmps)(m:Bool):cu (E.fy m) T tmps:=λt a e=>⟨(h t a e).1,(h t a e).2.fy m⟩
theorem wx(E:Env)(m:Bool)(k:Nat)(x:aa):bP (E.fy m) k x=bP E k x:=by cases x<;>rfl
theorem fU.fy{E:Env}{V:View}{k:Nat}{x:aa}(h:fU E V k x)(m:Bool)(hm:x=.main->m=true):fU (E.fy m) V k x:=by
 cases x with
 |cells l el=>obtain⟨⟨cs,h1,h2⟩,h3⟩:=h;exact⟨⟨cs,h1,h2.fy m⟩,h3⟩
 |part p l el=>obtain⟨⟨cs,h1,h2,h4⟩,h3⟩:=h;exact⟨⟨cs,h1,h2.fy m,h4⟩,h3⟩
 |own sz l el=>obtain⟨⟨cs,h1,h2,h4⟩,h3⟩:=h;exact⟨⟨cs,h1,h2.fy m,h4⟩,h3⟩
 |tail n sz el=>exact h
 |obj x=>exact h
 |iter=>exact h
 |loop=>obtain⟨⟨tmps,h1,h2,h3⟩,h4,h5⟩:=h;exact⟨⟨tmps,h1,h2,h3.fy m⟩,h4,h5⟩
 |gone=>trivial
 |main=>exact hm rfl
def strip:aa->aa
 |.main=> .gone
 |x=>x
theorem uP(E:Env)(k:Nat)(x:aa):bP E k (strip x)=bP E k x:=by cases x<;>rfl
theorem Conc.ahC{E:Env}{V:View}{H:List aa}(h:Conc E V H):Conc (E.fy false) V (H.map strip):=by
 have get:∀(k:Nat) y,(H.map strip)[k]?=some y->∃x,H[k]?=some x/\strip x=y:=λk y e=>by
  rw[To]at e;obtain⟨x,e1,e2⟩:=Ts.1 e;exact⟨x,e1,e2⟩
 refine⟨h.I,by rw[Ta];exact h.n,λk y e=> ?_,λi j x y b h1 h2 h3 h4=> ?_,λg hg=> ?_,λg hg=> ?_,(λe=>by cases e),λb y e=> ?_⟩
 ·obtain⟨x,hx,rfl⟩:=get k y e;have l8:=h.obj k x hx;cases x<;>first
   |exact fU.fy l8 false (λe=>by cases e)
   |exact True.intro
 ·obtain⟨x',hx,rfl⟩:=get i x h1;obtain⟨y',hy,rfl⟩:=get j y h2;rw[wx,uP]at h3 h4;exact h.inj i j x' y' b hx hy h3 h4
 ·obtain⟨a,b,c⟩:=h.group g hg;exact⟨a,b,λk y e=>by obtain⟨x,hx,rfl⟩:=get k y e;rw[wx,uP];exact c k x hx⟩
 ·obtain⟨a,b,c⟩:=h.chan g hg;exact⟨a,b,λk y e=>by obtain⟨x,hx,rfl⟩:=get k y e;rw[wx,uP];exact c k x hx⟩
 ·obtain⟨a,b',c⟩:=h.fr b y e;exact⟨a,b',λk y e=>by obtain⟨x,hx,rfl⟩:=get k y e;rw[wx,uP];exact c k x hx⟩
theorem Conc.aqz{E:Env}{V:View}{H:List aa}(h:Conc E V (H.map strip))(m:Bool)(f:Nat->Option Obj)(hm:∀(k:Nat),H[k]?=some aa.main->m=true)(ht:m=true->V.role=.plain/\V.deaf=0)(hf:∀b y,f b=some y->E.fr b=some y):Conc ((E.fy m).frame f) V H:=by
 have get:∀(k:Nat) x,H[k]?=some x->(H.map strip)[k]?=some (strip x):=λk x e=>by rw[To,e];rfl
 refine⟨h.I,h.n.trans (by rw[Ta]),λk x e=>fU.frame ?_ f,λi j x y b h1 h2 h3 h4=> ?_,λg hg=> ?_,λg hg=> ?_,ht,λb y e=> ?_⟩
 ·have l8:=h.obj k _ (get k x e);cases x<;>first
   |exact fU.fy l8 m (λe=>by cases e)
   |exact hm k e
 ·rw[ww,wx]at h3 h4;exact h.inj i j _ _ b (get i x h1) (get j y h2) (by rw[uP];exact h3) (by rw[uP];exact h4)
 ·obtain⟨a,b,c⟩:=h.group g hg;exact⟨a,b,λk x e=>by rw[ww,wx,<- uP];exact c k _ (get k x e)⟩
 ·obtain⟨a,b,c⟩:=h.chan g hg;exact⟨a,b,λk x e=>by rw[ww,wx,<- uP];exact c k _ (get k x e)⟩
 ·obtain⟨a,b',c⟩:=h.fr b y (hf b y e);exact⟨a,b',λk x e=>by rw[ww,wx,<- uP];exact c k _ (get k x e)⟩
section
variable {lv:Bool}{P:SI}{nt id:Nat}{ops:Array Tx}{s:AS}{E:Env}{V:View}{a:Act}{Q:Ex->Act->View->Prop}{N:Act->View->Prop}{o:Tx}
theorem aeB(ho:ops[0]?=some o)(hg:o.guard=none)(h:B7 lv P none o a V (dq lv P none ops Q (Ug 1 (ops.size-1))) Q):WP lv P none (.region id ops false) Q a V:=by
 refine wp_region ?_;have aY:0<ops.size:=(SR.1 ho).1;have Mj:S0 ops.size=0::Ug 1 (ops.size-1):=by
  rw[Vw];obtain⟨n,hn⟩:∃n,ops.size=n+1:=⟨ops.size-1,by omega⟩;rw[hn,VU];rfl
 rw[Mj];simp only[dq,ho];rw[if_pos (by unfold Ti;rw[hg])];exact h
theorem atC{k n:Nat}(ho:ops[k]?=some o)(hg:o.guard=none)(h:B7 lv P none o a V (dq lv P none ops Q (Ug (k+1) n)) Q):dq lv P none ops Q (Ug k (n+1)) a V:=by
 rw[VU];simp only[dq,ho];rw[if_pos (by unfold Ti;rw[hg])];exact h
theorem atD{k:Nat}(h:Q .normal a V):dq lv P none ops Q (Ug k 0) a V:=h
theorem O9{k n:Nat}(s3:AS)(hk:k+n=ops.size)(dx:j9 nt ops=true)(ai:At E V s a nt)(h:iF lv P ops (ops.toList.drop k) s (λs'=>s'.Sub s3) (λ_ _=>False))(hQ:∀E' V' a',Kept E E' V V' a a'->At E' V' s3 a' nt->Q .normal a' V'):dq lv P none ops Q (Ug k n) a V:=by
 refine Bm (r:=none) (Φ:=λe s'=>match e with
  |.normal=>s'.Sub s3
  |_=>False) (λo ho d e=>(j9.out dx ho).1 d e) (λ_ _=> .inl rfl) n k s hk h E V a Q ai λae e E' V' a' s' aJ aV he hΦ=> ?_
 cases ae<;>cases e<;>first
  |exact he.elim
  |exact hΦ.elim
  |exact hQ E' V' a' aJ (aV.sub hΦ)
theorem ao3{c:Xt}{f:TS}(ay:o.op=.call c)(ba:c.callee=.value (.func f))(hf:ru P f=true)(h:Body lv P f (c.args.map a.eval) .normal V (fun
  |.ret v,V'=>N (a.put o.dst v) V'
  |.panic _,_=>False)):B7 lv P none o a V N Q:=by
 refine .inl ⟨.inl rfl,?_⟩;unfold execOp;rw[ay];dsimp only;unfold resolve;rw[ba];dsimp only;have e:a.eval (.func f)=.func (.func f) #[] #[]:=rfl;rw[e];unfold U_;refine az (au ?_);unfold invoke;dsimp only;refine Ot hf ?_;have e2:#[]++c.args.map a.eval++#[]=c.args.map a.eval:=by simp
 rw[e2];exact h.mono λo V' hx=>by
  cases o with
  |ret v=>exact hx
  |panic ch=>exact hx.elim
theorem ao4{t el:TypeId}{d:ChanDir}{i:Wo}(ay:o.op=.makeChan t (.const (.int .i64 0)))(h1:P.underlying t=some (.chan d el))(h2:P.info? el=some i)(h:∀c,V.fresh c->N (a.put o.dst (.chan (some c))) (V.upd c (.chan 0 #[] false 0 0 false))):B7 lv P none o a V N Q:=by
 refine .inl ⟨.inl rfl,?_⟩;unfold execOp;rw[ay];dsimp only;have e:a.eval (.const (.int .i64 0))=.int .i64 0:=rfl;rw[e];unfold Instr.makeChan;refine az (az ?_);unfold asInt;refine au ?_;refine ez h1 ?_;dsimp only;refine zy h2 ?_;rw[if_neg (by simp[IntKind.max,avp,avo])];refine az ?_;unfold newObj;exact pi λc hf=>cM (au (au (h c hf)))
end
theorem atB{lv:Bool}{P:SI}{r:Option Nat}{code:Ub}{Q:Ex->Act->View->Prop}{a:Act}{V:View}{c Wg:Nat}(tR:lv=true)(hr:V.role=.plain)(aG:c≠Wg)(hc:V.own c=some (.chan 0 #[] false 0 0 false)) (hW:V.own Wg≠none) (oP:∀o,V.ab Wg o=none)
  (h:WP lv P r code Q a {V with role:=.fork c Wg []}):WP lv P r code Q a V:=λmain J C b k cs hb cp hL=>
 (C.more tR).start _ _ c Wg hr aG hc hW oP (h main J C b k cs hb cp hL)
structure Env.Lo (E E':Env):Prop where
 I:∀b o v,E.I b o=some v->E'.I b o=some v
 n:E.n<=E'.n
 blk:∀k,k<E.n->E'.blk k=E.blk k
 fH:∀k,k<E.n->E.fH k<=E'.fH k
 room:∀k v,k<E.n->v<=E.fH k->E'.room k v=E.room k v
theorem Env.Le.lo{E E':Env}(h:E.Le E'):E.Lo E':=⟨h.I,h.n,h.blk,h.fH,h.room⟩
theorem Env.Lo.refl(E:Env):E.Lo E:=(Env.Le.refl E).lo
theorem Env.Lo.trans{E E' bT:Env}(h:E.Lo E')(k:E'.Lo bT):E.Lo bT:=
 ⟨λb o v e=>k.I b o v (h.I b o v e),TV h.n k.n,λi hi=>(k.blk i (Te hi h.n)).trans (h.blk i hi),λi hi=>TV (h.fH i hi) (k.fH i (Te hi h.n)),
  λi v hi hv=>(k.room i v (Te hi h.n) (TV hv (h.fH i hi))).trans (h.room i v hi hv)⟩
theorem Env.Lo.le{E E':Env}(h:E.Lo E'):E.Le ((E'.fy E.main).frame E.fr):=⟨h.I,h.n,h.blk,h.fH,h.room,rfl,rfl⟩
theorem ap.lo{E E':Env}(h:E.Lo E'){a:AV}{v:SQ}(d:ap E a v):ap E' a v:=by
 have:=((d.mono h.le).fy E'.main).frame E'.fr;exact this
theorem Env.HF(E:Env)(f:Nat->Option Obj):E.Lo (E.frame f):=⟨λ_ _ _ h=>h,SP _,λ_ _=>rfl,λ_ _=>SP _,λ_ _ _ _=>rfl⟩
theorem Env.anX(E:Env)(m:Bool):E.Lo (E.fy m):=⟨λ_ _ _ h=>h,SP _,λ_ _=>rfl,λ_ _=>SP _,λ_ _ _ _=>rfl⟩
theorem Env.Lo.cut{E E':Env}(h:E.Lo E'){n:Nat}(hn:E.n<=n):E.Lo {E' with n:=n}:=⟨h.I,hn,h.blk,h.fH,h.room⟩
def Env.bare (E:Env):Env:=((({E with n:=0}:Env).fy false).frame λ_=>none)
theorem ap.bare{E:Env}{a:AV}{v:SQ}(h:ap E a v)(hl:Lt 0 a):ap E.bare a v:=((h.trim hl).fy false).frame _
theorem ahs{E:Env}{I:cE}{ro:nB}(hI:E.I=I)(hg:ro.group=none)(hc:ro.chan=none):Conc E.bare {ab:=I,own:=λ_=>none,deaf:=0,role:=ro} []:=
 ⟨hI,rfl,λk x e=>(by cases e),λi j x y b h1=>(by cases h1),λg e=>(by rw[hg]at e;cases e),λg e=>(by rw[hc]at e;cases e),λe=>(by cases e),λb y e=>(by cases e)⟩
theorem At.atq{E:Env}{V:View}{s:AS}{a:Act}{nt t id off:Nat}(h:At E V s a nt)(hl:look s.T t=some (.op id off)):a.eval (.tmp t)=.pointer (some ⟨E.blk id,off,none⟩):=by
 have hd:=(h.tok t _ hl).2;show a.tmps.getD t undef=_;generalize a.tmps.getD t undef=v at hd;cases hd;rfl
section
variable {lv:Bool}{P:SI}{s:AS}{ms:List Nat}{nt:Nat}
def an.qz (id:Nat)(Φ:an->AS->List Nat->Prop):an->AS->List Nat->Prop
 |.exit i,s,ms=>if i=id then Φ .normal s ms else Φ (.exit i) s ms
 |e,s,ms=>Φ e s ms
theorem agB{id:Nat}{c:Ub}{Φ:an->AS->List Nat->Prop}(h:mW lv P nt c s ms (an.qz id Φ)):mW lv P nt (.block id c) s ms Φ:=by
 intro E V a Q ai hd hQ;refine wp_block (h E V a _ ai hd λae e E' V' a' s' cH hk aV cF he hΦ=> ?_);cases ae<;>cases e<;>first
  |exact he.elim
  |skip
 ·exact hQ .normal .normal E' V' a' s' cH hk aV cF trivial hΦ
 ·rename_i i j;have e:i=j:=he;subst e;by_cases bZ:i=id
  ·simp only[Ex.inBlock,bZ,if_true];simp only[an.qz,bZ,if_true]at hΦ;exact hQ .normal _ E' V' a' s' cH hk aV cF trivial hΦ
  ·simp only[Ex.inBlock,bZ,if_false];simp only[an.qz,bZ,if_false]at hΦ;exact hQ (.exit i) _ E' V' a' s' cH hk aV cF rfl hΦ
 ·exact hQ _ _ E' V' a' s' cH hk aV cF he hΦ
 ·exact hQ _ _ E' V' a' s' cH hk aV cF he hΦ
 ·exact hQ _ _ E' V' a' s' cH hk aV cF he hΦ
def an.v8 (Φ:an->AS->List Nat->Prop):an->AS->List Nat->Prop
 |.goto _,_,_=>False
 |e,s,ms=>Φ e s ms
theorem agE{c:Ub}{Φ:an->AS->List Nat->Prop}(h:mW lv P nt c s ms (an.v8 Φ)):mW lv P nt (.scope c) s ms Φ:=by
 intro E V a Q ai hd hQ;refine aeC (λ_ _ _ _=>False) ⟨0,h E V a _ ai hd λae e E' V' a' s' cH hk aV cF he hΦ=> ?_⟩ λ_ _ _ _ _ _ hf=>hf.elim;cases ae<;>cases e<;>first
  |exact he.elim
  |exact hΦ.elim
  |exact hQ _ _ E' V' a' s' cH hk aV cF he hΦ
theorem agX(id:Nat)(Φ:an->AS->List Nat->Prop)(s:AS)(ms:List Nat):an.qz id Φ .normal s ms=Φ .normal s ms:=by rw[an.qz];simp
theorem arY(Φ:an->AS->List Nat->Prop)(s:AS)(ms:List Nat):an.v8 Φ .normal s ms=Φ .normal s ms:=by rw[an.v8];simp
theorem ar0(Φ:an->AS->List Nat->Prop)(s:AS)(ms:List Nat):an.v8 Φ .ret s ms=Φ .ret s ms:=by rw[an.v8];simp
theorem asL(K:AS->List Nat->Prop)(Φ:an->AS->List Nat->Prop)(s:AS)(ms:List Nat):an.sK K Φ .normal s ms=K s ms:=by rw[an.sK]
theorem asN(K:AS->List Nat->Prop)(Φ:an->AS->List Nat->Prop)(s:AS)(ms:List Nat):an.sK K Φ .ret s ms=Φ .ret s ms:=by rw[an.sK];simp
@[congr] theorem auo {c : Ub} {s s' : AS} {ms cH : List Nat} {Φ : an -> AS -> List Nat -> Prop} (h : s = s') (hd : ms = cH) : mW lv P nt c s ms Φ = mW lv P nt c s' cH Φ := by rw [h, hd]
@[congr] theorem au9 {K : AS -> List Nat -> Prop} {Φ : an -> AS -> List Nat -> Prop} {e e' : an} {s s' : AS} {ms cH : List Nat} (he : e = e') (h : s = s') (hd : ms = cH) : an.sK K Φ e s ms = an.sK K Φ e' s' cH := by rw [he, h, hd]
@[congr] theorem au6 {Φ : an -> AS -> List Nat -> Prop} {e e' : an} {s s' : AS} {ms cH : List Nat} (he : e = e') (h : s = s') (hd : ms = cH) : an.v8 Φ e s ms = an.v8 Φ e' s' cH := by rw [he, h, hd]
@[congr] theorem auB {rs : List UT} {n : Nat} {k kp : AV -> List aa -> Prop} {e e' : an} {s s' : AS} {ms cH : List Nat} (he : e = e') (h : s = s') (hd : ms = cH) : sV P rs n k kp e s ms = sV P rs n k kp e' s' cH := by rw [he, h, hd]
theorem aj3(rs:List UT)(n:Nat)(k kp:AV->List aa->Prop)(s:AS)(ms:List Nat):sV P rs n k kp .ret s ms=ao (iT ms s.H) λH'=>ao (ik P ⟨s.T,H'⟩ rs) λl=>cJ n H' (jc l) k:=by rw[sV]
theorem Ar(H:List aa):iT [] H=some H:=by rw[iT]
theorem Aq{i:Nat}{ms:List Nat}{H:List aa}(h:H[i]?=some (.obj (.deferred (some [])))):iT (i::ms) H=iT ms (H.set i .gone):=by rw[iT];rw[h]
attribute [seval] agX arY ar0 asL asN aj3 Ar
end
section
variable {lv:Bool}{P:SI}{r:Option Nat}{s:AS}
theorem Qy{E:Env}{I:cE}(hI:∀b o v,E.I b o=some v->I b o=some v){n:Nat}{l:List AV}{v:SQ}(h:ap E (.sl n l .exact) v):∃a,ap (E.tok I (a,n) n) (.sl n l (.opn E.n)) v:=by
 cases h with
 |sl b o cap f dU he q1 q2=>
  have Gw:cap=n:=he;subst Gw;refine⟨some ⟨b,o,none⟩,?_⟩;have hle:=E.Np (I:=I) hI (some ⟨b,o,none⟩,cap) cap;exact .sl b o cap f dU ⟨by simp[Env.tok],by simp[Env.tok],by simp[Env.tok]⟩ (λi hi=>hle.I _ _ _ (q1 i hi)) (λi x hx=>(q2 i x hx).mono hle)
 |nil he=>exact⟨_,.nil ⟨by simp[Env.tok],by simp[Env.tok],by simp[Env.tok];rfl⟩⟩
theorem oH{nt t n sz:Nat}{c:Ub}{l:List AV}{el:TypeId}{Φ:an->AS->Prop}(ht:look s.T t=some (.sl n l .exact))(h:aQ lv P r nt c ⟨(t,.sl n l (.opn s.H.length))::s.T,s.H++[.tail n sz el]⟩ Φ):aQ lv P r nt c s Φ:=λE V a Q ai hQ=>by
 obtain⟨hlt,hd⟩:=ai.tok t _ ht;obtain⟨ad,cF⟩:=Qy (I:=V.ab) (λb o v h=>by rw[<- ai.bw.I];exact h) hd;obtain⟨hc,hle⟩:=ai.bw.OR (n:=n) sz el ad;refine h _ V a Q ⟨hc,λt' x hx=> ?_,ai.size⟩ λae e E' V' a' s' hk=>hQ ae e E' V' a' s' ((⟨hle,rfl,rfl,rfl,rfl⟩:Kept E _ V V a a).trans hk);simp only[look]at hx;split at hx
 ·rename_i e;subst e;cases hx;rw[<- ai.bw.n];exact⟨hlt,cF⟩
 ·exact⟨(ai.tok t' x hx).1,(ai.tok t' x hx).2.mono hle⟩
theorem Qz{E:Env}{l:List AV}{cs:Array SQ}{j:Nat}{a b:AV}(h:cN E l cs)(hj:l[j]?=some a)(hb:∀v,ap E a v->ap E b v):cN E (l.set j b) cs:=by
 refine⟨by rw[TJ];exact h.1,λi x hx=> ?_⟩;by_cases e:i=j
 ·subst e;rw[Xd (SN.1 hj).1]at hx;cases hx;exact hb _ (h.2 i a hj)
 ·rw[Uc (Ne.symm e)]at hx;exact h.2 i x hx
theorem agx{nt id j n sz:Nat}{c:Ub}{l l':List AV}{el gX:TypeId}{Φ:an->AS->Prop}(bZ:s.H[id]?=some (.cells l el))(hj:l[j]?=some (.sl n l' .exact))(h:aQ lv P r nt c ⟨s.T,s.H.set id (.cells (l.set j (.sl n l' (.opn s.H.length))) el)++[aa.tail n sz gX]⟩ Φ):aQ lv P r nt c s Φ:=λE V a Q ai hQ=>by
 have hc:=ai.bw;obtain⟨⟨cs,eE,hd⟩,lE⟩:=hc.obj id _ bZ;obtain⟨ad,cF⟩:=Qy (I:=V.ab) (λb o v h=>by rw[<- hc.I];exact h) (hd.2 j _ hj);obtain⟨bp,hle⟩:=hc.OR (n:=n) sz gX ad;have hlt:=(SN.1 bZ).1;have hn:(E.tok V.ab (ad,n) n).n=s.H.length+1:=by simp[Env.tok,hc.n]
 have e:s.H.set id (.cells (l.set j (.sl n l' (.opn s.H.length))) el)++[aa.tail n sz gX]=(s.H++[aa.tail n sz gX]).set id (.cells (l.set j (.sl n l' (.opn s.H.length))) el):=(UX _ _ hlt).symm;rw[e]at h;have GA:cN (E.tok V.ab (ad,n) n) (l.set j (.sl n l' (.opn s.H.length))) cs:=by
  have h0:=hd.mono hle;refine⟨by rw[TJ];exact h0.1,λi x hx=> ?_⟩;by_cases ei:i=j
  ·subst ei;rw[Xd (SN.1 hj).1]at hx;cases hx;rw[<- hc.n];exact cF
  ·rw[Uc (Ne.symm ei)]at hx;exact h0.2 i x hx
 have hb:(E.tok V.ab (ad,n) n).blk id=E.blk id:=hle.blk id (by rw[hc.n];exact hlt);have cq:Conc (E.tok V.ab (ad,n) n) V ((s.H++[aa.tail n sz gX]).set id (.cells (l.set j (.sl n l' (.opn s.H.length))) el)):=by
  have da:(s.H++[aa.tail n sz gX])[id]?=some (.cells l el):=by rw[SY hlt];exact bZ
  refine bp.iQ id _ (Env.Le.refl _) bp.I (by rw[bp.n,TJ]) lM rfl (λ_ _ _=>rfl) (λb y _ hy=>⟨hy,λ_=>rfl⟩) ⟨⟨cs,by rw[hb];exact eE,GA⟩,λo=>by rw[hb];exact lE o⟩ (λb dI=> .inl ⟨_,da,dI⟩)
 refine h _ V a Q ⟨cq,ai.tok.mono hle,ai.size⟩ λae e E' V' a' s' hk=>hQ ae e E' V' a' s' ((⟨hle,rfl,rfl,rfl,rfl⟩:Kept E _ V V a a).trans hk)
theorem agz{nt id j:Nat}{c:Ub}{l:List AV}{x y:AV}{el:TypeId}{Φ:an->AS->Prop}(bZ:s.H[id]?=some (.cells l el))(hj:l[j]?=some x)(hw:Wk x y)(h:aQ lv P r nt c ⟨s.T,s.H.set id (.cells (l.set j y) el)⟩ Φ):aQ lv P r nt c s Φ:=λE V a Q ai hQ=>by
 have hc:=ai.bw;obtain⟨⟨cs,eE,hd⟩,lE⟩:=hc.obj id _ bZ;have cq:Conc E V (s.H.set id (.cells (l.set j y) el)):=
  hc.iQ id _ (Env.Le.refl _) hc.I (by rw[hc.n,TJ]) lM rfl (λ_ _ _=>rfl) (λb y _ hy=>⟨hy,λ_=>rfl⟩) ⟨⟨cs,eE,Qz hd hj (hw E)⟩,lE⟩ (λb dI=> .inl ⟨_,bZ,dI⟩)
 exact h E V a Q ⟨cq,ai.tok,ai.size⟩ hQ
end
structure xJ (X Y Z:Prop):Type where
 n:Nat
def UG (a:AV)(cj:Bool)(X Y Z:Prop)(_t:xJ X Y Z):Prop:=(∃b,a=.val (.bool b)/\(b=cj->X)/\(b= !cj->Y))\/(a=.val undef/\Z)
theorem IE{b cj:Bool}{X Y Z:Prop}{t:xJ X Y Z}:UG (.val (.bool b)) cj X Y Z t=((b=cj->X)/\(b= !cj->Y)):=by
 unfold UG;refine propext ⟨λh=> ?_,λh=> .inl ⟨b,rfl,h⟩⟩;rcases h with⟨b',e,h⟩|⟨e,_⟩
 ·cases e;exact h
 ·cases e
theorem atk(X Y Z:Prop)(t:xJ X Y Z):UG (.val (.bool true)) true X Y Z t=X:=by rw[IE];simp
theorem atj(X Y Z:Prop)(t:xJ X Y Z):UG (.val (.bool true)) false X Y Z t=Y:=by rw[IE];simp
theorem ati(X Y Z:Prop)(t:xJ X Y Z):UG (.val (.bool false)) true X Y Z t=Y:=by rw[IE];simp
theorem ath(X Y Z:Prop)(t:xJ X Y Z):UG (.val (.bool false)) false X Y Z t=X:=by rw[IE];simp
theorem atl(cj:Bool)(X Y Z:Prop)(t:xJ X Y Z):UG (.val undef) cj X Y Z t=Z:=by
 unfold UG;refine propext ⟨λh=> ?_,λh=> .inr ⟨rfl,h⟩⟩;rcases h with⟨b',e,_⟩|⟨_,h⟩
 ·cases e
 ·exact h
section
variable (lv:Bool)(P:SI)
def oE (all:Array Tx):List Tx->AS->(AS->Prop)->(AV->AS->Prop)->Prop
 |[],s,next,_=>next s
 |o::rest,s,next,bad=>match o.guard with
  |none=>mV lv P s o (λs'=>oE all rest s' next bad) bad
  |some (j,cj)=>ao ((all[j]?).bind (·.dst)) λd=>ao (look s.T d) λa=>UG a cj (mV lv P ⟨(d,.val (.bool cj))::s.T,s.H⟩ o (λs'=>oE all rest s' next bad) bad) (oE all rest ((⟨(d,.val (.bool !cj))::s.T,s.H⟩:AS).put o.dst (.val undef)) next bad) (oE all rest (s.put o.dst (.val undef)) next bad) ⟨0⟩
end
theorem atg:type_of% @oE.eq_1:=by intros;rw[oE.eq_1]
theorem atf:type_of% @oE.eq_2:=by intros;rw[oE.eq_2]
@[congr] theorem avd {lv : Bool} {P : SI} {s s' : AS} {all : Array Tx} {l : List Tx} {next : AS -> Prop} {bad : AV -> AS -> Prop} (h : s = s') : oE lv P all l s next bad = oE lv P all l s' next bad := by rw [h]
attribute [seval] atg atf atk atj ati ath atl
section
variable {lv:Bool}{P:SI}{r:Option Nat}{s:AS}
theorem IG{nt:Nat}{all:Array Tx}{Φ:an->AS->Prop}(dx:∀o∈all,∀d,o.dst=some d->d<nt)(nW:∀o∈all,r=none\/mL o.op=false):∀(n k:Nat)(s:AS),k+n=all.size->oE lv P all (all.toList.drop k) s (Φ .normal) (λpv s=>Φ (.panic pv) s)->
  ∀(E:Env)(V:View)(a:Act)(Q:Ex->Act->View->Prop),At E V s a nt->(∀ae e E' V' a' s',Kept E E' V V' a a'->At E' V' s' a' nt->qn E' ae e->Φ ae s'->Q e a' V')->dq lv P r all Q (Ug k n) a V
 |0,k,s,hk,h,E,V,a,Q,ai,hQ=>by
  have:all.toList.drop k=[]:=by simp;omega
  rw[this]at h;exact hQ .normal .normal E V a s (Kept.refl E V a) ai trivial h
 |n+1,k,s,hk,h,E,V,a,Q,ai,hQ=>by
  have hlt:k<all.size:=by omega
  have hd:all.toList.drop k=all[k]::all.toList.drop (k+1):=by
   rw[TY (by simpa using hlt)];simp
  rw[hd]at h;have fL:all[k]∈all:=XX hlt;have ho:all[k]?=some all[k]:=SJ hlt;simp only[VU,dq,ho];have go:∀s:AS,At E V s a nt->mV lv P s all[k] (λs'=>oE lv P all (all.toList.drop (k+1)) s' (Φ .normal) (λpv s=>Φ (.panic pv) s)) (λpv s=>Φ (.panic pv) s)->xL lv P r all[k] a V (dq lv P r all Q (Ug (k+1) n)) Q:=λs ai h=>by
   refine h.sound (lv:=lv) (r:=r) E V a _ Q ai.bw ai.tok (λd e=>by rw[ai.size];exact dx _ fL d e) (nW _ fL) (λE' V' a' s' aJ bp mJ hn=> ?_) (λE' V' s' pv v aJ bp mJ bt hb=> ?_)
   ·exact IG dx nW n (k+1) s' (by omega) hn E' V' a' Q ⟨bp,mJ,aJ.size.trans ai.size⟩ (λae e bT aU cw dn fY di he hΦ=>hQ ae e bT aU cw dn (aJ.trans fY) di he hΦ)
   ·exact hQ (.panic pv) (.panic _) E' V' a s' aJ ⟨bp,mJ,ai.size⟩ ⟨v,rfl,bt⟩ hb
  simp only[oE]at h;split at h
  ·rename_i hg;have hw:Ti all[k] (yielded all a.tmps)=true:=(by unfold Ti;rw[hg]);rw[if_pos hw];exact .inl (go s ai h)
  ·rename_i j cj hg;obtain⟨d,gz,h⟩:=h.out;obtain⟨av,h1,h⟩:=h.out;rcases h with⟨b,rfl,h2,h3⟩|⟨rfl,h3⟩
   case inr=>
    have hv:=(ai.tok d _ h1).2;have hy:yielded all a.tmps j≠some cj:=by
     obtain⟨oj,kV,jn⟩:=Tf.1 gz;generalize hx:a.tmps.getD d undef=x at hv;cases hv;have mF:d<a.tmps.size:=(ai.tok d _ h1).1;rw[SH,SJ mF]at hx;simp only[S7]at hx;simp[yielded,kV,jn,SJ mF,hx,undef]
    have hw:¬Ti all[k] (yielded all a.tmps)=true:=by
     unfold Ti;rw[hg];intro h;exact hy (by simpa using h)
    rw[if_neg hw];exact IG dx nW n (k+1) (s.put all[k].dst (.val undef)) (by omega) h3 E V (a.put all[k].dst undef) Q
     ⟨by rw[fx];exact ai.bw,ai.tok.ii (λd e=>by rw[ai.size];exact dx _ fL d e) (.val undef),by rw[eo];exact ai.size⟩
     (λae e bT aU cw dn fY di he hΦ=>hQ ae e bT aU cw dn ⟨fY.le,fY.size.trans (eo _ _ _),fY.defers.trans (put_defers _ _ _),fY.role,fY.deaf⟩ di he hΦ)
   have hv:=(ai.tok d _ h1).2;have hy:yielded all a.tmps j=some b:=by
    obtain⟨oj,kV,jn⟩:=Tf.1 gz;generalize hx:a.tmps.getD d undef=x at hv;cases hv;have mF:d<a.tmps.size:=(ai.tok d _ h1).1;rw[SH,SJ mF]at hx;simp only[S7]at hx;simp[yielded,kV,jn,SJ mF,hx]
   have sw:∀b',b=b'->At E V ⟨(d,.val (.bool b'))::s.T,s.H⟩ a nt:=λb' dI=>by
    subst dI;refine⟨ai.bw,λt x e=> ?_,ai.size⟩;simp only[look]at e;split at e
    ·rename_i e';subst e';cases e;exact ai.tok d _ h1
    ·exact ai.tok t x e
   by_cases hb:b=cj
   ·have hw:Ti all[k] (yielded all a.tmps)=true:=(by unfold Ti;rw[hg];simp[hy,hb]);rw[if_pos hw];exact .inl (go _ (sw cj hb) (h2 hb))
   ·have hw:¬Ti all[k] (yielded all a.tmps)=true:=(by unfold Ti;rw[hg];simp[hy,hb]);rw[if_neg hw];have dI:b= !cj:=(by cases b<;>cases cj<;>simp_all);have wI:=h3 dI;have ai:=sw _ dI;exact IG dx nW n (k+1) ((⟨(d,.val (.bool !cj))::s.T,s.H⟩:AS).put all[k].dst (.val undef)) (by omega) wI E V (a.put all[k].dst undef) Q
     ⟨by rw[fx];exact ai.bw,ai.tok.ii (λd e=>by rw[ai.size];exact dx _ fL d e) (.val undef),by rw[eo];exact ai.size⟩
     (λae e bT aU cw dn fY di he hΦ=>hQ ae e bT aU cw dn ⟨fY.le,fY.size.trans (eo _ _ _),fY.defers.trans (put_defers _ _ _),fY.role,fY.deaf⟩ di he hΦ)
theorem agu{nt id:Nat}{ops:Array Tx}{Φ:an->AS->Prop}(hd:j9 nt ops=true)(h:oE lv P ops ops.toList s (Φ .normal) (λpv s=>Φ (.panic pv) s)):aQ lv P r nt (.region id ops false) s Φ:=by
 intro E V a Q ai hQ;refine wp_region ?_;rw[Vw];exact IG (Φ:=Φ) (λo ho d e=>(j9.out hd ho).1 d e) (λo ho=> .inr (j9.out hd ho).2) ops.size 0 s (by omega) (by simpa using h) E V a Q ai hQ
end
section
variable (lv:Bool)(P:SI)
def s7 (all:Array Tx):List Tx->AS->(AS->Prop)->Prop
 |[],s,K=>K s
 |o::rest,s,K=>match o.guard with
  |none=>AQ lv P s o λav=>s7 all rest (s.put o.dst av) K
  |some (j,cj)=>ao ((all[j]?).bind (·.dst)) λd=>ao (look s.T d) λa=>UG a cj (AQ lv P ⟨(d,.val (.bool cj))::s.T,s.H⟩ o λav=>s7 all rest ((⟨(d,.val (.bool cj))::s.T,s.H⟩:AS).put o.dst av) K) (s7 all rest ((⟨(d,.val (.bool !cj))::s.T,s.H⟩:AS).put o.dst (.val undef)) K) (s7 all rest (s.put o.dst (.val undef)) K) ⟨0⟩
end
theorem aqt:type_of% @s7.eq_1:=by intros;rw[s7.eq_1]
theorem aqs:type_of% @s7.eq_2:=by intros;rw[s7.eq_2]
@[congr] theorem au4 {lv : Bool} {P : SI} {s s' : AS} {all : Array Tx} {l l' : List Tx} {K : AS -> Prop} (hl : l = l') (h : s = s') : s7 lv P all l s K = s7 lv P all l' s' K := by rw [hl, h]
attribute [seval] aqt aqs
section
variable {lv:Bool}{P:SI}{r:Option Nat}{s:AS}{ops:Array Tx}{nt p:Nat}
end
section
variable {P:SI}
def Fj (P:SI)(d:Nat)(t:TypeId):Prop:=(∃u,P.underlying t=some u/\zZ u=false)/\∀x y:Int,cP P (VC d t (.int .i64 x) (.int .i64 y)) (x==y)
def Fl (P:SI)(d:Nat)(t:TypeId)(n:Nat):Prop:=(∃u,P.underlying t=some u/\zZ u=true)/\(∃i,P.info? t=some i/\i.size=n)/\∀xs ys:List Int,xs.length=n->ys.length=n->cP P (VC d t (.agg (xs.map (SF .i64)).toArray) (.agg (ys.map (SF .i64)).toArray)) (xs==ys)
inductive sU (P:SI)(d:Nat):Nat->List Y0->Nat->Prop
 |nil (o:Nat):sU P d o [] o
 | one {o n : Nat} {f : Y0} {fs : List Y0} (hn : f.name ≠ "_") (ho : f.offset = o) (h : Fj P d f.type) (t : sU P d (o + 1) fs n) : sU P d o (f :: fs) n
 | sub {o m n : Nat} {f : Y0} {fs : List Y0} (hn : f.name ≠ "_") (ho : f.offset = o) (h : Fl P d f.type m) (t : sU P d (o + m) fs n) : sU P d o (f :: fs) n
theorem sU.le{d o n:Nat}{fs:List Y0}(h:sU P d o fs n):o<=n:=by
 induction h with
 |nil=>exact SP _
 |one _ _ _ _ ih=>omega
 |sub _ _ _ _ ih=>omega
theorem Q3(xs:List Int)(o m:Nat):(xs.map (SF .i64)).toArray.extract o (o+m)=(((xs.drop o).take m).map (SF .i64)).toArray:=by
 simp[List.extract_eq_take_drop,Wa,ak']
theorem asp {d n N : Nat} {xs ys : List Int} {body : Y0 -> Option Bool × Unit -> Sem (ForInStep (Option Bool × Unit))} (hx : xs.length = N) (hy : ys.length = N) (hb : ∀ f s, body f s = (if f.name ≠ "_" then (do
   let a<- part f.type (xs.map (SF .i64)).toArray f.offset;let b<- part f.type (ys.map (SF .i64)).toArray f.offset;let r<- VC d f.type a b
   if(!r)=true then pure (.done (some false,()))else pure (.yield (none,())))else pure (.yield (none,())))):
  ∀{o:Nat}{fs:List Y0},sU P d o fs n->n<=N->cP P (forIn fs (none,()) body) (if(xs.drop o).take (n-o)==(ys.drop o).take (n-o)then(none,())else(some false,())):=by
 intro o fs h hn;induction h with
 |nil o=>simpa using iP (none,())
 |@one o n f fs L3 ho h t ih=>
  have hle:=t.le;have hox:o<xs.length:=by omega
  have hoy:o<ys.length:=by omega
  obtain⟨⟨u,hu,DV⟩,he⟩:=h;rw[W6,hb,if_pos L3,ho];refine lR (a:=if xs[o]==ys[o]then .yield (none,())else .done (some false,())) ?_ ?_
  ·refine EN hu DV (v:=.int .i64 xs[o]) (by simp[hox]) ?_;refine EN hu DV (v:=.int .i64 ys[o]) (by simp[hoy]) ?_;refine lR (he _ _) ?_;cases hq:xs[o]==ys[o]<;>exact iP _
  ·have e:((xs.drop o).take (n-o)==(ys.drop o).take (n-o))=((xs[o]==ys[o])&&((xs.drop (o+1)).take (n-(o+1))==(ys.drop (o+1)).take (n-(o+1)))):=by
    rw[TY hox,TY hoy,show n-o=(n-(o+1))+1 by omega,VZ,VZ];rfl
   rw[e];cases hq:xs[o]==ys[o]with
   |true=>simp only[if_true,UP];exact ih hn
   |false=>simp only[TR,if_false,Vq];exact iP _
 |@sub o m n f fs L3 ho h t ih=>
  have hle:=t.le;obtain⟨⟨u,hu,DV⟩,⟨i,hi,dj⟩,he⟩:=h;rw[W6,hb,if_pos L3,ho];refine lR (a:=if(xs.drop o).take m==(ys.drop o).take m then .yield (none,())else .done (some false,())) ?_ ?_
  ·refine ad2 hu DV hi ?_;refine ad2 hu DV hi ?_;rw[dj,Q3,Q3];refine lR (he _ _ (by rw[TC,Ur];omega) (by rw[TC,Ur];omega)) ?_;cases hq:(xs.drop o).take m==(ys.drop o).take m<;>exact iP _
  ·have e:((xs.drop o).take (n-o)==(ys.drop o).take (n-o))=(((xs.drop o).take m==(ys.drop o).take m)&&((xs.drop (o+m)).take (n-(o+m))==(ys.drop (o+m)).take (n-(o+m)))):=by
    have hs:∀zs:List Int,(zs.drop o).take (n-o)=(zs.drop o).take m++(zs.drop (o+m)).take (n-(o+m)):=λzs=>by
     rw[show n-o=m+(n-(o+m)) by omega,List.take_add,ap_]
    rw[hs,hs,Vh,Tg,beq_iff_eq,beq_iff_eq,beq_iff_eq];exact⟨λh=>List.append_inj h (by simp[TC,Ur];omega),λh=>by rw[h.1,h.2]⟩
   rw[e];cases hq:(xs.drop o).take m==(ys.drop o).take m with
   |true=>simp only[if_true,UP];exact ih hn
   |false=>simp only[TR,if_false,Vq];exact iP _
theorem aib{t:TypeId}{fs:Array Y0}{d n:Nat}{i:Wo}(ht:P.underlying t=some (.struct fs))(hs:P.stoodInHeld t=false)(hi:P.info? t=some i)(dj:i.size=n)(hf:sU P d 0 fs.toList n):Fl P (d+1) t n:=by
 refine ⟨⟨_, ht, rfl⟩, ⟨i, hi, dj⟩, λxs ys hx hy => ?_⟩;rw [VC];refine zE ht ?_;dsimp only;refine ON ?_;rw [hs];simp only [TR, if_false];rw [<- Array.forIn_toList];refine lR (a := if (xs == ys) then (none, ()) else (some false, ())) ?_ (by cases xs == ys <;> exact iP _);have := asp (body := λf (_ : Option Bool × Unit) => if f.name ≠ "_" then (do
   let a<- part f.type (xs.map (SF .i64)).toArray f.offset;let b<- part f.type (ys.map (SF .i64)).toArray f.offset;let r<- VC d f.type a b
   if(!r)=true then pure (ForInStep.done (some false,()))else pure (Y2 (none,())))else pure (Y2 (none,()))) hx hy (λf s=>rfl) hf (SP _)
 simp only[XD,Z8]at this;rw[SV (by omega),SV (by omega)]at this;exact this
theorem aia{t:TypeId}{k0:T8}{d:Nat}(ht:P.underlying t=some (.int k0)):Fj P (d+1) t:=⟨⟨_,ht,rfl⟩,λ_ _=>ad0 ht⟩
def CG (g:TypeId->Option (Option Nat)):List Y0->Nat->Option Nat
 |[],o=>some o
 | f :: fs, o => if f.name ≠ "_" /\ f.offset = o then (match g f.type with
  |some none=>CG g fs (o+1)
  |some (some m)=>CG g fs (o+m)
  |none=>none)else none
def yd (P:SI):Nat->TypeId->Option (Option Nat)
 |0,_=>none
 |d+1,t=>match P.underlying t with
  |some (.int _)=>some none
  |some (.struct fs)=>if P.stoodInHeld t then none else(match CG (yd P d) fs.toList 0,P.info? t with
   |some n,some i=>if i.size=n then some (some n)else none
   |_,_=>none)
  |_=>none
theorem Kv{d n:Nat}{g:TypeId->Option (Option Nat)}(h1:∀t,g t=some none->Fj P d t)(h2:∀t m,g t=some (some m)->Fl P d t m):∀(fs:List Y0)(o:Nat),CG g fs o=some n->sU P d o fs n
 |[],o,h=>by cases h;exact .nil _
 |f::fs,o,h=>by
  rw[CG]at h;split at h
  ·rename_i hc;split at h
   ·rename_i hg;exact .one hc.1 hc.2 (h1 _ hg) (Kv h1 h2 fs _ h)
   ·rename_i m hg;exact .sub hc.1 hc.2 (h2 _ _ hg) (Kv h1 h2 fs _ h)
   ·cases h
  ·cases h
theorem Rs:∀(d:Nat)(t:TypeId),(yd P d t=some none->Fj P d t)/\∀n,yd P d t=some (some n)->Fl P d t n
 |0,t=>⟨λh=>by simp[yd]at h,λn h=>by simp[yd]at h⟩
 |d+1,t=>by
  have ih:=λt=>Rs d t;rw[yd];split
  ·rename_i k0 hu;exact⟨λ_=>aia hu,λn h=>by cases h⟩
  ·rename_i fs hu;split
   ·exact⟨λh=>(by cases h),λn h=>by cases h⟩
   ·rename_i hs;split
    ·rename_i n i hf hi;split
     ·rename_i dj;refine⟨λh=>(by cases h),λm h=> ?_⟩;cases h;exact aib hu (by simpa using hs) hi dj (Kv (λt=>(ih t).1) (λt=>(ih t).2) _ _ hf)
     ·exact⟨λh=>(by cases h),λn h=>by cases h⟩
    ·exact⟨λh=>(by cases h),λn h=>by cases h⟩
  ·exact⟨λh=>(by cases h),λn h=>by cases h⟩
theorem afy{t:TypeId}{n:Nat}{xs ys:List Int}(h:yd P 10000 t=some (some n))(hg:P.eqGuardType P.depth t=false)(hx:xs.length=n)(hy:ys.length=n)(k:AV->Prop):dM P .eql t (.agg (xs.map iv)) (.agg (ys.map iv)) k=k (bv (xs==ys)):=by
 have DO:cP P (Xs t (.agg (xs.map (SF .i64)).toArray) (.agg (ys.map (SF .i64)).toArray)) (xs==ys):=((Rs 10000 t).2 n h).2.2 xs ys hx hy;have e:dM P .eql t (.agg (xs.map iv)) (.agg (ys.map iv)) k=((XM=.eql\/XM=.neq)/\ao (AV.raw (.agg (xs.map iv))) λX=>ao (AV.raw (.agg (ys.map iv))) λY=>Ak X Y=true/\P.eqGuardType P.depth t=false/\∃e,cP P (Xs t X Y) e/\k (.val (.bool (if XM== .neq then !e else e)))):=rfl;rw[e,zr,zr,Bl,Bl];apply propext;constructor
 ·rintro⟨_,_,_,b,h1,h2⟩
  rw[DO.uniq h1];exact h2
 ·intro h;exact⟨.inl rfl,rfl,hg,_,DO,h⟩
end
section
variable {lv:Bool}{P:SI}{s:AS}{ms:List Nat}{bs:List U3}{nt:Nat}
def uH (E:Env)(ms:List Nat)(bs l:List U3):Prop:=l=ms.map (λi=>({target:=.collected (E.blk i),args:=#[]}:U3))++bs/\∀i∈ms,i<E.n
theorem uH.mono{E E':Env}(h:E.Le E'){ms:List Nat}{bs l:List U3}(k:uH E ms bs l):uH E' ms bs l:=
 ⟨by rw[k.1];congr 1;exact VF λi hi=>by rw[h.blk i (k.2 i hi)],λi hi=>Te (k.2 i hi) h.n⟩
def kM (lv:Bool)(P:SI)(nt:Nat)(bs:List U3)(c:Ub)(s:AS)(ms:List Nat)(Φ:an->AS->List Nat->Prop):Prop:=
 ∀(E:Env)(V:View)(a:Act)(Q:Ex->Act->View->Prop),At E V s a nt->uH E ms bs a.defers->(∀ae e E' V' a' s' cH,rB E E' V V' a a'->At E' V' s' a' nt->uH E' cH bs a'.defers->qn E' ae e->Φ ae s' cH->Q e a' V')->WP lv P none c Q a V
theorem FL{c:Ub}{Φ:an->AS->List Nat->Prop}(h:aQ lv P none nt c s λe s'=>Φ e s' ms):kM lv P nt bs c s ms Φ:=λE V a Q ai hd hQ=>
 h E V a Q ai λae e E' V' a' s' hk aV he hΦ=>hQ ae e E' V' a' s' ms hk.d aV (by rw[hk.defers];exact hd.mono hk.le) he hΦ
theorem kM.mono{c:Ub}{Φ Φ':an->AS->List Nat->Prop}(h:kM lv P nt bs c s ms Φ)(hq:∀e s ms,Φ e s ms->Φ' e s ms):kM lv P nt bs c s ms Φ':=λE V a Q ai hd hQ=>
 h E V a Q ai hd λae e E' V' a' s' cH hk aV cF he hΦ=>hQ ae e E' V' a' s' cH hk aV cF he (hq _ _ _ hΦ)
theorem FM{x y:Ub}{Φ:an->AS->List Nat->Prop}(h:kM lv P nt bs x s ms (an.sK (λs' cH=>kM lv P nt bs y s' cH Φ) Φ)):kM lv P nt bs (.seq x y) s ms Φ:=by
 intro E V a Q ai hd hQ;refine wp_seq (h E V a _ ai hd λae e E' V' a' s' cH hk aV cF he hΦ=> ?_);cases ae<;>cases e<;>first
  |exact he.elim
  |exact hΦ E' V' a' Q aV cF λae e bT aU cw dn Ei aJ di AG kG ug=>hQ ae e bT aU cw dn Ei (hk.trans aJ) di AG kG ug
  |exact hQ _ _ E' V' a' s' cH hk aV cF he hΦ
theorem td{x y:Ub}{Φ:an->AS->List Nat->Prop}(h:aQ lv P none nt x s (an.then (λs'=>kM lv P nt bs y s' ms Φ) λe s'=>Φ e s' ms)):kM lv P nt bs (.seq x y) s ms Φ:=by
 refine FM (FL (h.mono λe s' hs=> ?_));cases e<;>exact hs
theorem xV{id:Nat}{c:Ub}{Φ:an->AS->List Nat->Prop}(h:kM lv P nt bs c s ms (an.qz id Φ)):kM lv P nt bs (.block id c) s ms Φ:=by
 intro E V a Q ai hd hQ;refine wp_block (h E V a _ ai hd λae e E' V' a' s' cH hk aV cF he hΦ=> ?_);cases ae<;>cases e<;>first
  |exact he.elim
  |skip
 ·exact hQ .normal .normal E' V' a' s' cH hk aV cF trivial hΦ
 ·rename_i i j;have e:i=j:=he;subst e;by_cases bZ:i=id
  ·simp only[Ex.inBlock,bZ,if_true];simp only[an.qz,bZ,if_true]at hΦ;exact hQ .normal _ E' V' a' s' cH hk aV cF trivial hΦ
  ·simp only[Ex.inBlock,bZ,if_false];simp only[an.qz,bZ,if_false]at hΦ;exact hQ (.exit i) _ E' V' a' s' cH hk aV cF rfl hΦ
 ·exact hQ _ _ E' V' a' s' cH hk aV cF he hΦ
 ·exact hQ _ _ E' V' a' s' cH hk aV cF he hΦ
 ·exact hQ _ _ E' V' a' s' cH hk aV cF he hΦ
theorem PW{α:Type}{lt:α->α->Prop}(wf:WellFounded lt){c:Ub}{Φ:an->AS->List Nat->Prop}(inv:α->AS)(mk:α->List Nat)(ok:α->Prop)(m:α)(h0:s.Sub (inv m))(vA:ms=mk m)(hm:ok m)
  (h:∀m,ok m->kM lv P nt bs c (inv m) (mk m) (an.sK (λs' cH=>∃m',lt m' m/\ok m'/\s'.Sub (inv m')/\cH=mk m') Φ)):kM lv P nt bs (.loop c) s ms Φ:=by
 subst vA;intro E V a Q ai hd hQ;refine O7 wf (I:=λm a' V'=>ok m/\∃E',rB E E' V V' a a'/\At E' V' (inv m) a' nt/\uH E' (mk m) bs a'.defers) m ⟨hm,E,(Kept.refl E V a).d,ai.sub h0,hd⟩ λm a' V' hI=> ?_;obtain⟨aq,E',hk,aV,cF⟩:=hI;refine h m aq E' V' a' _ aV cF λae e bT aU cw dn Ei aJ di AG he hΦ=> ?_;cases ae<;>cases e<;>first
  |exact he.elim
  |(obtain⟨m',h1,h2,h3,rfl⟩:=hΦ
    exact⟨m',h1,h2,bT,hk.trans aJ,di.sub h3,AG⟩)
  |exact hQ _ _ bT aU cw dn Ei (hk.trans aJ) di AG he hΦ
theorem agG{f:Tj}{ps:Array Tmp}{bO body:Ub}{fv:AV}{Φ:an->AS->List Nat->Prop}(hf:s.ev f=some fv)
  (h:∀l fn:Nat,je lv P fv (s.H++[.obj (.deferred (some [])),.loop l .ready none fn s.T nt ps bO body s.H.length]) [.fn (.yield l) [] []]
   (λ_ H'=>∃st pe fI T' jw gE gn fz gq,H'[s.H.length+1]?=some (.loop l st pe fI T' jw gE gn fz gq)/\st≠ .busy/\sZ Φ ⟨s.T,H'.set (s.H.length+1) .gone⟩ (s.H.length::ms) pe)
   (λpv H'=>Φ (.panic pv) ⟨s.T,H'⟩ (s.H.length::ms))):kM lv P nt bs (.rangeFunc f ps bO body) s ms Φ:=by
 intro E V a Q ai hm hQ;refine aeA λfn d l hd hl=> ?_;have hc:=ai.bw;have du:Conc (E.add d V.ab) (V.upd d (.deferred (some []))) (s.H++[.obj (.deferred (some []))]):=by
  refine hc.add hd _ ⟨?_,rfl,rfl,λo=> ?_⟩ (λb e=> ?_)
  ·rw[Env.dQ];simp[View.upd]
  ·rw[Env.dQ];exact hd.2 o
  ·simp only[bP,Env.dQ,Tl]at e;exact e.symm
 have Dm:E.Le (E.add d V.ab):=E.q_ d (λb o v h=>by rw[<- hc.I];exact h);have C6:(E.add d V.ab).blk s.H.length=d:=by rw[<- hc.n];exact E.dQ d _
 let E1:=E.add d V.ab;let V1:=V.upd d (.deferred (some []));have pU:E1.n=s.H.length+1:=by rw[du.n];simp
 have qO:E1.Le (E1.add l V1.ab):=E1.q_ l (λb o v h=>by rw[<- du.I];exact h);have cq:Conc (E1.add l V1.ab) (V1.upd l (.loop {state:=.ready,pending:=none,fn,tmps:=a.tmps,params:=ps,assign:=bO,body,defers:=d})) ((s.H++[.obj (.deferred (some []))])++[.loop l .ready none fn s.T nt ps bO body s.H.length]):=by
  refine du.add hl _ ⟨⟨a.tmps,?_,ai.size,(ai.tok.mono Dm).mono qO⟩,?_,λo=> ?_,?_⟩ (λb e=> ?_)
  ·have e:(E1.add l V1.ab).blk s.H.length=d:=(by rw[qO.blk s.H.length (by rw[pU];omega)];exact C6);rw[e,Env.dQ];simp[View.upd]
  ·show s.H.length<E1.n+1;omega
  ·rw[Env.dQ];exact hl.2 o
  ·exact Env.dQ _ _ _
  ·simp only[bP,Env.dQ,Tl]at e;exact e.symm
 have hle:E.Le (E1.add l V1.ab):=Dm.trans qO;have K_:(E1.add l V1.ab).blk s.H.length=d:=by rw[qO.blk s.H.length (by rw[pU];omega)];exact C6
 rw[SC]at cq;have se:∀E',(E1.add l V1.ab).Le E'->uH E' (s.H.length::ms) bs (mark a d).defers:=λE' hE=>by
  refine uH.mono hE ⟨?_,λi hi=> ?_⟩
  ·have:=(hm.mono hle).1;simp only[mark,U5,K_,Vp];rw[<- this]
  ·rcases SK.1 hi with rfl|hi
   ·show _<E1.n+1;omega
   ·exact Te (hm.2 i hi) hle.n
 have bB:=ap.ev ai.tok hf;have C8:=h l fn (E1.add l V1.ab) (V1.upd l (.loop {state:=.ready,pending:=none,fn,tmps:=a.tmps,params:=ps,assign:=bO,body,defers:=d})) (a.eval f) #[.func (.yield l) #[] #[]] cq (bB.mono hle) ⟨rfl,λi x hx=>by
  match i,hx with
  |0,hx=>cases hx;exact .fn rfl rfl (by simp) (by simp)⟩
 have key:∀o V',gW (E1.add l V1.ab) (V1.upd l (.loop {state:=.ready,pending:=none,fn,tmps:=a.tmps,params:=ps,assign:=bO,body,defers:=d}))
   (λ_ H'=>∃st pe fI T' jw gE gn fz gq,H'[s.H.length+1]?=some (.loop l st pe fI T' jw gE gn fz gq)/\st≠ .busy/\sZ Φ ⟨s.T,H'.set (s.H.length+1) .gone⟩ (s.H.length::ms) pe)
   (λpv H'=>Φ (.panic pv) ⟨s.T,H'⟩ (s.H.length::ms)) o V'->Fw l d Q a o V':=by
  intro o V' hr;cases o with
  |ret v=>
   obtain⟨av,E',H',hE,cp,fg,_,bp,st,pe,fI,T',jw,gE,gn,fz,gq,bZ,aP,hp⟩:=hr;obtain⟨dI,nV,rn,bi,Mv,tF,ub⟩:=bp.zA bZ;refine⟨_,bi,nV,aP,?_⟩;have hg:Conc E' (V'.upd l (.loop {state:=.exhausted,pending:=pe,fn:=fI,tmps:=rn,params:=gE,assign:=gn,body:=fz,defers:=E'.blk gq})) (H'.set (s.H.length+1) .gone):=bp.EH _ bZ _ (by simp only[bP,dI]);have aV:At E' (V'.upd l (.loop {state:=.exhausted,pending:=pe,fn:=fI,tmps:=rn,params:=gE,assign:=gn,body:=fz,defers:=E'.blk gq})) ⟨s.T,H'.set (s.H.length+1) .gone⟩ (mark a d) nt:=⟨hg,ai.tok.mono (hle.trans hE),ai.size⟩;have eD:rB E E' V (V'.upd l (.loop {state:=.exhausted,pending:=pe,fn:=fI,tmps:=rn,params:=gE,assign:=gn,body:=fz,defers:=E'.blk gq})) a (mark a d):=⟨hle.trans hE,rfl,cp,fg⟩;dsimp only
   match pe,hp,aV,eD with
   |none,hp,aV,eD=>exact hQ .normal .normal E' _ _ _ _ eD aV (se E' hE) trivial hp
   |some .ret,hp,aV,eD=>exact hQ .ret .ret E' _ _ _ _ eD aV (se E' hE) trivial hp
   |some (.exit i),hp,aV,eD=>exact hQ (.exit i) (.exit i) E' _ _ _ _ eD aV (se E' hE) rfl hp
   |some (.goto i),hp,aV,eD=>exact hQ (.goto i) (.goto i) E' _ _ _ _ eD aV (se E' hE) rfl hp
  |panic ch=>
   obtain⟨pv,v,E',H',rfl,hE,cp,fg,bt,bp,hp⟩:=hr;exact hQ (.panic pv) (.panic _) E' V' (mark a d) ⟨s.T,H'⟩ _ ⟨hle.trans hE,rfl,cp,fg⟩ ⟨bp,ai.tok.mono (hle.trans hE),ai.size⟩ (se E' hE) ⟨v,rfl,bt⟩ hp
 exact C8.mono (λnx V' hn=>Nx.mono key hn) (λv V' hr=>key _ _ hr)
@[congr] theorem aup {c : Ub} {s s' : AS} {ms cH : List Nat} {Φ : an -> AS -> List Nat -> Prop} (h : s = s') (hd : ms = cH) : kM lv P nt bs c s ms Φ = kM lv P nt bs c s' cH Φ := by rw [h, hd]
def uL (lv:Bool)(P:SI)(fn:YD)(R:Out->View->Prop):List U3->Vg->Array SQ->View->Prop
 |[],.returning,tmps,V=>∃v,aR P V (results fn tmps) (λx V'=>x=v/\V'=V) (λ_ _=>False)/\R (.ret v) V
 |[],.panicking ch,_,V=>R (.panic ch) V
 |d::ds,md,tmps,V=>(md matches .run)=false/\((∃b,d={target:=.collected b,args:=#[]}/\V.own b=some (.deferred (some []))/\V.role.chan≠some b/\uL lv P fn R ds md tmps (V.upd b (.deferred none)))\/
   ((∃f cW,d.target=.fn f cW)/\aR P V (invoke d.target d.args) (λnx V'=>∃g args,nx=.enter g args/\zN lv P g args md V' λou aU=>uL lv P fn R ds ou tmps aU) (λ_ _=>False)))
 |[],.run,_,_=>False
theorem EV{f:TS}{fn:YD}{kd:Xj}{R:Out->View->Prop}(hf:P.funcs[f]?=some fn){main:Bool}{J:View->SG->Prop}(C:Closed lv P main J){cs:List Uf}(hR:∀o V' CH,R o V'->Leaves P CH f kd o V'->J V' (G CH cs)):∀(ds:List U3)(md:Vg)(V:View)(fr:Uf),fr.fn=f->fr.kind=kd->fr.mode=md->fr.defers=ds->uL lv P fn R ds md fr.tmps V->J V (G fr cs)
 |[],.returning,V,fr,h1,h2,h3,h4,h=>by
  obtain⟨v,hs,hr⟩:=h;exact hR _ _ _ hr ⟨h1,h4,h2,fn,hf,h3,hs⟩
 |[],.panicking ch,V,fr,h1,h2,h3,h4,h=>hR _ _ _ h ⟨h1,h4,h2,fn,hf,h3⟩
 |[],.run,_,_,_,_,_,_,h=>h.elim
 |d::ds,md,V,fr,h1,h2,h3,h4,h=>by
  obtain⟨hm,⟨b,rfl,ho,ff,hu⟩|⟨⟨tf,cW,ht⟩,hs⟩⟩:=h
  ·refine C.step _ _ rfl λw hw=> ?_;obtain⟨es,w',V',k1,k2,k3⟩:=(Oy (P:=P) ho ff).runs hw;rcases k3 with⟨x,k3,rfl,rfl⟩|⟨_,_,hx⟩
   ·refine⟨G {fr with defers:=ds} cs,w',seen P fr.fn es,_,?_,k1.seen P fr.fn,?_⟩
    ·have e:∀main,stepG P main (G fr cs) w=unwind P main fr cs none w:=λmain=>by
      cases md with
      |run=>cases hm
      |returning=>simp[G,stepG,h3]
      |panicking ch=>simp[G,stepG,h3]
     rw[e];simp only[unwind,h4];simp[TE,k3,k2,T_,G]
    ·exact EV hf C hR ds md _ {fr with defers:=ds} h1 h2 h3 rfl hu
   ·exact hx.elim
  ·refine C.step _ _ rfl λw hw=> ?_;obtain⟨es,w',V',k1,k2,k3⟩:=hs.runs hw;rcases k3 with⟨nx,k3,g,args,rfl,hd⟩|⟨_,_,h⟩
   ·refine⟨G (Frame.enter P g args .deferred) ({fr with defers:=ds}::cs),w',seen P fr.fn es,V',?_,k1.seen P fr.fn,?_⟩
    ·have e:∀main,stepG P main (G fr cs) w=unwind P main fr cs none w:=λmain=>by
      cases md with
      |run=>cases hm
      |returning=>simp[G,stepG,h3]
      |panicking ch=>simp[G,stepG,h3]
     rw[e];obtain⟨tgt,ar⟩:=d;simp only at ht k3 k2;subst ht;simp only[unwind,h4];simp[callDeferred,TE,k3,k2,T_,G]
    ·refine hd main J C {fr with defers:=ds} cs h3 λou aU hU=> ?_;exact EV hf C hR ds ou aU {fr with defers:=ds,mode:=ou} h1 h2 rfl rfl hU
   ·exact h.elim
def aeL (lv:Bool)(P:SI)(fn:YD)(R:Out->View->Prop):Ex->Act->View->Prop
 |.normal,a,V|.ret,a,V=>uL lv P fn R a.defers .returning a.tmps V
 |.panic ch,a,V=>uL lv P fn R a.defers (.panicking ch) a.tmps V
 |_,_,_=>False
theorem ahb{f:TS}{fn:YD}{c:Ub}{args:Array SQ}{kd:Xj}{V:View}{R:Out->View->Prop}(hk:kd≠ .early)(hf:P.funcs[f]?=some fn)(hb:fn.body=some c)
  (h:WP lv P none c (aeL lv P fn R) {tmps:=args++TP (fn.ntmps-args.size) undef,defers:=[]} V):Body lv P f args kd V R:=by
 intro main J C cs hR;let b:Uf:={(default:Uf)with fn:=f,kind:=kd,roundOf:=none};have vk:Frame.enter P f args kd=on b {tmps:=args++TP (fn.ntmps-args.size) undef,defers:=[]} [.code c]:=by
  simp[Frame.enter,on,hf,hb,b]
 rw[vk];refine h main J C b [] cs hk rfl λe a' V' q=> ?_;cases e with
 |normal=>exact C.idle rfl (λw=>ED rfl) (EV hf C hR _ _ _ _ rfl rfl rfl rfl q)
 |ret=>intro k;exact C.idle rfl (λw=>EE rfl) (EV hf C hR _ _ _ _ rfl rfl rfl rfl q)
 |panic ch=>intro todo _;exact EV hf C hR _ _ _ _ rfl rfl rfl rfl q
 |exit id=>exact q.elim
 |goto l=>exact q.elim
theorem aeq{fn:YD}{R:Out->View->Prop}{tmps:Array SQ}{md:Vg}(hm:(md matches .run)=false):∀(ms:List Nat)(H H':List aa)(E:Env)(V:View)(l:List U3),iT ms H=some H'->Conc E V H->uH E ms bs l->(∀V',V'.role=V.role->V'.deaf=V.deaf->Conc E V' H'->uL lv P fn R bs md tmps V')->uL lv P fn R l md tmps V
 |[],H,H',E,V,l,hg,hc,mG,hk=>by
  rw[iT]at hg;cases hg;have:l=bs:=mG.1;subst this;exact hk V rfl rfl hc
 |i::ms,H,H',E,V,l,hg,hc,mG,hk=>by
  simp only[iT]at hg;split at hg
  ·rename_i hi;obtain⟨e,hlt⟩:=mG;simp only[U5,Vp]at e;subst e;obtain⟨p1,p2,p3,p4⟩:=hc.obj i _ hi;exact⟨hm,.inl ⟨_,rfl,p1,(hc.jv hi rfl).2,aeq hm ms _ H' E _ _ hg (hc.EH _ hi _ rfl) ⟨rfl,λj hj=>hlt j (by simp[hj])⟩ λV' h1 h2 h3=>hk V' h1 h2 h3⟩⟩
  ·cases hg
def zU (lv:Bool)(P:SI)(rs:List UT)(n:Nat)(c:AV×List AV)(k kp:AV->List aa->Prop):an->AS->List Nat->Prop
 |.normal,s,ms|.ret,s,ms=>ao (iT ms s.H) λH'=>ry lv P c H' none (λH'=>ao (ik P ⟨s.T,H'⟩ rs) λl=>cJ n H' (jc l) k) (λ_=>False)
 |.panic pv,s,ms=>ao (iT ms s.H) λH'=>ry lv P c H' (some pv) (λH'=>ao (ik P ⟨s.T,H'⟩ rs) λl=>cJ n H' (jc l) k) (λH'=>cJ n H' pv kp)
 |_,_,_=>False
end
end Go.Gg
namespace Go.Gg.Tk
structure iS where
 min:Int
 max:Int
 deriving DecidableEq
structure aB where
 number:iS
 hour:iS
 deriving DecidableEq
structure Seen where
 hour:Int
 next:iS
 deriving DecidableEq
structure ak where
 first:Int
 hours:Int
 am:Int
 seen:List Seen
 pieces:List aB
 aC:List aB
 deriving DecidableEq
def gT (b:iS)(n:Int):Bool:=decide (b.min<=n)&&decide (n<=b.max)
def fG:Nat->List Int->Int->Int
 |i,a::b::l,n=>if a<=n/\n<b then i else fG (i+1) (b::l) n
 |_,_,_=> -1
def jz (h:List Int)(n:Int):Int:=fG 0 h n
def fits (h:List Int)(y:aB)(n:Int):Bool:=decide (0<=jz h n)&&gT y.number n&&gT y.hour (jz h n)
def mR (x:ak)(hour:Nat)(n:Int):Bool:=x.seen.all λs=> !decide (s.hour=hour)||gT s.next n
def jo (x:ak):Nat->List Int->List (List Int)
 |0,pre=>if mR x (pre.length-1) (pre.getLastD 0)then[pre]else[]
 |d+1,pre=>if mR x (pre.length-1) (pre.getLastD 0)then(S0 (x.am.toNat+1)).flatMap λn:Nat=>jo x d (pre++[pre.getLastD 0+(n:Int)])else[]
def aM (x:ak):List (List Int):=jo x x.hours.toNat [x.first]
def wY (x:ak)(t:Nat):List (List Int):=if mR x 0 x.first then jo x (x.hours.toNat-1) [x.first,x.first+t]else[]
def Eo (h:List Int):List Int:=(S0 (h.getLastD 0-h.headD 0).toNat).map λi:Nat=>h.headD 0+i
def lO (h:List Int):List aB->List Int->List (List Int)
 |[],t=>[t]
 |y::ys,t=>((Eo h).filter λn=>fits h y n&& !t.contains n).flatMap λn=>lO h ys (t++[n])
def nm (h:List Int)(ns:List Int):List aB->List Nat->List (List Nat)
 |[],t=>[t]
 |s::ss,t=>((S0 ns.length).filter λp=>fits h s (ns.getD p 0)&& !t.contains p).flatMap λp=>nm h ns ss (t++[p])
structure Tr where
 bI:List Int
 aA:List Int
 bX:List Nat
 deriving DecidableEq
def sM (x:ak)(h ns:List Int):List Tr:=(nm h ns x.aC []).map λos=>⟨h,ns,os⟩
def gF (x:ak)(h:List Int):List Tr:=(lO h x.pieces []).flatMap (sM x h)
def cg (x:ak):List Tr:=(aM x).flatMap (gF x)
def v9 (x:ak)(h:List Int):List Tr:=(lO h x.pieces []).flatMap λns=>(sM x h ns).take 1
def sL (x:ak)(deep:Int)(h:List Int):List Tr:=if deep=0 then(v9 x h).take 1 else if deep=1 then v9 x h else gF x h
def IK (x:ak)(deep:Int)(t:Nat):List Tr:=(wY x t).flatMap (sL x deep)
theorem aee{i:Nat}:∀{h:List Int}{n:Int},fG i h n<i+h.length:=by
 intro h;induction h generalizing i with
 |nil=>intro n;simp[fG];omega
 |cons a h ih=>
  intro n;cases h with
  |nil=>simp[fG];omega
  |cons b l=>
   simp only[fG];split
   ·simp;omega
   ·have:=ih (i:=i+1) (n:=n);simp at this⊢;omega
theorem OT{i k:Nat}{z:Int}:∀{h:List Int}{n:Int},h.getLastD z=z->h≠[]->fG i (h++TM k z) n=fG i h n:=by
 intro h;induction h generalizing i with
 |nil=>intro n _ h;exact absurd rfl h
 |cons a h ih=>
  intro n hz _;cases h with
  |nil=>
   simp only[Zx,List.getLastD_nil]at hz;subst hz;have:∀(k i:Nat),fG i ([a]++TM k a) n= -1:=by
    intro k;induction k with
    |zero=>intro i;simp[fG]
    |succ k ihk=>
     intro i;rw[Wy,Y5];simp only[fG];rw[if_neg (by omega)];exact ihk (i+1)
   rw[this];simp[fG]
  |cons b l=>
   have:=ih (i:=i+1) (n:=n) (by simpa using hz) (by simp);simp only[Vp,fG]at this⊢;rw[this]
end Go.Gg.Tk
namespace Go.Gg.Tk
inductive dG (S:Type)where
 |go (s:S)
 |stop (s:S)
 |bad (s:S)
def bG {S α:Type}(f:S->α->dG S):List α->S->dG S
 |[],s=> .go s
 |a::l,s=>match f s a with
  |.go s'=>bG f l s'
  |r=>r
theorem rh{S α:Type}(f:S->α->dG S):∀(l m:List α)(s:S),bG f (l++m) s=match bG f l s with
  |.go s'=>bG f m s'
  |r=>r
 |[],m,s=>rfl
 |a::l,m,s=>by
  simp only[Vp,bG];cases f s a with
  |go s'=>exact rh f l m s'
  |stop s'=>rfl
  |bad s'=>rfl
theorem Oo{S α:Type}(f:S->α->dG S)(a:α)(s:S):bG f [a] s=f s a:=by
 simp only[bG];cases f s a<;>rfl
theorem EC{S α:Type}{f:S->α->dG S}{g:S->α->S}(h:∀s a,f s a=.go (g s a)):∀(l:List α)(s:S),bG f l s=.go (l.foldl g s)
 |[],s=>rfl
 |a::l,s=>by simp only[bG,h,UY];exact EC h l _
theorem Bv{S α:Type}{f:S->α->dG S}{I:S->Prop}{A:α->Prop}(h:∀s a s',I s->A a->f s a=.go s'->I s'):∀(l:List α)(s s':S),(∀a∈l,A a)->I s->bG f l s=.go s'->I s'
 |[],s,s',_,hs,e=>by cases e;exact hs
 |a::l,s,s',ha,hs,e=>by
  simp only[bG]at e;cases hf:f s a with
  |go s1=>rw[hf]at e;exact Bv h l s1 s' (λb hb=>ha b (by simp[hb])) (h s a s1 hs (ha a (by simp)) hf) e
  |stop s1=>rw[hf]at e;cases e
  |bad s1=>rw[hf]at e;cases e
def cO (h:List Int):List Int:=h++TM (4-h.length) (h.getLastD 0)
def nf (x:ak)(bm:Nat):Nat->List Int->List (List Int)
 |0,pre=>if mR x (pre.length-1) (pre.getLastD 0)then[cO pre]else[]
 |d+1,pre=>if mR x (pre.length-1) (pre.getLastD 0)then(S0 (x.am.toNat+1)).flatMap λn:Nat=>if pre.length=1/\n≠bm then[]else nf x bm d (pre++[pre.getLastD 0+(n:Int)])else[]
def kU (x:ak)(bm:Nat):List (List Int):=nf x bm x.hours.toNat [x.first]
def lV (h:List Int)(y:aB)(n:Nat):Bool:=decide (h.getD 0 0+n<h.getD 3 0)&&gT y.number (h.getD 0 0+n)&&gT y.hour (jz h (h.getD 0 0+n))
def jG (p:Nat->Bool):Nat->Nat
 |0=>0
 |n+1=>if p n then jG p n|||2^n else jG p n
theorem Cs{p:Nat->Bool}:∀{n i:Nat},(jG p n).testBit i=(decide (i<n)&&p i)
 |0,i=>by simp[jG]
 |n+1,i=>by
  have ih:=Cs (p:=p) (n:=n) (i:=i);simp only[jG];by_cases hp:p n=true
  ·rw[if_pos hp,Xp,ih,VT];by_cases hi:n=i
   ·subst hi;simp[hp]
   ·have:(i<n+1)<->i<n:=(by omega);simp[hi,this]
  ·rw[if_neg hp,ih];by_cases hi:i=n
   ·subst hi;simp at hp;simp[hp]
   ·have:(i<n+1)<->i<n:=(by omega);simp[this]
theorem FN{p:Nat->Bool}:∀{n:Nat},jG p n<2^n
 |0=>by simp[jG]
 |n+1=>by
  have ih:=FN (p:=p) (n:=n);have h1:2^n<2^(n+1):=Xf (by omega) (by omega);simp only[jG];split
  ·exact WO (Wr ih h1) h1
  ·exact Wr ih h1
def cm (h:List Int)(y:aB):Nat:=jG (lV h y) 9
def k_:List Nat->Nat->List Nat->List (List Nat)
 |[],_,t=>[t]
 |q::qs,used,t=>(S0 9).flatMap λn=>if used.testBit n|| !q.testBit n then[]else k_ qs (used|||2^n) (t++[n])
def mQ (k:Nat)(ns:List Nat):List Nat->Nat->List Nat->List (List Nat)
 |[],_,o=>[o]
 |q::qs,given,o=>(S0 k).flatMap λp=>if given.testBit p|| !q.testBit (ns.getD p 0)then[]else mQ k ns qs (given|||2^p) (o++[p])
def lP (k:Nat)(l:List Nat):List Int:=l.map (λn:Nat=>(n:Int))++TM (k-l.length) (-1)
def dZ (h:List Int)(ns:List Nat):List Int:=h++lP 4 ns++[-1, -1, -1]
def dE (h:List Int)(ns os:List Nat):List Int:=h++lP 4 ns++lP 3 os
def gg (x:ak)(h:List Int):List (List Nat):=k_ (x.pieces.map (cm h)) 0 []
def iE (x:ak)(h:List Int)(ns:List Nat):List (List Nat):=mQ x.pieces.length ns (x.aC.map (cm h)) 0 []
def jA (x:ak)(deep:Int)(h:List Int):List (List Int):=
 let all:=(gg x h).map λns=>(iE x h ns).map λos=>dE h ns os
 if deep=0 then all.flatten.take 1 else if deep=1 then(all.map (·.take 1)).flatten else all.flatten
end Go.Gg.Tk
namespace Go.Gg.Tk
structure Kn where
 has:Bool
 aM:List (List Int)
 aA:List Nat
 hours:List Nat
 less:List Nat
 aX:List Nat
 first:List Int
def Kn.zero:Kn:=⟨false,[],[0,0,0,0],[0,0,0,0],[0,0,0,0],[0,0,0],TM 11 0⟩
def pz (l:List Nat)(p n:Nat):List Nat:=l.set p (l.getD p 0|||2^n)
def jW (hs:List (List Int))(h:List Int):List (List Int):=if h∈hs then hs else hs++[h]
def mT (t:List Int)(p:Nat):Nat:=(t.getD (4+p) 0).toNat
def EO (t:List Int)(p:Nat):Nat:=(jz (t.take 4) (t.getD (4+p) 0+t.getD 0 0)).toNat
def sI (t:List Int)(s:Nat):Nat:=(t.getD (8+s) 0).toNat
def j7 (F:Kn)(t:List Int):Kn:=if F.has then F else{F with has:=true,first:=t}
def nq (t:List Int):Nat->List Nat->List Nat
 |0,l=>l
 |s+1,l=>pz (nq t s l) s (sI t s)
def sA (t:List Int):Nat->List Nat->List Nat
 |0,l=>l
 |p+1,l=>pz (sA t p l) p (mT t p)
def w9 (t:List Int):Nat->List Nat->List Nat
 |0,l=>l
 |p+1,l=>pz (w9 t p l) p (EO t p)
def xg (t:List Int)(p:Nat):Nat->List Nat->List Nat
 |0,l=>l
 |q+1,l=>if t.getD (4+p) 0<t.getD (4+q) 0 then pz (xg t p q l) p q else xg t p q l
def zf (t:List Int)(k:Nat):Nat->List Nat->List Nat
 |0,l=>l
 |p+1,l=>xg t p k (zf t k p l)
def eK (x:ak)(deep:Int)(F:Kn)(t:List Int):Kn:=
 let F:=j7 F t
 if deep=2 then{F with aX:=nq t x.aC.length F.aX}
 else if deep=0 then{F with aM:=jW F.aM (t.take 4)}
 else{F with aA:=sA t x.pieces.length F.aA,hours:=w9 t x.pieces.length F.hours,less:=zf t x.pieces.length x.pieces.length F.less}
def gU (x:ak)(deep:Int)(bm:Nat):Kn:=((kU x bm).flatMap (jA x deep)).foldl (eK x deep) Kn.zero
def ml (l m:List Nat):List Nat:=(List.zipWith (·|||·) l m)
end Go.Gg.Tk
namespace Go.Gg
open Go.Conc Go.Gg.Tk
theorem IM{n:Nat}(h:n<65536):S6.wrap (n:Int)=n:=by
 have h1:S6.bits=16:=rfl;have h2:S6.signed=false:=rfl;unfold Xh;rw[h1,h2];simp;omega
theorem Cw{n:Nat}(h:n<65536):(Ul S6.bits (n:Int)).toNat=n:=by
 have h1:S6.bits=16:=rfl;rw[h1,BitVec.ofInt_natCast,BitVec.toNat_ofNat];omega
theorem akH{m n:Nat}(hm:m<65536):(S6.wrap (Ul S6.bits ((m:Int).fdiv (2^(min n S6.bits)))&&&Ul S6.bits 1).toNat==1)=m.testBit n:=by
 have h1:S6.bits=16:=rfl;have e:(m:Int).fdiv (2^(min n S6.bits))=((m/2^(min n 16):Nat):Int):=by
  rw[h1,Int.fdiv_eq_ediv_of_nonneg _ (by exact_mod_cast XY _)];norm_cast
 have hlt:m/2^(min n 16)<65536:=Zm (Nat.div_le_self _ _) hm;rw[e,BitVec.toNat_and,Cw hlt,show (Ul S6.bits 1).toNat=1 from rfl,IM (Zm Nat.and_le_left hlt)];have hb:m/2^(min n 16)&&&1=(m/2^(min n 16)) % 2:=Nat.and_one_is_mod _;rw[hb];have ht:m.testBit n=decide (m/2^n % 2=1):=Nat.testBit_eq_decide_div_mod_eq;by_cases hn:n<=16
 ·rw[WB hn,ht];by_cases h:m/2^n % 2=1
  ·simp[h]
  ·have:m/2^n % 2=0:=(by omega);simp[this]
 ·rw[Nat.min_eq_right (by omega)];have h0:m/2^16=0:=Nat.div_eq_of_lt (by omega);have h2:m.testBit n=false:=Nat.testBit_lt_two_pow (Te hm (by calc 65536=2^16:=rfl
   _<=2^n:=UZ (by omega) (by omega)))
  rw[h0,h2];rfl
theorem atr{m n:Nat}(hm:m<65536)(hn:n<16):S6.wrap (Ul S6.bits (m:Int)|||Ul S6.bits (S6.wrap (1* 2^(min n S6.bits)))).toNat=((m|||2^n:Nat):Int):=by
 have h1:S6.bits=16:=rfl;have hp:2^n<65536:=by calc 2^n<2^16:=Xf (by omega) hn
  _=65536:=rfl
 have e:S6.wrap (1* 2^(min n S6.bits))=((2^n:Nat):Int):=by
  rw[h1,WB (by omega),Int.one_mul,<- IM hp];norm_cast
 rw[e,Zv,Cw hm,Cw hp];exact IM (WO (n:=16) hm hp)
theorem H7{m n:Nat}(hm:m<65536)(hn:n<65536):S6.wrap (Ul S6.bits (m:Int)|||Ul S6.bits (n:Int)).toNat=((m|||n:Nat):Int):=by
 rw[Zv,Cw hm,Cw hn];exact IM (WO (n:=16) hm hn)
theorem qh{m n:Nat}(hm:m<65536)(hn:n<65536):m|||n<65536:=WO (n:=16) hm hn
theorem xz{n:Nat}(hn:n<16):2^n<65536:=by calc 2^n<2^16:=Xf (by omega) hn
  _=65536:=rfl
abbrev wv (m:Nat):AV:=.val (.int .u16 m)
def cZ {S:Type}(Gf:S->List aa)(pv:AV)(k kp:AV->List aa->Prop)(M:List aa):dG S->Prop
 |.go s=>k (.val (.bool true)) (Gf s++M)
 |.stop s=>k (.val (.bool false)) (Gf s++M)
 |.bad s=>kp pv (Gf s++M)
def gk {S:Type}(Gf:S->List aa)(pv:AV)(k kp:AV->List aa->Prop)(M:List aa):dG S->Prop
 |.go s=>k (.aO []) (Gf s++M)
 |.stop s=>k (.aO []) (Gf s++M)
 |.bad s=>kp pv (Gf s++M)
structure j6 (lv:Bool)(P:SI)(yv:AV){S:Type}(f:S->List Int->dG S)(Gf:S->List aa)(N:Nat)(I:S->Prop)(A:List Int->Prop)(pv:AV):Prop where
 call:∀(σ:S)(a:List Int)(M:List aa)(k kp:AV->List aa->Prop),I σ->A a->cZ Gf pv k kp M (f σ a)->je lv P yv (Gf σ++M) [.agg (a.map λn=> .val (.int .i64 n))] k kp
 inv:∀σ a σ',I σ->A a->f σ a=.go σ'->I σ'
 len:∀σ,(Gf σ).length=N
 ok:∀m σ σ',(∀z∈Gf σ,e_ m z)->∀z∈Gf σ',e_ m z
 sure:yv.sure=true
 parts:yv.parts=some [yv]
 leaf:yv.leaf=true
theorem j6.get{lv:Bool}{P:SI}{yv:AV}{S:Type}{f:S->List Int->dG S}{Gf:S->List aa}{N:Nat}{I:S->Prop}{A:List Int->Prop}{pv:AV}(h:j6 lv P yv f Gf N I A pv)(σ:S)(L:List aa)(i:Nat):(Gf σ++L)[N+i]?=L[i]?:=by
 rw[<- h.len σ,S_ (by omega)];congr 1;omega
theorem j6.set{lv:Bool}{P:SI}{yv:AV}{S:Type}{f:S->List Int->dG S}{Gf:S->List aa}{N:Nat}{I:S->Prop}{A:List Int->Prop}{pv:AV}(h:j6 lv P yv f Gf N I A pv)(σ:S)(L:List aa)(i:Nat)(x:aa):(Gf σ++L).set (N+i) x=Gf σ++L.set i x:=by
 rw[<- h.len σ,Ud _ _ (by omega)];congr 2;omega
theorem j6.aq{lv:Bool}{P:SI}{yv:AV}{S:Type}{f:S->List Int->dG S}{Gf:S->List aa}{N:Nat}{I:S->Prop}{A:List Int->Prop}{pv:AV}(h:j6 lv P yv f Gf N I A pv){σ:S}{M:List aa}(hH:bF (Gf σ++M))(σ':S):bF (Gf σ'++M):=λz hz=>by
 have hl:(Gf σ'++M).length=(Gf σ++M).length:=by simp[h.len]
 rw[hl];rcases SS.1 hz with h'|h'
 ·exact h.ok _ σ σ' (λw hw=>hH w (Th _ hw)) z h'
 ·exact hH z (S4 _ h')
def sX (l:Nat)(S:Nat->AS)(ok:Nat->Prop)(m:Nat)(Φ:an->AS->Prop):an->AS->Prop
 |.goto l',s=>l'=l/\∃m',m'<m/\ok m'/\s.Sub (S m')
 |e,s=>Φ e s
section
variable {lv:Bool}{P:SI}{r:Option Nat}{s:AS}
end
theorem anT(l:Nat)(S:Nat->AS)(ok:Nat->Prop)(m:Nat)(Φ:an->AS->Prop)(s:AS):sX l S ok m Φ .normal s=Φ .normal s:=by rw[sX];simp
theorem anV(l:Nat)(S:Nat->AS)(ok:Nat->Prop)(m:Nat)(Φ:an->AS->Prop)(s:AS):sX l S ok m Φ .ret s=Φ .ret s:=by rw[sX];simp
theorem anS(l:Nat)(S:Nat->AS)(ok:Nat->Prop)(m:Nat)(Φ:an->AS->Prop)(i:Nat)(s:AS):sX l S ok m Φ (.exit i) s=Φ (.exit i) s:=by rw[sX];simp
theorem anU(l:Nat)(S:Nat->AS)(ok:Nat->Prop)(m:Nat)(Φ:an->AS->Prop)(a:AV)(s:AS):sX l S ok m Φ (.panic a) s=Φ (.panic a) s:=by rw[sX];simp
@[congr] theorem au0 {l m : Nat} {S : Nat -> AS} {ok : Nat -> Prop} {s s' : AS} {Φ : an -> AS -> Prop} {e e' : an} (he : e = e') (h : s = s') : sX l S ok m Φ e s = sX l S ok m Φ e' s' := by rw [he, h]
attribute [seval] anT anV anS anU
open Go.Proofs
namespace Tk
def iS.l (b:iS):List AV:=[iv b.min,iv b.max]
def iS.av (b:iS):AV:=.agg b.l
def aB.l (y:aB):List AV:=[iv y.number.min,iv y.number.max,iv y.hour.min,iv y.hour.max]
def aB.av (y:aB):AV:=.agg y.l
def Seen.l (s:Seen):List AV:=[iv s.hour,iv s.next.min,iv s.next.max]
def Seen.av (s:Seen):AV:=.agg s.l
def aL (xs:List Int):AV:=.sl xs.length (xs.map iv) .shut
def lm (ls:List (List Int)):AV:=.sl ls.length (ls.map aL) .shut
def aT (xs:List aB):AV:=.sl xs.length (xs.flatMap aB.l) .shut
def dt (xs:List Seen):AV:=.sl xs.length (xs.flatMap Seen.l) .shut
def ak.l (x:ak):List AV:=[iv x.first,iv x.hours,iv x.am,dt x.seen,aT x.pieces,aT x.aC]
def ak.av (x:ak):AV:=.agg x.l
theorem aB.len(b:aB):b.l.length=4:=rfl
theorem Seen.len(b:Seen):b.l.length=3:=rfl
end Tk
section
variable {i:Nat}
theorem eg{xs:List Int}{x:Int}(h:xs[i]?=some x):AV.shift i (.rp (xs.map iv))=some (.rp (iv x::(xs.drop (i+1)).map iv)):=by have:=OE (f:=iv) h;rwa [XH]at this
theorem v7{xs:List (List Int)}{x:List Int}(h:xs[i]?=some x):AV.shift i (.rp (xs.map aL))=some (.rp (aL x::(xs.drop (i+1)).map aL)):=by have:=OE (f:=aL) h;rwa [XH]at this
theorem BA{xs:List aB}{x:aB}(h:xs[i]?=some x):AV.shift (i* 4) (.rp (xs.flatMap aB.l))=some (.rp (iv x.number.min::iv x.number.max::iv x.hour.min::iv x.hour.max::(xs.drop (i+1)).flatMap aB.l)):=OD aB.len h
theorem OC{xs:List Seen}{x:Seen}(h:xs[i]?=some x):AV.shift (i* 3) (.rp (xs.flatMap Seen.l))=some (.rp (iv x.hour::iv x.next.min::iv x.next.max::(xs.drop (i+1)).flatMap Seen.l)):=OD Seen.len h
end
theorem zg(n:Nat)(xs:List Int):Lt n (aL xs)=True:=by simp[aL,qb,ec]
theorem Bd(n:Nat)(xs:List (List Int)):Lt n (lm xs)=True:=by
 simp only[lm,qb,Tm,eq_iff_iff,iff_true]
 rintro a ⟨b,_,rfl⟩
 rw[zg];trivial
theorem HH(n:Nat)(xs:List aB):Lt n (aT xs)=True:=by
 simp only[aT,qb,S5,eq_iff_iff,iff_true]
 rintro a ⟨b,_,h⟩
 simp only[aB.l,SK,SZ,or_false]at h;rcases h with rfl|rfl|rfl|rfl<;>exact .val _
theorem abT(n:Nat)(xs:List Seen):Lt n (dt xs)=True:=by
 simp only[dt,qb,S5,eq_iff_iff,iff_true]
 rintro a ⟨b,_,h⟩
 simp only[Seen.l,SK,SZ,or_false]at h;rcases h with rfl|rfl|rfl<;>exact .val _
theorem Eg(n:Nat)(x:ak):∀a∈x.l,Lt n a:=by
 intro a ha;simp only[ak.l,SK,SZ,or_false]at ha;rcases ha with rfl|rfl|rfl|rfl|rfl|rfl
 ·exact .val _
 ·exact .val _
 ·exact .val _
 ·rw[abT];trivial
 ·rw[HH];trivial
 ·rw[HH];trivial
theorem HI(n:Nat)(x:ak):Lt n x.av=True:=by simp only[ak.av,ul,eq_iff_iff,iff_true];exact Eg n x
open Go.Conc Go.Proofs Go.Gg.Tk
namespace Tk
structure mX (h:List Int):Prop where
 len:h.length=4
 lo:∀a∈h,0<=a
 hi:∀a∈h,a<=1000
 span:h.getD 3 0<=h.getD 0 0+9
theorem mX.out{h:List Int}(k:mX h):∃a b c d,h=[a,b,c,d]/\(0<=a/\a<=1000)/\(0<=b/\b<=1000)/\(0<=c/\c<=1000)/\(0<=d/\d<=1000)/\d<=a+9:=by
 match h,k with
 |[a,b,c,d],k=>exact⟨a,b,c,d,rfl,⟨k.lo a (by simp),k.hi a (by simp)⟩,⟨k.lo b (by simp),k.hi b (by simp)⟩,⟨k.lo c (by simp),k.hi c (by simp)⟩,⟨k.lo d (by simp),k.hi d (by simp)⟩,by simpa using k.span⟩
theorem ajU{h:List Int}{y:aB}{n:Nat}(hn:(h.getD 3 0-h.getD 0 0).toNat<=n):lV h y n=false:=by
 unfold lV;rw[show decide (h.getD 0 0+(n:Int)<h.getD 3 0)=false from decide_eq_false (by omega)];rfl
theorem ajV{h:List Int}{y:aB}(hs:h.getD 3 0<=h.getD 0 0+9):cm h y=jG (lV h y) (h.getD 3 0-h.getD 0 0).toNat:=by
 apply Nat.eq_of_testBit_eq;intro i;unfold cm;rw[Cs,Cs];by_cases hi:i<(h.getD 3 0-h.getD 0 0).toNat
 ·have h9:i<9:=by omega
  rw[decide_eq_true hi,decide_eq_true h9]
 ·rw[ajU (by omega)];simp
theorem Rr(h:List Int)(y:aB):cm h y<512:=FN (n:=9)
end Tk
theorem wE{α:Type}{xs:List α}{i:Nat}{x:α}(h:xs[i]?=some x):xs.drop i=x::xs.drop (i+1):=by
 obtain⟨h1,h2⟩:=SN.1 h;rw[TY h1,h2]
section
variable {lv:Bool}{H:List aa}{k kp:AV->List aa->Prop}
theorem Ko{b:iS}{n:Int}(hk:k (bv (gT b n)) H):bc lv SA 88 H [b.av,iv n] k kp:=by
 refine bD (rs:=[.tmp 4]) (nt:=15) Tryz.f88 λhH hA=> ?_;simp only[bk,SU,iS.av,iS.l];refine aj ?_;refine aj ?_;refine yk (λh=> ?_) (λh=> ?_)
 ·(try simp only[seval]);refine aZ ?_;exact jj hH (by simpa[gT,h]using hk)
 ·(try simp only[seval]);refine aZ ?_;exact jj hH (by simpa[gT,h]using hk)
theorem Rk{h:List Int}{n:Int}(h4:h.length=4)(hk:k (iv (jz h n)) H):bc lv SA 90 H [.agg (h.map iv),iv n] k kp:=by
 refine bD (rs:=[.tmp 4]) (nt:=24) Tryz.f90 λhH hA=> ?_;simp only[bk,SU];have oY:(h.map iv).length=4:=by simp[h4]
 refine aj ?_;refine aj ?_;refine bU ?_;refine uN 3 (λi:Nat=>[(6,iv i)]) (λ_=>_) (λi=>jz h n=fG i (h.drop i) n) rfl (λbC bW i cK hi R hR=> ?_);refine aj ?_;refine aD ?_;refine⟨λhc=> ?_,λhc=> ?_⟩
 ·
  have qK:i<3:=by omega
  obtain⟨a,ha⟩:=bK (xs:=h) (i:=i) (by omega);obtain⟨b,hb⟩:=bK (xs:=h) (i:=i+1) (by omega);have e4:(0<=(i:Int)/\(i:Int)<4)=True:=by simp;omega
  have QQ:(0<=(i:Int)+1/\(i:Int)+1<4)=True:=by simp;omega
  have hw:SD.wrap ((i:Int)+1)=(i:Int)+1:=br _ (by omega);have pU:((i:Int)+1).toNat=i+1:=by omega
  have lI:fG i (h.drop i) n=if a<=n/\n<b then(i:Int)else fG (i+1) (h.drop (i+1)) n:=by
   rw[wE ha,wE hb];simp only[fG]
  refine aK ?_;refine aj ?_;refine ah ?_;simp only[seval,e4,QQ,hw,pU,lw ha,lw hb];refine yk (λh2=> ?_) (λh2=> ?_)
  ·(try simp only[seval,e4,QQ,hw,pU,lw ha,lw hb]);refine aD ?_;refine⟨λh3=> ?_,λh3=> ?_⟩
   ·refine aj ?_;refine aZ ?_;rw[hi,lI,if_pos ⟨of_decide_eq_true h2,h3⟩]at hk;exact jj hH hk
   ·refine aK ?_;refine ah ?_;simp only[seval,hw];refine hR _ ⟨by omega,?_,cz⟩;rw[hi,lI,if_neg (λq=>h3 q.2)]
  ·(try simp only[seval]);refine aD ?_;refine aK ?_;refine ah ?_;simp only[seval,hw];refine hR _ ⟨by omega,?_,cz⟩;rw[hi,lI,if_neg (λq=>by simp at h2;omega)]
 ·
  have:i=3:=by omega
  subst this;refine bR ?_;refine aj ?_;refine aZ ?_;have hm:fG 3 (h.drop 3) n= -1:=by
   match h,h4 with
   |[a,b,c,d],_=>rfl
  rw[hi,hm]at hk;exact jj hH hk
theorem yc{m n:Nat}(hm:m<65536)(hk:k (bv (m.testBit n)) H):bc lv SA 67 H [wv m,iv n] k kp:=by
 refine bD (rs:=[.tmp 4]) (nt:=10) Tryz.f67 λhH hA=> ?_;simp only[bk,SU];refine aj ?_;refine ah ?_;simp only[seval,Ci,afp];refine aZ ?_;refine b8 ?_;rw[akH hm];exact hk
theorem u5{m n:Nat}(hm:m<65536)(hn:n<16)(hk:k (wv (m|||2^n)) H):bc lv SA 68 H [wv m,iv n] k kp:=by
 refine bD (rs:=[.tmp 4]) (nt:=9) Tryz.f68 λhH hA=> ?_;simp only[bk,SU];refine aj ?_;refine ah ?_;simp only[seval,afA,Ch];refine aZ ?_;refine b8 ?_;rw[atr hm hn];exact hk
theorem F3{h:List Int}{y:aB}(hh:mX h)(hk:k (wv (cm h y)) H):bc lv SA 65 H [.agg (h.map iv),y.av] k kp:=by
 refine bD (rs:=[.tmp 4]) (nt:=34) Tryz.f65 λhH hA=> ?_;simp only[bk,SU,aB.av,aB.l];obtain⟨a,b,c,d,rfl,ha,hb,hc,hd,hs⟩:=hh.out;have pH:cm [a,b,c,d] y=jG (lV [a,b,c,d] y) (d-a).toNat:=ajV hs;have hz:wv (jG (lV [a,b,c,d] y) 0)=wv 0:=rfl;refine aj ?_;refine aj ?_;refine aj ?_;refine bU ?_;refine eI (d-a).toNat (λi:Nat=>[(6,iv (a+i)),(5,wv (jG (lV [a,b,c,d] y) i))]) (λ_=>_) (λi=>True) (λ_ _=>rfl) (by rw[hz];simp only[seval];simp[a_,Wk.refl];exact Wk.refl _) rfl (λ_ _ _=>rfl) trivial (λbC bW i cK hi R hR=> ?_);refine aj ?_;refine aD ?_;have cR:jG (lV [a,b,c,d] y) i<65536:=Te FN (TV (UZ (by omega) (show i<=16 by omega)) (by decide));refine⟨λhc=> ?_,λhc=> ?_⟩
 ·
  have hlt:i<(d-a).toNat:=by omega
  have hw:SD.wrap (a+(i:Int)+1)=a+((i+1:Nat):Int):=by rw[br _ (by omega)];push_cast;omega
  have eS:SD.wrap (a+(i:Int)-a)=(i:Int):=by rw[br _ (by omega)];omega
  have Gt:lV [a,b,c,d] y i=(gT y.number (a+i)&&gT y.hour (jz [a,b,c,d] (a+i))):=by
   unfold lV;rw[show decide ([a,b,c,d].getD 0 0+(i:Int)<[a,b,c,d].getD 3 0)=true from decide_eq_true (show a+(i:Int)<d by omega),UP];rfl
  refine aK ?_;refine bU ?_;refine eO 12 ?_;simp only[seval];refine ij (bv (gT y.number (a+i))) (cC (Ko (b:=y.number) ⟨rfl,rfl⟩)) ?_;(try simp only[seval]);refine yk (λh2=> ?_) (λh2=> ?_)
  ·(try simp only[seval]);refine ij (iv (jz [a,b,c,d] (a+i))) (cC (Rk (h:=[a,b,c,d]) rfl ⟨rfl,rfl⟩)) ?_;(try simp only[seval]);refine ij (bv (gT y.hour (jz [a,b,c,d] (a+i)))) (cC (Ko (b:=y.hour) ⟨rfl,rfl⟩)) ?_;(try simp only[seval]);refine aD ?_;rw[h2,UP]at Gt;refine⟨λh3=> ?_,λh3=> ?_⟩
   ·refine ah ?_;simp only[seval,eS];refine aH ((u5 cR (show i<16 by omega) ?_));(try simp only[seval]);refine ah ?_;simp only[seval,hw];refine hR _ ⟨by omega,trivial,?_⟩;rw[show jG (lV [a,b,c,d] y) (i+1)=jG (lV [a,b,c,d] y) i|||2^i from by rw[jG,Gt,h3];rfl];exact cz
   ·refine aK ?_;refine ah ?_;simp only[seval,hw];refine hR _ ⟨by omega,trivial,?_⟩;rw[show jG (lV [a,b,c,d] y) (i+1)=jG (lV [a,b,c,d] y) i from by rw[jG,Gt,h3];rfl];exact cz
  ·(try simp only[seval]);refine aD ?_;refine aK ?_;refine ah ?_;simp only[seval,hw];refine hR _ ⟨by omega,trivial,?_⟩;rw[show jG (lV [a,b,c,d] y) (i+1)=jG (lV [a,b,c,d] y) i from by rw[jG,Gt,show gT y.number (a+i)=false by simpa using h2];rfl];exact cz
 ·have:i=(d-a).toNat:=by omega
  subst this;refine bR ?_;refine aj ?_;refine aZ ?_;rw[pH]at hk;exact jj hH hk
end
open Go.Conc Go.Proofs Go.Gg.Tk
namespace Tk
structure sT (b:iS)(hi:Int):Prop where
 min:0<=b.min
 le:b.min<=b.max
 max:b.max<=hi
structure I5 (x:ak)(y:aB):Prop where
 number:sT y.number 99
 hour:sT y.hour (x.hours-1)
structure ak.Ok (x:ak):Prop where
 first:0<=x.first/\x.first<=90
 hours:1<=x.hours/\x.hours<=3
 am:1<=x.am/\x.am<=3
 zw:x.seen.length<=3
 ey:x.pieces.length<=4
 dp:x.aC.length<=3
 seen:∀s∈x.seen,(0<=s.hour/\s.hour<=x.hours)/\sT s.next 99
 piece:∀y∈x.pieces,I5 x y
 stub:∀y∈x.aC,I5 x y
def uv (hour:Nat)(n:Int)(s:Seen):Bool:= !decide (s.hour=hour)||gT s.next n
theorem ac7(x:ak)(hour:Nat)(n:Int):mR x hour n=x.seen.all (uv hour n):=rfl
end Tk
theorem fV{H L:List aa}{i:Nat}{x:aa}(h:H[i]?=some x):(H++L)[i]?=some x:=by rw[SY (SN.1 h).1];exact h
theorem aW(Hs L:List aa)(i:Nat):(Hs++L)[Hs.length+i]?=L[i]?:=by rw[S_ (by omega)];congr 1;omega
theorem dL(Hs L:List aa)(i:Nat)(y:aa):(Hs++L).set (Hs.length+i) y=Hs++L.set i y:=by rw[Ud _ _ (by omega)];congr 2;omega
section
variable {lv:Bool}{H:List aa}{k kp:AV->List aa->Prop}
theorem Rj{x:ak}{h:List Int}{hour ir ih:Nat}{n:Int}(hx:x.Ok)(h4:h.length=4)(hn:h[hour]?=some n)(hr:H[ir]?=some (.cells x.l 76))(hi:H[ih]?=some (.cells (h.map iv) 83))(hk:k (bv (mR x hour n)) H):bc lv SA 87 H [iv hour,.op ir 0,.op ih 0] k kp:=by
 refine bD (rs:=[.tmp 4]) (nt:=29) Tryz.f87 λhH hA=> ?_;simp only[bk,SU];have pO:hour<4:=by have:=eX hn;omega
 have b4:(0<=(hour:Int)/\(hour:Int)<4)=True:=by simp;omega
 have hlen:=hx.zw;have yP:∀L:List aa,(H++L)[ir]?=some (.cells x.l 76):=λL=>fV hr;have cG:∀L:List aa,(H++L)[ih]?=some (.cells (h.map iv) 83):=λL=>fV hi;have bS:x.l=[iv x.first,iv x.hours,iv x.am,dt x.seen,aT x.pieces,aT x.aC]:=rfl;refine aj ?_;refine ah ?_;simp only[seval,hr,bS,dt];refine bU ?_;refine uN x.seen.length (λi:Nat=>[(11,iv i)]) (λ_=>H) (λi=>x.seen.all (uv hour n)=(x.seen.drop i).all (uv hour n)) rfl (λbC bW i cK hI R hR=> ?_);refine aj ?_;refine aD ?_;refine⟨λhc=> ?_,λhc=> ?_⟩
 ·
  have bx:i<x.seen.length:=by omega
  obtain⟨s,hs⟩:=bK bx;have lI:x.seen.all (uv hour n)=(uv hour n s&&(x.seen.drop (i+1)).all (uv hour n)):=by rw[hI,wE hs];rfl
  have hw:SD.wrap ((i:Int)+1)=((i+1:Nat):Int):=by rw[br _ (by omega)];rfl
  refine aK ?_;refine ah ?_;simp only[seval,OC hs,jh bx];refine eO 13 ?_;simp only[seval,cG,b4,lw hn];refine yk (λh2=> ?_) (λh2=> ?_)
  ·(try simp only[seval,cG,b4,lw hn]);refine ij (bv (gT s.next n)) (cC (Ko (b:=s.next) ⟨rfl,rfl⟩)) ?_;(try simp only[seval]);refine aD ?_;have hp:uv hour n s=gT s.next n:=(by unfold uv;rw[decide_eq_true (show s.hour=(hour:Int) by simpa using h2)];rfl);rw[hp]at lI;refine⟨λh3=> ?_,λh3=> ?_⟩
   ·refine aj ?_;refine aZ ?_;rw[ac7,lI,h3]at hk;exact jj hH hk
   ·refine aK ?_;refine ah ?_;simp only[seval,hw];refine hR _ ⟨bx,?_,(acZ bC)⟩;rw[lI,h3];rfl
  ·(try simp only[seval]);refine aD ?_;refine aK ?_;have hp:uv hour n s=true:=(by unfold uv;rw[decide_eq_false (show ¬s.hour=(hour:Int) by simpa using h2)];rfl);rw[hp]at lI;refine ah ?_;simp only[seval,hw];refine hR _ ⟨bx,?_,(acZ bC)⟩;rw[lI];rfl
 ·
  have:i=x.seen.length:=by omega
  subst this;refine bR ?_;refine aj ?_;refine aZ ?_;rw[ac7,hI,List.drop_length]at hk;exact b8 hk
end
end Go.Gg
