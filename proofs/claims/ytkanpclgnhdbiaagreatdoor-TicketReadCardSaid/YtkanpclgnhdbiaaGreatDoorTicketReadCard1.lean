/- A part of the proof. -/
import Derived.Test.YtkanpclgnhdbiaaGreatDoorTicketReadCard0
import Derived.Test.YtkanpclgnhdbiaaGreatDoorProg
import Derived.KernelRfl
set_option linter.all false
set_option maxRecDepth 4000
set_option maxHeartbeats 4000000
open Array renaming all_eq_true_iff_forall_mem->UD,ext'->Vz,getD_eq_getD_getElem?->SI,getElem?_append_left->X9,getElem?_eq_getElem->SK,getElem?_eq_none->Yy,getElem?_eq_some_iff->SR,getElem?_modify->Wd,getElem?_setIfInBounds_ne->SU,getElem?_setIfInBounds_self_of_lt->S_,getElem_mem->XS,mem_iff_getElem?->YC,mem_of_getElem?->WZ,range->WH,replicate->TL,toList_map->VH
open BitVec renaming ofInt->Ug,toNat_or->Zl
open Bool renaming and_eq_true->Tc,eq_iff_iff->Vk,false_and->Xf,false_eq_true->TO,false_or->XR,not_eq_true'->TV,not_true->ai_,or_eq_true->X2,true_and->U8
open Classical renaming byContradiction->Tu
open ForInStep renaming yield->YU
open Go renaming Addr->U1,BinOp->VW,Call->Xn,CallKind->Xb,Code->T5,Deferred->UV,Event->Uq,Field->YS,Frame->T9,FrameMode->U5,Func->ZP,FuncId->TQ,Goroutine->SH,IntKind->TU,Item->WR,Loop->ap_,LoopState->Z5,MapEntry->Wh,Oper->Tv,Operand->Ti,Program->SJ,ResultVar->UM,TypeInfo->We,Value->SO,World->Tp
open Go.Act renaming put->X0
open Go.BinOp renaming eql->XG,neq->VT
open Go.Call renaming operands->VL
open Go.CallKind renaming deferred->YK,early->U2,normal->Y3
open Go.Deferred renaming ofValue->U0
open Go.Frame renaming catches->ZQ,round->W6
open Go.FrameMode renaming returning->Yp
open Go.GStep renaming after->T1
open Go.Instr renaming beginRound->XF,checkKey->U_,endLoop->ZI,endRound->W2,enterLoop->WU,findAsking->XE,findKey->VK,getLoop->WG,sameBits->Wy,takeDeferred->Y1
open Go.IntKind renaming bits->as',i64->SE,signed->as_,u16->S6,u32->ag',u64->TA,wrap->W_
open Go.LoopState renaming busy->apT
open Go.Next renaming value->W1
open Go.Op renaming equal->Xe,equalIn->U7,operands->Tt
open Go.Operand renaming tmp->asg
open Go.Proofs.Tryz renaming f77->XJ,f97->ar_,prog->SC
open Go.Region renaming binds->Yo,linearise->Y7,schedule->VI,wanted->Th
open Go.Region.linearise renaming go->UB
open Go.Result.ok renaming inj->an'
open Go.Sem renaming runT->VC,runT_eq->TB
open Go.Value renaming agg->TD,bool->W9,cells->Z3,chan->XM,int->SG,map->Zo,nilFunc->YQ,slice->Ur
open Go.stepG renaming exec->Ud
open Int renaming toNat_natCast->Vx
open List renaming all_cons->ZL,all_eq_true->Tw,any_cons->YP,any_eq_true->UL,append_assoc->SD,append_nil->SY,cons_append->VA,contains_eq_mem->Up,countP_le_length->YZ,drop_drop->aj_,drop_eq_getElem_cons->TW,drop_eq_nil_of_le->TS,drop_zero->Xw,ext_getElem?->Ym,filter_congr->Vg,filter_cons_of_neg->Yt,filter_cons_of_pos->Ys,foldl_cons->UW,forIn_cons->WX,getD_eq_getElem?_getD->SF,getElem?_append_left->SZ,getElem?_append_right->Tj,getElem?_cons_succ->UJ,getElem?_eq_getElem->SV,getElem?_eq_none->Uu,getElem?_eq_some_iff->SM,getElem?_map->To,getElem?_set_ne->T6,getElem?_set_self->W5,getElem?_take->Uc,getLastD_cons->Zn,length_append->SQ,length_drop->Uj,length_map->Tn,length_set->TF,length_singleton->T7,length_take->TZ,mapM_cons->T8,mapM_nil->Uz,mapM_toArray->XX,map_congr_left->Vy,map_cons->UU,map_drop->ae',map_map->XW,map_take->VS,mem_append->SS,mem_append_left->Tg,mem_append_right->S5,mem_cons->SL,mem_cons_of_mem->Tb,mem_cons_self->TC,mem_eraseDups->Y5,mem_filter->Un,mem_filterMap->VR,mem_flatMap->S7,mem_map->Tm,mem_of_getElem?->Te,mem_range->TG,mem_range'->XV,mem_toArray->TK,nil_append->UC,nodup_cons->VO,nodup_nil->WJ,not_mem_nil->S4,range->S0,range'->Ua,range'_append_1->Y4,range'_succ->VN,range_eq_range'->Vm,replicate->TN,replicate_succ->Ws,reverse_nil->XT,set_append_left->Ww,set_append_right->UO,set_eq_take_append_cons_drop->XK,singleton_append->YX,take_append_drop->Ve,take_of_length_le->SW,take_succ_cons->VQ,take_zero->ai'
open Nat renaming add_mul->Va,add_zero->UH,le_refl->SP,le_trans->UF,lt_of_le_of_lt->Zc,lt_of_lt_of_le->Td,lt_trans->Wl,lt_trichotomy->XB,min_eq_left->Wu,mod_lt->aq_,mul_le_mul_right->Uf,mul_one->Ya,or_lt_two_pow->WI,pow_le_pow_right->Xl,pow_lt_pow_right->W7,reduceAdd->SX,sub_self->Vb,sub_zero->ZU,testBit_or->Xk,testBit_two_pow->VM,zero_add->Wp,zero_le->X_
open Option renaming bind_eq_some_iff->Tf,getD_some->S9,map_eq_some_iff->Tq,map_some->UN,some->SN
open Option.some renaming injEq->Tl
open Std.Legacy.Range renaming forIn_eq_forIn_range'->Wt,size->Xq
namespace Go.Gg
open Go.Conc
structure Hz (k:AV->Prop):Type where
 n:Nat
structure Hy (X:Bool->Prop)(Z:Prop):Type where
 n:Nat
def QG (a:AV)(X:Bool->Prop)(Z:Prop)(_t:Hy X Z):Prop:=(∃b,a=.val (.bool b)/\X b)\/(a=.val undef/\Z)
theorem aow(b:Bool)(X:Bool->Prop)(Z:Prop)(t:Hy X Z):QG (.val (.bool b)) X Z t=X b:=by
 unfold QG;refine propext ⟨λh=> ?_,λh=> .inl ⟨b,rfl,h⟩⟩;rcases h with⟨b',e,h⟩|⟨e,_⟩
 ·cases e;exact h
 ·cases e
theorem aox(X:Bool->Prop)(Z:Prop)(t:Hy X Z):QG (.val undef) X Z t=Z:=by
 unfold QG;refine propext ⟨λh=> ?_,λh=> .inr ⟨rfl,h⟩⟩;rcases h with⟨b',e,_⟩|⟨_,h⟩
 ·cases e
 ·exact h
def Nt (lv:Bool)(P:SJ)(f:AV)(H:List aa)(aD:List AV)(k:AV->Prop)(_t:Hz k):Prop:=∃av,iQ lv P f H aD (λb H'=>b=av/\H'=H) (λ_ _=>False)/\k av
def adi (lv:Bool)(P:SJ)(f:AV)(name:String)(H:List aa)(aD:List AV)(k:AV->Prop)(_t:Hz k):Prop:=∃av,DE lv P f name H aD (λb H'=>b=av/\H'=H) (λ_ _=>False)/\k av
theorem iy{lv:Bool}{P:SJ}{f:AV}{H:List aa}{aD:List AV}{k:AV->Prop}{t:Hz k}(av:AV)(h:iQ lv P f H aD (λb H'=>b=av/\H'=H) (λ_ _=>False))(hk:k av):Nt lv P f H aD k t:=⟨av,h,hk⟩
section
variable (lv:Bool)(P:SJ)
def AQ (s:AS)(o:Tv)(k:AV->Prop):Prop:=match o.op with
 |.call c=>match c.callee with
  |.value x=>ao (s.ev x) λf=>ao (e9 s c.args.toList) λaD=>Nt lv P f s.H aD k ⟨0⟩
  |.invoke x name=>ao (s.ev x) λf=>ao (e9 s c.args.toList) λaD=>adi lv P f name s.H aD k ⟨0⟩
  |.builtin .append=>match c.args.toList,c.argTypes.toList with
   |[x,y],[t,t']=>ao (jF P t t') λ(_,sz,_)=>ao (s.ev x) λa=>ao (s.ev y) λb=>a.uZ λn l e=>e=.exact/\ao (s.src sz b) λ(m,l')=>l.length=n* sz/\l'.length=m* sz/\n+m<=2^30/\k (.sl (n+m) (l++l') .shut)
   |_,_=>False
  |_=>lm P s o k
 |_=>lm P s o k
def mR (all:Array Tv):List Tv->AS->(AS->Prop)->Prop
 |[],s,K=>K s
 |o::rest,s,K=>match o.guard with
  |none=>AQ lv P s o λav=>mR all rest (s.put o.dst av) K
  |some (j,bU)=>ao ((all[j]?).bind (·.dst)) λd=>ao (look s.T d) λa=>QG a (λb=>qv b bU (AQ lv P ⟨(d,.val (.bool bU))::s.T,s.H⟩ o λav=>mR all rest ((⟨(d,.val (.bool bU))::s.T,s.H⟩:AS).put o.dst av) K) (mR all rest ((⟨(d,.val (.bool !bU))::s.T,s.H⟩:AS).put o.dst (.val undef)) K) ⟨0⟩) (mR all rest (s.put o.dst (.val undef)) K) ⟨0⟩
end
section
variable {lv:Bool}{P:SJ}{r:Option Nat}{o:Tv}{s:AS}
theorem abq{a:Act}{E:Env}{V:View}{av:AV}{N:Act->View->Prop}{Q:Ex->Act->View->Prop}(h1:∀E' V' v,E.Le E'->V'.role=V.role->V'.deaf=V.deaf->Conc E' V' s.H->ap E' av v->N (a.put o.dst v) V'):
  (∀nx V',Nx lv P (gI E V (λb H'=>b=av/\H'=s.H) (λ_ _=>False)) nx V'->mu lv P r o a N Q nx V')/\(∀v V',gI E V (λb H'=>b=av/\H'=s.H) (λ_ _=>False) (.panic [{v,recovered:=false}]) V'->Q (.panic [{v,recovered:=false}]) a V'):=by
 have hv:∀v V',gI E V (λb H'=>b=av/\H'=s.H) (λ_ _=>False) (.ret v) V'->N (a.put o.dst v) V':=λv V' ⟨b,E',H',hle,bX,eT,bi,bh,e1,e2⟩=>by
  subst e1 e2;exact h1 E' V' v hle bX eT bh bi
 have hp:∀ch V',gI E V (λb H'=>b=av/\H'=s.H) (λ_ _=>False) (.panic ch) V'->Q (.panic ch) a V':=λch V' ⟨pv,v,E',H',eS,hle,bX,eT,bi,bh,hk⟩=>hk.elim;refine⟨λnx V' hn=> ?_,λv V' h=>hp _ _ h⟩;cases nx with
 |value v=>exact hv _ _ hn
 |skip=>exact hv _ _ hn
 |enter f args=>
  refine Body.mono (R':=fun
   |.ret v,V'=>N (a.put o.dst v) V'
   |.panic ch,V'=>Q (.panic ch) a V') hn λot aR h=> ?_
  cases ot with
  |ret v=>exact hv _ _ h
  |panic ch=>exact hp _ _ h
 |round l f tmps aD b=>
  refine mT.mono (R':=fun
   |.ret v,V'=>N (a.put o.dst v) V'
   |.panic ch,V'=>Q (.panic ch) a V') hn λot aR h=> ?_
  cases ot with
  |ret v=>exact hv _ _ h
  |panic ch=>exact hp _ _ h
 |_=>exact hn.elim
theorem anZ{c:Xn}{x y:Ti}{t t' elem:TypeId}{sz n m:Nat}{z:SO}{l l':List AV}{av:AV}(ho:o.op=.call c)(aX:c.callee=.builtin .append)(cK:c.args=#[x,y]) (dQ:c.argTypes=#[t,t']) (ht:jF P t t'=some (elem,sz,z))
  (hx:s.ev x=some (.sl n l .exact)) (hy:s.ev y=some av) (hs:s.src sz av=some (m,l')) (hl:l.length=n* sz) (eB:l'.length=m* sz) (hb:n+m<=2^30):dz lv P r o s (.sl (n+m) (l++l') .shut):=by
 intro E V a N Q hc aF bw hN;refine⟨bw,?_⟩;have dt:=ap.ev aF hx;have iF:=ap.ev aF hy;generalize j7:a.eval x=vx at dt;generalize ri:a.eval y=vy at iF;unfold execOp;rw[ho];dsimp only;unfold resolve;rw[aX];dsimp only;refine az (aq ?_);unfold invoke builtin;dsimp only;refine az ?_;have nu:c.args.map a.eval=#[vx,vy]:=by rw[cK];simp[j7,ri]
 rw[nu,dQ];obtain⟨base,cap,rfl⟩:∃base cap,vx=.slice base n cap:=by
  cases dt with
  |sl b o cap f dP he q1 q2=>exact⟨_,_,rfl⟩
  |nil he=>exact⟨_,_,rfl⟩
 have gK:cap=n:=by
  cases dt with
  |sl b o cap f dP he q1 q2=>exact he
  |nil he=>rfl
 subst gK;have sP:(l++l').length=(cap+m)* sz:=by rw[SQ,hl,eB,Va]
 by_cases hm:m=0
 ·subst hm;have sF:l'=[]:=by simpa using eB
  subst sF;refine GG hc ht iF hs eB (SP _) ?_;refine aq (hN E V _ (Env.Le.refl E) rfl rfl hc ?_);rw[UH,SY];exact iA _ _ _ _ _ dt
 ·refine GF hc ht dt iF hs hl eB hb (by omega) λrr cs cap' hf bi hle aV=> ?_;obtain⟨bh,qW⟩:=hc.acE (el:=elem) hf aV hle;have um:(cap+m)* sz<=cs.size:=by rw[aV];exact Uf _ hle
  refine aN.ghost (w6 (f:=(0,0)) (cs:=cs) (el:=elem) (p:=(·<(cap+m)* sz)) (by simp[View.upd]) (λo _=>hf.2 o)) ?_;have pQ:=Db (n:=s.H.length) (m:=s.H.length) (SP _) (by simp[Env.tok,hc.n]) qW hc.n;refine aq (hN _ _ _ pQ rfl rfl (bh.trim hc.ay) (Ii (I:=(V.laid rr cs elem (·<(cap+m)* sz)).ab) (e:=.shut) (sz:=sz) (cs:=cs) rfl (bi.mono pQ) sP um (λo h=>FU (by simpa using h)) hle trivial))
theorem AQ.sound{k:AV->Prop}(h:AQ lv P s o k):∃av,dz lv P r o s av/\k av:=by
 unfold AQ at h;split at h
 ·rename_i c ho;split at h
  ·rename_i x aX;obtain⟨f,h1,hA⟩:=h.out;obtain⟨aD,h2,hB⟩:=hA.out;obtain⟨av,h3,h4⟩:=hB;refine⟨av,λE V a N Q hc aF bw hN=> ?_,h4⟩;have rf:=abq (lv:=lv) (P:=P) (r:=r) (o:=o) (Q:=Q) hN;refine⟨bw,?_⟩;unfold execOp;rw[ho];dsimp only;unfold resolve;rw[aX];dsimp only;have e:c.args.map a.eval=(c.args.toList.map a.eval).toArray:=(by apply Vz;simp);rw[e];exact(h3 E V (a.eval x) _ hc (ap.ev aF h1) (yJ aF h2)).mono (λnx V' h=>rf.1 nx V' h) (λv V' h=>rf.2 v V' h)
  ·rename_i x name aX;obtain⟨f,h1,hA⟩:=h.out;obtain⟨aD,h2,hB⟩:=hA.out;obtain⟨av,h3,h4⟩:=hB;refine⟨av,λE V a N Q hc aF bw hN=> ?_,h4⟩;have rf:=abq (lv:=lv) (P:=P) (r:=r) (o:=o) (Q:=Q) hN;refine⟨bw,?_⟩;unfold execOp;rw[ho];dsimp only;unfold resolve;rw[aX];dsimp only;refine az (aq ?_);have e:c.args.map a.eval=(c.args.toList.map a.eval).toArray:=(by apply Vz;simp);rw[e];exact(h3 E V (a.eval x) _ hc (ap.ev aF h1) (yJ aF h2)).mono (λnx V' h=>rf.1 nx V' h) (λv V' h=>rf.2 v V' h)
  ·rename_i aX;split at h
   ·rename_i x y t t' ha ht;obtain⟨⟨elem,sz,z⟩,h1,hA⟩:=h.out;obtain⟨a,h2,hB⟩:=hA.out;obtain⟨b,h3,hC⟩:=hB.out;obtain⟨n,l,e,e1,e0,hD⟩:=NI hC;subst e1 e0;obtain⟨⟨m,l'⟩,h4,h5,h6,h7,h8⟩:=hD.out;exact⟨_,anZ ho aX (mX ha) (rK ht) h1 h2 h3 h4 h5 h6 h7,h8⟩
   ·exact h.elim
  ·exact h.sound
 ·exact h.sound
end
section
variable {lv:Bool}{P:SJ}{o:Tv}{T T':List (Nat×AV)}{H:List aa}{k:AV->Prop}
theorem Ba:∀(l:List Ti),(∀x∈l,AS.ev ⟨T,H⟩ x=AS.ev ⟨T',H⟩ x)->e9 ⟨T,H⟩ l=e9 ⟨T',H⟩ l
 |[],_=>rfl
 |x::l,h=>by simp only[e9,h x (TC ..),Ba l λy hy=>h y (Tb _ hy)]
theorem ID:∀(l:List (Nat×Ti)),(∀x∈l,AS.ev ⟨T,H⟩ x.2=AS.ev ⟨T',H⟩ x.2)->jX ⟨T,H⟩ l=jX ⟨T',H⟩ l
 |[],_=>rfl
 |x::l,h=>by simp only[jX,h x (TC ..),ID l λy hy=>h y (Tb _ hy)]
theorem mapM_congr:∀(l:List Ti),(∀x∈l,AS.ev ⟨T,H⟩ x=AS.ev ⟨T',H⟩ x)->l.mapM (AS.ev ⟨T,H⟩)=l.mapM (AS.ev ⟨T',H⟩)
 |[],_=>rfl
 |x::l,h=>by simp only[T8,h x (TC ..),mapM_congr l λy hy=>h y (Tb _ hy)]
theorem HY(x:Option Ti)(h:∀y,x=some y->AS.ev ⟨T,H⟩ y=AS.ev ⟨T',H⟩ y):AS.iS ⟨T,H⟩ x=AS.iS ⟨T',H⟩ x:=by
 cases x with
 |none=>rfl
 |some y=>simp only[AS.iS,h y rfl]
theorem adr{op:VW}{t:TypeId}{y:Ti}{a:AV}(h:AS.ev ⟨T,H⟩ y=AS.ev ⟨T',H⟩ y):iB P ⟨T,H⟩ op t y a k=iB P ⟨T',H⟩ op t y a k:=by
 unfold iB;split<;>first|rfl|rw[h]
theorem lm.congr(h:∀x∈o.op.operands,AS.ev ⟨T,H⟩ x=AS.ev ⟨T',H⟩ x)(ha:lm P ⟨T,H⟩ o k):lm P ⟨T',H⟩ o k:=by
 unfold lm at ha⊢;generalize o.op=op at h ha⊢;cases op with
 |call c=>
  have cK:∀x∈c.args,AS.ev ⟨T,H⟩ x=AS.ev ⟨T',H⟩ x:=λx hx=>h x (by simp[Tt,VL,hx]);dsimp only at ha⊢;split at ha
  ·obtain⟨x,h1,hA⟩:=ha.out;rw[h1,ao];obtain⟨t,h2,hB⟩:=hA.out;rw[h2,ao];rw[<- cK x (WZ h1)];obtain⟨a,h3,hC⟩:=hB.out;rw[h3,ao];exact hC
  ·split at ha
   ·rename_i x y Jt;have:=mX Jt;rw[this]at cK;rw[<- cK x (by simp),<- cK y (by simp)];exact ha
   ·exact ha.elim
  ·split at ha
   ·rename_i x y Jt;have:=mX Jt;rw[this]at cK;rw[<- cK x (by simp),<- cK y (by simp)];exact ha
   ·exact ha.elim
  ·exact ha.elim
 |build t parts=>
  dsimp only at ha⊢;rw[<- ID parts.toList λx hx=>h x.2 (by simp only[Tt,TK,Tm];exact⟨x,hx,rfl⟩)];exact ha
 |buildSlice t n parts=>
  dsimp only at ha⊢;rw[<- ID parts.toList λx hx=>h x.2 (by simp only[Tt,TK,Tm];exact⟨x,hx,rfl⟩)];exact ha
 |makeFunc f first cQ=>
  dsimp only at ha⊢;rw[<- mapM_congr first.toList λx hx=>h x (by simp[Tt];exact .inl (by simpa using hx)),<- mapM_congr cQ.toList λx hx=>h x (by simp[Tt];exact .inr (by simpa using hx))];exact ha
 |slice t x lo hi mx=>
  dsimp only at ha⊢;rw[<- h x (by simp[Tt]),<- HY lo λy hy=>h y (by simp[Tt,hy]),<- HY hi λy hy=>h y (by simp[Tt,hy]),<- HY mx λy hy=>h y (by simp[Tt,hy])];exact ha
 |pick c a b=>dsimp only at ha⊢;rw[<- h c (by simp[Tt]),<- h a (by simp[Tt]),<- h b (by simp[Tt])];exact ha
 |binOp op t a b u=>
  dsimp only at ha⊢;rw[<- h a (by simp[Tt])];obtain⟨x,h1,hA⟩:=ha.out;rw[h1,ao];rw[<- adr (h b (by simp[Tt]))];exact hA
 |indexAddr t a b=>dsimp only at ha⊢;rw[<- h a (by simp[Tt]),<- h b (by simp[Tt])];exact ha
 |index t a b=>dsimp only at ha⊢;rw[<- h a (by simp[Tt]),<- h b (by simp[Tt])];exact ha
 |move x=>dsimp only at ha⊢;rw[<- h x (by simp[Tt])];exact ha
 |assign x=>dsimp only at ha⊢;rw[<- h x (by simp[Tt])];exact ha
 |unOp op t x=>cases op<;>dsimp only at ha⊢<;>first|exact ha.elim|(rw[<- h x (by simp[Tt])];exact ha)
 |convert a b x=>dsimp only at ha⊢;rw[<- h x (by simp[Tt])];exact ha
 |lookup t m x ok=>dsimp only at ha⊢;rw[<- h m (by simp[Tt]),<- h x (by simp[Tt])];exact ha
 |extract x i=>dsimp only at ha⊢;rw[<- h x (by simp[Tt])];exact ha
 |nilCheck x=>dsimp only at ha⊢;rw[<- h x (by simp[Tt])];exact ha
 |makeInterface t x=>dsimp only at ha⊢;rw[<- h x (by simp[Tt])];exact ha
 |typeAssert x a b c=>dsimp only at ha⊢;rw[<- h x (by simp[Tt])];exact ha
 |fieldAddr t x f=>dsimp only at ha⊢;rw[<- h x (by simp[Tt])];exact ha
 |field t x f=>dsimp only at ha⊢;rw[<- h x (by simp[Tt])];exact ha
 |load t x=>dsimp only at ha⊢;rw[<- h x (by simp[Tt])];exact ha
 |entry x=>dsimp only at ha⊢;rw[<- h x (by simp[Tt])];exact ha
 |_=>exact ha.elim
theorem apU(sz:Nat)(a:AV):AS.src ⟨T,H⟩ sz a=AS.src ⟨T',H⟩ sz a:=by cases a<;>rfl
theorem AQ.congr(h:∀x∈o.op.operands,AS.ev ⟨T,H⟩ x=AS.ev ⟨T',H⟩ x)(ha:AQ lv P ⟨T,H⟩ o k):AQ lv P ⟨T',H⟩ o k:=by
 unfold AQ at ha⊢;split at ha
 ·rename_i c ho;have cK:∀x∈c.args.toList,AS.ev ⟨T,H⟩ x=AS.ev ⟨T',H⟩ x:=λx hx=>h x (by rw[ho];simp[Tt,VL];exact .inr (by simpa using hx));split at ha
  ·rename_i x aX;rw[<- h x (by rw[ho];simp[Tt,VL,aX]),<- Ba _ cK];exact ha
  ·rename_i x name aX;rw[<- h x (by rw[ho];simp[Tt,VL,aX]),<- Ba _ cK];exact ha
  ·split at ha
   ·rename_i x y t t' hx ht;rw[hx]at cK;rw[<- cK x (by simp),<- cK y (by simp)];simp only[apU (T:=T) (T':=T')]at ha;exact ha
   ·exact ha.elim
  ·exact lm.congr h ha
 ·exact lm.congr h ha
end
def cV (ops:Array Tv)(j:Nat):Option Nat:=(ops[j]?).bind (·.dst)
inductive Reach (ops:Array Tv):Nat->Nat->Prop
 |Ix {i j:Nat} {o:Tv} (ho:ops[i]?=some o) (hj:j∈cO o):Reach ops i j
 |more {i k j:Nat} {o:Tv} (ho:ops[i]?=some o) (hk:k∈cO o) (h:Reach ops k j):Reach ops i j
def tI (acc:List (List Nat))(o:Tv):List (List Nat):=acc++[(cO o++(cO o).flatMap λj=>acc.getD j []).eraseDups]
def H8 (ops:Array Tv):List (List Nat):=ops.toList.foldl tI []
theorem On(ops:Array Tv):∀(l:List Tv)(acc:List (List Nat))(i:Nat),acc.length=i->(∀k o,l[k]?=some o->ops[i+k]?=some o)->(∀a,a<acc.length->∀j∈acc.getD a [],Reach ops a j)->
  ∀a,∀j∈(l.foldl tI acc).getD a [],Reach ops a j
 |[],acc,i,_,_,h,a,j,hj=>by
  simp only[List.foldl_nil]at hj;by_cases ha:a<acc.length
  ·exact h a ha j hj
  ·rw[SF,Uu (by omega)]at hj;simp at hj
 |o::l,acc,i,hi,ho,h,a,j,hj=>by
  rw[UW]at hj;refine On ops l (tI acc o) (i+1) (by simp[tI,hi]) (λk o' hk=>by have:=ho (k+1) o' (by simpa using hk);rwa [show i+(k+1)=i+1+k by omega]at this) (λa ha j hj=> ?_) a j hj;have Fg:ops[i]?=some o:=by have:=ho 0 o rfl;simpa using this
  have qU:∀a,a<acc.length->(tI acc o).getD a []=acc.getD a []:=λa ha=>by
   simp[tI,SF,SZ ha]
  by_cases f_:a<acc.length
  ·rw[qU a f_]at hj;exact h a f_ j hj
  ·have hae:a=acc.length:=(by simp[tI]at ha;omega);subst hae;have e:(tI acc o).getD acc.length []=(cO o++(cO o).flatMap λj=>acc.getD j []).eraseDups:=by
    simp[tI,SF]
   rw[e,Y5,SS]at hj;rw[hi];rcases hj with hj|hj
   ·exact .Ix Fg hj
   ·obtain⟨k,hk,hj⟩:=S7.1 hj;have BY:k<acc.length:=by
     apply Tu;intro hn;rw[SF,Uu (by omega)]at hj;simp at hj
    exact .more Fg hk (h k BY j hj)
def yF (nt p:Nat)(ops:Array Tv):Bool:=
 let cl:=H8 ops;decide (p<=ops.size)&&
 (S0 ops.size).all (λi=>match ops[i]?with
  |some o=>o.dst.all (·<nt)&& !l_ o.op&&(cO o).all (·<i)&&
   (if i<p then
    (S0 i).all (λj=>match o.dst,cV ops j with
     |some d,some d'=>d !=d'
     |_,_=>true)&&
    (o.op.operands.toList.all λx=>match x with
     |.tmp t=>(S0 p).all λj=>cV ops j !=some t||(cO o).contains j
     |_=>true)&&
    (match o.guard with
     |some (j,_)=>(cO o).contains j
     |none=>true)
   else(S0 i).all λj=>(cl.getD i []).contains j)
  |none=>true)
structure yh (nt p:Nat)(ops:Array Tv):Prop where
 le:p<=ops.size
 dst:∀(i:Nat) o d,ops[i]?=some o->o.dst=some d->d<nt
 ve:∀(i:Nat) o,ops[i]?=some o->l_ o.op=false
 low:∀(i:Nat) o,ops[i]?=some o->∀j∈cO o,j<i
 dK:∀(i j:Nat) o d,j<i->i<p->ops[i]?=some o->o.dst=some d->cV ops j≠some d
 L2:∀(i:Nat) o t j,i<p->ops[i]?=some o-> .tmp t∈o.op.operands->j<p->cV ops j=some t->j∈cO o
 Bn:∀(i:Nat) o j w,i<p->ops[i]?=some o->o.guard=some (j,w)->j∈cO o
 suf:∀(i j:Nat),p<=i->i<ops.size->j<i->Reach ops i j
theorem yF.out{nt p:Nat}{ops:Array Tv}(h:yF nt p ops=true):yh nt p ops:=by
 unfold yF at h;simp only[Tc,decide_eq_true_eq]at h;obtain⟨hle,h⟩:=h;have key:∀(i:Nat) o,ops[i]?=some o->(o.dst.all (·<nt)=true/\l_ o.op=false/\(∀j∈cO o,j<i))/\
   (if i<p then
    (S0 i).all (λj=>match o.dst,cV ops j with
     |some d,some d'=>d !=d'
     |_,_=>true)&&
    (o.op.operands.toList.all λx=>match x with
     |.tmp t=>(S0 p).all λj=>cV ops j !=some t||(cO o).contains j
     |_=>true)&&
    (match o.guard with
     |some (j,_)=>(cO o).contains j
     |none=>true)
   else(S0 i).all λj=>((H8 ops).getD i []).contains j)=true:=λi o ho=>by
  have hi:i<ops.size:=(SR.1 ho).1;have:=Tw.1 h i (by simpa using hi);rw[ho]at this;simp only[Tc,Tw,TV,decide_eq_true_eq]at this;exact⟨⟨this.1.1.1,this.1.1.2,this.1.2⟩,by simpa only[Tc,Tw]using this.2⟩
 refine⟨hle,λi o d ho hd=> ?_,λi o ho=>(key i o ho).1.2.1,λi o ho=>(key i o ho).1.2.2,λi j o d hj hp ho hd e=> ?_,λi o t j hp ho ht hj e=> ?_,λi o j w hp ho hg=> ?_,λi j hp hi hj=> ?_⟩
 ·have:=(key i o ho).1.1;rw[hd]at this;simpa using this
 ·have:=(key i o ho).2;rw[if_pos hp]at this;simp only[Tc,Tw]at this;have:=this.1.1 j (by simpa using hj);rw[hd,e]at this;simp at this
 ·have:=(key i o ho).2;rw[if_pos hp]at this;simp only[Tc,Tw]at this;have:=this.1.2 (.tmp t) (by simpa using ht);simp only[Tw]at this;have:=this j (by simpa using hj);rw[e]at this;simpa using this
 ·have:=(key i o ho).2;rw[if_pos hp]at this;simp only[Tc]at this;have:=this.2;rw[hg]at this;simpa using this
 ·have:=(key i ops[i] (SK hi)).2;rw[if_neg (by omega)]at this;simp only[Tw]at this;have:=this j (by simpa using hj);refine On ops ops.toList [] 0 rfl (λk o hk=>by simpa using hk) (by simp) i j ?_;simpa[H8]using this
theorem Pm{α β:Type}{f g:α->Option β}:∀{l:List α},(∀x∈l,f x=g x)->l.filterMap f=l.filterMap g
 |[],_=>rfl
 |x::l,h=>by
  have ih:=Pm (l:=l) λy hy=>h y (Tb _ hy);simp only[List.filterMap_cons,h x (TC ..),ih]
def kK (ops:Array Tv)(f:Nat->AV)(o:Tv):List (Nat×AV):=(cO o).filterMap λj=>(cV ops j).map λd=>(d,f j)
def uQ (lv:Bool)(P:SJ)(r:Option Nat)(ops:Array Tv)(T0:List (Nat×AV))(H:List aa)(f:Nat->AV)(i:Nat)(o:Tv):Prop:=
 match o.guard with
 |none=>dz lv P r o ⟨kK ops f o++T0,H⟩ (f i)
 |some (j,bU)=>∃d,cV ops j=some d/\((∃b,look (kK ops f o++T0) d=some (.val (.bool b))/\(b=bU->dz lv P r o ⟨kK ops f o++T0,H⟩ (f i))/\(b= !bU->f i=.val undef))\/(look (kK ops f o++T0) d=some (.val undef)/\f i=.val undef))
theorem zG(l m:List (Nat×AV))(t:Nat):look (l++m) t=(look l t).or (look m t):=by
 induction l with
 |nil=>rfl
 |cons x l ih=>
  obtain⟨k,a⟩:=x;simp only[VA,look];split
  ·rfl
  ·exact ih
theorem ru{l:List (Nat×AV)}{t:Nat}{a:AV}(h:look l t=some a):(t,a)∈l:=by
 induction l with
 |nil=>cases h
 |cons x l ih=>
  obtain⟨k,b⟩:=x;simp only[look]at h;split at h
  ·rename_i e;subst e;cases h;exact TC ..
  ·exact Tb _ (ih h)
theorem aam{l:List (Nat×AV)}{t:Nat}(h:∀p∈l,p.1≠t):look l t=none:=by
 induction l with
 |nil=>rfl
 |cons x l ih=>
  obtain⟨k,b⟩:=x;simp only[look];rw[if_neg (h _ (TC ..))];exact ih λp hp=>h p (Tb _ hp)
theorem ami{l:List (Nat×AV)}{q:Nat->Bool}{t:Nat}:look (l.filter λp=>q p.1) t=if q t then look l t else none:=by
 induction l with
 |nil=>simp[look]
 |cons x l ih=>
  obtain⟨k,b⟩:=x;by_cases hk:q k=true
  ·rw[Ys (by simpa using hk)];simp only[look];by_cases e:k=t
   ·subst e;simp[hk]
   ·simp[e,ih]
  ·rw[Yt (by simpa using hk),ih];simp only[look];by_cases e:k=t
   ·subst e;simp[hk]
   ·simp[e]
section
variable {ops:Array Tv}{f:Nat->AV}{p:Nat}
theorem amg{o:Tv}{j t:Nat}(hj:j∈cO o)(ht:cV ops j=some t)(xy:∀j'∈cO o,cV ops j'=some t->j'=j):look (kK ops f o) t=some (f j):=by
 cases e:look (kK ops f o) t with
 |none=>
  exfalso;have hm:(t,f j)∈kK ops f o:=VR.2 ⟨j,hj,by rw[ht];rfl⟩;have:∀(l:List (Nat×AV)),(t,f j)∈l->look l t≠none:=by
   intro l;induction l with
   |nil=>intro h;cases h
   |cons x l ih=>
    intro h;obtain⟨k,b⟩:=x;simp only[look];split
    ·simp
    ·rename_i aG;rcases SL.1 h with h|h
     ·cases h;exact absurd rfl aG
     ·exact ih h
  exact this _ hm e
 |some a=>
  obtain⟨j',ii,e'⟩:=VR.1 (ru e);obtain⟨d,hd,e'⟩:=Tq.1 e';cases e';rw[xy j' ii hd]
theorem amh{o:Tv}{t:Nat}(h:∀j∈cO o,cV ops j≠some t):look (kK ops f o) t=none:=by
 refine aam λx hx e=> ?_;obtain⟨j,hj,e'⟩:=VR.1 hx;obtain⟨d,hd,e'⟩:=Tq.1 e';cases e';exact h j hj (by rw[hd];exact congrArg some e)
end
section
variable {lv:Bool}{P:SJ}{r:Option Nat}{s:AS}{ops:Array Tv}{nt p:Nat}
def tF (s:AS)(ops:Array Tv)(p:Nat):List (Nat×AV):=s.T.filter λx=>(S0 p).all λj=>cV ops j !=some x.1
theorem F2(t:Nat):look (tF s ops p) t=if(S0 p).all (λj=>cV ops j !=some t)then look s.T t else none:=ami (q:=λt=>(S0 p).all λj=>cV ops j !=some t)
structure oB (s:AS)(ops:Array Tv)(fs:List AV)(s':AS):Prop where
 H:s'.H=s.H
 new:∀j t,j<fs.length->cV ops j=some t->look s'.T t=fs[j]?
 old:∀t,(∀j,j<fs.length->cV ops j≠some t)->look s'.T t=look s.T t
theorem oB.put(ay:yh nt p ops){fs:List AV}{s':AS}(h:oB s ops fs s')(hp:fs.length<p){o:Tv}(ho:ops[fs.length]?=some o)(av:AV):oB s ops (fs++[av]) (s'.put o.dst av):=by
 have hd:cV ops fs.length=o.dst:=by simp[cV,ho]
 refine⟨by rw[fe];exact h.H,λj t hj ht=> ?_,λt ht=> ?_⟩
 ·simp only[SQ,T7]at hj;by_cases J9:j=fs.length
  ·subst J9;rw[hd]at ht;rw[ht];simp[AS.put,look]
  ·have ii:j<fs.length:=(by omega);rw[SZ ii,<- h.new j t ii ht];cases sB:o.dst with
   |none=>rfl
   |some d=>
    have aG:d≠t:=λe=>ay.dK fs.length j o d ii hp ho sB (by rw[e];exact ht);simp[AS.put,look,aG]
 ·have hold:=h.old t λj hj=>ht j (by simp;omega);rw[<- hold];cases sB:o.dst with
  |none=>rfl
  |some d=>
   have aG:d≠t:=λe=>ht fs.length (by simp) (by rw[hd,sB,e]);simp[AS.put,look,aG]
theorem oB.rq{fs:List AV}{s':AS}(h:oB s ops fs s'){d:Nat}{a:AV}(hd:look s'.T d=some a):oB s ops fs ⟨(d,a)::s'.T,s'.H⟩:=by
 have e:∀t,look ((d,a)::s'.T) t=look s'.T t:=λt=>by
  simp only[look];split
  ·rename_i e;subst e;exact hd.symm
  ·rfl
 exact⟨h.H,λj t hj ht=>by rw[e];exact h.new j t hj ht,λt ht=>by rw[e];exact h.old t ht⟩
theorem oB.seen(ay:yh nt p ops){fs gs:List AV}{s':AS}(h:oB s ops fs s')(hp:fs.length<p){o:Tv}(ho:ops[fs.length]?=some o){t:Nat}(ht:∀j,j<p->cV ops j=some t->j∈cO o):
  look (kK ops (λj=>(fs++gs).getD j (.val undef)) o++tF s ops p) t=look s'.T t:=by
 have gW:=ay.low fs.length o ho;have akZ:∀j j',j<p->j'<p->cV ops j=some t->cV ops j'=some t->j'=j:=λj j' hj ii e e'=>by
  have get:∀i,i<p->∃o,ops[i]?=some o:=λi hi=>⟨_,SK (Td hi ay.le)⟩;rcases XB j j' with hlt|hlt|hlt
  ·obtain⟨o',ba⟩:=get j' ii;exact absurd e (ay.dK j' j o' t hlt ii ba (by simpa[cV,ba]using e'))
  ·exact hlt.symm
  ·obtain⟨o',ba⟩:=get j hj;exact absurd e' (ay.dK j j' o' t hlt hj ba (by simpa[cV,ba]using e))
 rw[zG];by_cases hex:∃j,j<p/\cV ops j=some t
 ·obtain⟨j,hj,vJ⟩:=hex;have jv:=ht j hj vJ;have e_:=gW j jv;rw[amg jv vJ λj' ii e=>akZ j j' hj (Wl (gW j' ii) hp) vJ e];rw[h.new j t e_ vJ];simp[SF,SZ e_,SV e_]
 ·have fl:∀j,j<p->cV ops j≠some t:=λj hj e=>hex ⟨j,hj,e⟩;rw[amh λj hj=>fl j (Wl (gW j hj) hp),Option.none_or,F2,if_pos (by simp only[Tw];intro j hj;simpa using fl j (by simpa using hj))];exact(h.old t λj hj=>fl j (by omega)).symm
theorem Gx(ay:yh nt p ops){K:AS->Prop}:∀(n:Nat)(fs:List AV)(s':AS),fs.length+n=p->oB s ops fs s'->mR lv P ops ((ops.toList.take p).drop fs.length) s' K->
  ∃gs,(fs++gs).length=p/\(∀i o,fs.length<=i->i<p->ops[i]?=some o->uQ lv P r ops (tF s ops p) s.H (λj=>(fs++gs).getD j (.val undef)) i o)/\∃dg,oB s ops (fs++gs) dg/\K dg
 |0,fs,s',hn,hr,h=>by
  have:(ops.toList.take p).drop fs.length=[]:=by
   apply TS;simp;omega
  rw[this]at h;exact⟨[],by simp;omega,λi o h1 h2=>absurd h2 (by omega),s',by simpa using hr,h⟩
 |n+1,fs,s',hn,hr,h=>by
  have hp:fs.length<p:=by omega
  have aV:fs.length<ops.size:=Td hp ay.le;have ho:ops[fs.length]?=some ops[fs.length]:=SK aV;generalize Kr:ops[fs.length]=o at ho;have hd:(ops.toList.take p).drop fs.length=o::(ops.toList.take p).drop (fs.length+1):=by
   rw[TW (by simp;omega)];simp[Kr]
  rw[hd]at h;have akj:∀t,asg t∈o.op.operands->∀j,j<p->cV ops j=some t->j∈cO o:=λt ht j hj e=>ay.L2 fs.length o t j hp ho ht hj e;have cm:∀(s1:AS)(gs:List AV),oB s ops fs s1->∀x∈o.op.operands,AS.ev s1 x=AS.ev ⟨kK ops (λj=>(fs++gs).getD j (.val undef)) o++tF s ops p,s.H⟩ x:=λs1 gs Cc x hx=>by
   cases x with
   |tmp t=>exact(Cc.seen ay hp ho (akj t hx)).symm
   |_=>rfl
  have go:∀(s1:AS),oB s ops fs s1->(AQ lv P s1 o λav=>mR lv P ops ((ops.toList.take p).drop (fs.length+1)) (s1.put o.dst av) K)->
    ∃av gs,(fs++av::gs).length=p/\dz lv P r o ⟨kK ops (λj=>(fs++av::gs).getD j (.val undef)) o++tF s ops p,s.H⟩ av/\(∀i o,fs.length+1<=i->i<p->ops[i]?=some o->uQ lv P r ops (tF s ops p) s.H (λj=>(fs++av::gs).getD j (.val undef)) i o)/\∃dg,oB s ops (fs++av::gs) dg/\K dg:=λs1 Cc h1=>by
   obtain⟨av0,_,_⟩:=h1.sound (r:=r);have dF:s1=⟨s1.T,s.H⟩:=(by rw[<- Cc.H]);rw[dF]at h1;have h2:=AQ.congr (T':=kK ops (λj=>(fs++[]).getD j (.val undef)) o++tF s ops p) (λx hx=>by rw[<- dF];exact cm s1 [] Cc x hx) h1;obtain⟨av,hq,h3⟩:=h2.sound (r:=r);obtain⟨gs,g1,g2,dg,g3,g4⟩:=Gx ay n (fs++[av]) (s1.put o.dst av) (by simp;omega) (Cc.put ay hp ho av) (by rw[<- dF]at h3;simpa using h3);have e:fs++[av]++gs=fs++av::gs:=(by simp);rw[e]at g1 g2 g3;refine⟨av,gs,g1,?_,λi o hi=>g2 i o (by simpa using hi),dg,g3,g4⟩;have ed:kK ops (λj=>(fs++av::gs).getD j (.val undef)) o=kK ops (λj=>(fs++[]).getD j (.val undef)) o:=by
    unfold kK;apply Pm;intro j hj;have e_:=ay.low fs.length o ho j hj;simp[SF,SZ e_]
   rw[ed];exact hq
  simp only[mR]at h;split at h
  ·rename_i hg;obtain⟨av,gs,g1,g2,g3,g4⟩:=go s' hr h;refine⟨av::gs,g1,λi o' hi oe ba=> ?_,g4⟩;by_cases du:i=fs.length
   ·subst du;rw[ho]at ba;cases ba;unfold uQ;rw[hg];simpa[SF]using g2
   ·exact g3 i o' (by omega) oe ba
  ·rename_i j bU hg;obtain⟨d,gf,hA⟩:=h.out;obtain⟨a,fb,hB⟩:=hA.out;have jv:=ay.Bn fs.length o j bU hp ho hg;have e_:=ay.low fs.length o ho j jv;have KH:∀gs,look (kK ops (λj=>(fs++gs).getD j (.val undef)) o++tF s ops p) d=some a:=λgs=>by
    rw[hr.seen ay hp ho λj' ii e=> ?_]
    ·exact fb
    ·have get:∀i,i<p->∃o,ops[i]?=some o:=λi hi=>⟨_,SK (Td hi ay.le)⟩;rcases XB j j' with hlt|hlt|hlt
     ·obtain⟨o',ba⟩:=get j' ii;exact absurd gf (ay.dK j' j o' d hlt ii ba (by simpa[cV,ba]using e))
     ·rw[<- hlt];exact jv
     ·obtain⟨o',ba⟩:=get j (by omega);exact absurd e (ay.dK j j' o' d hlt (by omega) ba (by simpa[cV,ba]using gf))
   rcases hB with⟨b,e1,hC,hD⟩|⟨e1,hZ⟩
   rotate_left
   ·subst e1;obtain⟨gs,g1,g2,dg,g3,g4⟩:=Gx ay n (fs++[.val undef]) _ (by simp;omega) (hr.put ay hp ho (.val undef)) (by simpa using hZ);have e:fs++[.val undef]++gs=fs++ .val undef::gs:=(by simp);rw[e]at g1 g2 g3;refine⟨.val undef::gs,g1,λi o' hi oe ba=> ?_,dg,g3,g4⟩;by_cases du:i=fs.length
    ·subst du;rw[ho]at ba;cases ba;unfold uQ;rw[hg];exact⟨d,gf,.inr ⟨KH _,by simp[SF]⟩⟩
    ·exact g2 i o' (by simp;omega) oe ba
   subst e1;by_cases hb:b=bU
   ·subst hb;obtain⟨av,gs,g1,g2,g3,g4⟩:=go _ (hr.rq fb) (hC rfl);refine⟨av::gs,g1,λi o' hi oe ba=> ?_,g4⟩;by_cases du:i=fs.length
    ·subst du;rw[ho]at ba;cases ba;unfold uQ;rw[hg];refine⟨d,gf,.inl ⟨b,KH _,λ_=>by simpa[SF]using g2,λe=>by cases b<;>cases e⟩⟩
    ·exact g3 i o' (by omega) oe ba
   ·have dB:b= !bU:=(by cases b<;>cases bU<;>simp_all);subst dB;have h3:=hD rfl;obtain⟨gs,g1,g2,dg,g3,g4⟩:=Gx ay n (fs++[.val undef]) _ (by simp;omega) ((hr.rq fb).put ay hp ho (.val undef)) (by simpa using h3);have e:fs++[.val undef]++gs=fs++ .val undef::gs:=(by simp);rw[e]at g1 g2 g3;refine⟨.val undef::gs,g1,λi o' hi oe ba=> ?_,dg,g3,g4⟩;by_cases du:i=fs.length
    ·subst du;rw[ho]at ba;cases ba;unfold uQ;rw[hg];exact⟨d,gf,.inl ⟨!bU,KH _,λe=>absurd e hb,λ_=>by simp[SF]⟩⟩
    ·exact g2 i o' (by simp;omega) oe ba
structure Hr (E:Env)(V:View)(ops:Array Tv)(T0:List (Nat×AV))(H:List aa)(f:Nat->AV)(X:List Nat)(a:Act)(nt:Nat):Prop where
 bm:Conc E V H
 base:b8 E T0 a.tmps
 done:∀i∈X,∀d,cV ops i=some d->ap E (f i) (a.tmps.getD d undef)
 size:a.tmps.size=nt
theorem zX{X:List Nat}(hX:∀i∈X,∀o,ops[i]?=some o->∀j∈cO o,j∈X){i j:Nat}(h:Reach ops i j):((∀o,ops[i]?=some o->∀k∈cO o,k∈X))->j∈X:=by
 induction h with
 |Ix ho hj=>intro hd;exact hd _ ho _ hj
 |more ho hk _ ih=>intro hd;exact ih (hX _ (hd _ ho _ hk))
theorem aph(ay:yh nt p ops){X l:List Nat}(hs:lS ops X l):∀q,p<=q->q<=ops.size->(∀i,i∈X<->i<q)->(∀i∈X,∀o,ops[i]?=some o->∀j∈cO o,j∈X)->l=Ua q (ops.size-q):=by
 induction hs with
 |nil X h=>
  intro q hp hq hX _;have:ops.size<=q:=by
   apply Tu;intro hn;have:=(hX q).1 (h q (by omega));omega
  have:ops.size-q=0:=by omega
  rw[this];rfl
 |cons o ho hn hd _ ih=>
  rename_i X i l _;intro q hp hq hX hc;have hi:i<ops.size:=(SR.1 ho).1;have hiq:q<=i:=by
   apply Tu;intro h;exact hn ((hX i).2 (by omega))
  have hqi:i=q:=by
   apply Tu;intro aG;have:=zX hc (ay.suf i q (by omega) hi (by omega)) (λo' ba k hk=>by rw[ho]at ba;cases ba;exact hd k hk);have:=(hX q).1 this;omega
  subst hqi;have e:ops.size-i=(ops.size-(i+1))+1:=by omega
  rw[e,VN];congr 1;refine ih (i+1) (by omega) (by omega) (λk=> ?_) (λk hk o' ba j hj=> ?_)
  ·simp only[SL,hX];omega
  ·rcases SL.1 hk with rfl|hk
   ·rw[ho]at ba;cases ba;exact Tb _ (hd j hj)
   ·exact Tb _ (hc k hk o' ba j hj)
theorem agm{T0:List (Nat×AV)}{H:List aa}{f:Nat->AV}(ay:yh nt p ops)(ajb:∀j,j<p->∀d,cV ops j=some d->look T0 d=none)(au:∀(i:Nat) o,i<p->ops[i]?=some o->uQ lv P r ops T0 H f i o){X l:List Nat}(hs:lS ops X l):
  (∀i∈X,i<p)->(∀i∈X,∀o,ops[i]?=some o->∀j∈cO o,j∈X)->∀(E:Env)(V:View)(a:Act)(Q:Ex->Act->View->Prop),Hr E V ops T0 H f X a nt->
   (∀E' V' a' X',Kept E E' V V' a a'->Hr E' V' ops T0 H f X' a' nt->(∀i,i<p->i∈X')->dh lv P r ops Q (Ua p (ops.size-p)) a' V')->dh lv P r ops Q l a V:=by
 have full:∀X:List Nat,(∀i∈X,i<p)->(∀i,i<p->i∈X)->∀i,i∈X<->i<p:=λX h1 h2 i=>⟨h1 i,h2 i⟩;induction hs with
 |nil X h=>
  intro hX hc E V a Q ah hQ;have ew:p=ops.size:=by
   apply Tu;intro aG;have:=hX p (h p (by have:=ay.le;omega));omega
  have:=hQ E V a X (Kept.refl E V a) ah (λi hi=>h i (by omega));rw[ew,Vb]at this;exact this
 |cons o ho hn hd lD ih=>
  rename_i X i l;intro hX hc E V a Q ah hQ;have hi:i<ops.size:=(SR.1 ho).1;by_cases oe:i<p
  ·simp only[dh,ho];have n4:∀k∈i::X,k<p:=λk hk=>(SL.1 hk).elim (λe=>by rw[e];exact oe) (hX k);have bh:∀k∈i::X,∀o',ops[k]?=some o'->∀j∈cO o',j∈i::X:=λk hk o' ba j hj=>by
    rcases SL.1 hk with rfl|hk
    ·rw[ho]at ba;cases ba;exact Tb _ (hd j hj)
    ·exact Tb _ (hc k hk o' ba j hj)
   have tok:b8 E (kK ops f o++T0) a.tmps:=by
    intro t av e;rw[zG]at e;cases hl:look (kK ops f o) t with
    |none=>rw[hl]at e;exact ah.base t av e
    |some x=>
     rw[hl]at e;cases e;obtain⟨j,hj,e⟩:=VR.1 (ru hl);obtain⟨d,cw,e⟩:=Tq.1 e;cases e;obtain⟨oj,kz,iW⟩:=Tf.1 cw;exact⟨by rw[ah.size];exact ay.dst j oj _ kz iW,ah.done j (hd j hj) _ cw⟩
   have sB:cV ops i=o.dst:=(by simp[cV,ho]);have put:∀{E' V'}(v:SO),E.Le E'->Conc E' V' H->ap E' (f i) v->Hr E' V' ops T0 H f (i::X) (a.put o.dst v) nt:=λ{E' V'} v hle cM hv=>by
    cases dj:o.dst with
    |none=>
     refine⟨cM,ah.base.mono hle,λk hk d ek=> ?_,ah.size⟩;rcases SL.1 hk with rfl|hk
     ·rw[sB,dj]at ek;cases ek
     ·exact(ah.done k hk d ek).mono hle
    |some d0=>
     have hlt:d0<a.tmps.size:=(by rw[ah.size];exact ay.dst i o d0 ho dj);refine⟨cM,λt av e=> ?_,λk hk d ek=> ?_,by simp[X0,ah.size]⟩
     ·have aG:d0≠t:=λe'=>(by rw[<- e',ajb i oe d0 (by rw[sB,dj])]at e;cases e);have:=ah.base.mono hle t av e;exact⟨by simpa[X0]using this.1,by simpa[X0,SI,SU aG]using this.2⟩
     ·by_cases qV:k=i
      ·subst qV;rw[sB,dj]at ek;cases ek;simpa[X0,SI,S_ hlt]using hv
      ·have aI:k∈X:=(SL.1 hk).resolve_left qV;have aG:d0≠d:=λe'=>by
        subst e';have QY:=hX k aI;have get:∀i,i<p->∃o,ops[i]?=some o:=λi hi=>⟨_,SK (Td hi ay.le)⟩;rcases XB k i with hlt|hlt|hlt
        ·exact ay.dK i k o d0 hlt oe ho dj ek
        ·exact qV hlt
        ·obtain⟨o',ba⟩:=get k QY;exact ay.dK k i o' d0 hlt QY ba (by simpa[cV,ba]using ek) (by rw[sB,dj])
       have:=(ah.done k aI d ek).mono hle;simpa[X0,SI,SU aG]using this
   have go:dz lv P r o ⟨kK ops f o++T0,H⟩ (f i)->wC lv P r o a V (dh lv P r ops Q l) Q:=λhq=>
    hq E V a _ Q ah.bm tok (.inr (ay.ve i o ho)) λE' V' v hle bX eT cM hv=>
     ih n4 bh E' V' (a.put o.dst v) Q (put v hle cM hv) λbO aR b9 mv hk dc fy=>
      hQ bO aR b9 mv ⟨hle.trans hk.le,hk.size.trans (dX _ _ _),hk.defers.trans (put_defers _ _ _),hk.role.trans bX,hk.deaf.trans eT⟩ dc fy
   have y_:=au i o oe ho;unfold uQ at y_;split at y_
   ·rename_i BT;have hw:Th o (yielded ops a.tmps)=true:=(by unfold Th;rw[BT]);rw[if_pos hw];exact .inl (go y_)
   ·rename_i j bU BT;obtain⟨d,gf,y_⟩:=y_;rcases y_ with⟨b,bN,h1,h2⟩|⟨bN,hu⟩
    rotate_left
    ·obtain⟨hlt,hv⟩:=tok d _ bN;have hy:yielded ops a.tmps j≠some bU:=by
      obtain⟨oj,kz,iW⟩:=Tf.1 gf;generalize hx:a.tmps.getD d undef=x at hv;cases hv;rw[SI,SK hlt]at hx;simp only[S9]at hx;simp[yielded,kz,iW,SK hlt,hx,undef]
     have hw:¬Th o (yielded ops a.tmps)=true:=by
      unfold Th;rw[BT];intro h;exact hy (by simpa using h)
     rw[if_neg hw];exact ih n4 bh E V (a.put o.dst undef) Q (put undef (Env.Le.refl E) ah.bm (by rw[hu];exact .val _)) λbO aR b9 mv hk dc fy=>
      hQ bO aR b9 mv ⟨hk.le,hk.size.trans (dX _ _ _),hk.defers.trans (put_defers _ _ _),hk.role,hk.deaf⟩ dc fy
    obtain⟨hlt,hv⟩:=tok d _ bN;have hy:yielded ops a.tmps j=some b:=by
     obtain⟨oj,kz,iW⟩:=Tf.1 gf;generalize hx:a.tmps.getD d undef=x at hv;cases hv;rw[SI,SK hlt]at hx;simp only[S9]at hx;simp[yielded,kz,iW,SK hlt,hx]
    by_cases hb:b=bU
    ·have hw:Th o (yielded ops a.tmps)=true:=(by unfold Th;rw[BT];simp[hy,hb]);rw[if_pos hw];exact .inl (go (h1 hb))
    ·have hw:¬Th o (yielded ops a.tmps)=true:=(by unfold Th;rw[BT];simp[hy,hb]);rw[if_neg hw];have hu:=h2 (by cases b<;>cases bU<;>simp_all);exact ih n4 bh E V (a.put o.dst undef) Q (put undef (Env.Le.refl E) ah.bm (by rw[hu];exact .val _)) λbO aR b9 mv hk dc fy=>
      hQ bO aR b9 mv ⟨hk.le,hk.size.trans (dX _ _ _),hk.defers.trans (put_defers _ _ _),hk.role,hk.deaf⟩ dc fy
  ·have fy:∀k,k<p->k∈X:=λk hk=>zX hc (ay.suf i k (by omega) hi (by omega)) (λo' ba j hj=>by rw[ho]at ba;cases ba;exact hd j hj);have hl:=aph ay (.cons o ho hn hd lD) p (SP _) ay.le (full X hX fy) hc;rw[hl];exact hQ E V a X (Kept.refl E V a) ah fy
theorem aeO{id:Nat}{Φ:an->AS->Prop}(hm:P.follows .mixedOrders=true)(p:Nat)(ay:yF nt p ops=true)(h:mR lv P ops (ops.toList.take p) s (λs'=>ie lv P ops (ops.toList.drop p) s' (Φ .normal) (λpv s=>Φ (.panic pv) s))):aU lv P r nt (.region id ops true) s Φ:=by
 intro E V a Q ah hQ;have ay:=yF.out ay;obtain⟨gs,g1,g2,dg,g3,g4⟩:=Gx (lv:=lv) (r:=r) ay p [] s (by simp) ⟨rfl,by simp,by simp⟩ (by simpa using h);simp only[UC]at g1 g2 g3;refine Na λt=> ?_;rw[show VI (P.follows .mixedOrders) ops t=UB .any ops ops.size t (TL ops.size false) [] by unfold VI;rw[hm];simp[Y7]];have hs:=aah (ops:=ops) (λi o ho j hj=>ay.low i o ho j hj) ops.size t (TL ops.size false) [] ⟨by simp,λi hi=>by simp[hi]⟩ (UF YZ (by simp));refine agm (T0:=tF s ops p) (H:=s.H) ay (λj hj d hd=> ?_) (λi o hi ho=>g2 i o (by simp) hi ho) hs (by simp) (by simp) E V a Q ⟨ah.bm,λt av e=> ?_,by simp,ah.size⟩ λE' V' a' X' hk aS fy=> ?_
 ·rw[F2,if_neg];simp only[Tw];intro h;have:=h j (by simpa using hj);rw[hd]at this;simp at this
 ·rw[F2]at e;split at e
  ·exact ah.tok t av e
  ·cases e
 ·refine zN (Φ:=Φ) (λo ho d e=> ?_) (λo ho=> .inr ?_) (ops.size-p) p dg (by have:=ay.le;omega) g4 E' V' a' Q ⟨by rw[g3.H];exact aS.bm,λt av e=> ?_,aS.size⟩ (λae e bO aR b9 s3 aI pJ he hΦ=>hQ ae e bO aR b9 s3 (hk.trans aI) pJ he hΦ)
  ·obtain⟨i,hi⟩:=YC.1 ho;exact ay.dst i o d hi e
  ·obtain⟨i,hi⟩:=YC.1 ho;exact ay.ve i o hi
  ·by_cases hex:∃j,j<p/\cV ops j=some t
   ·obtain⟨j,hj,vJ⟩:=hex;rw[g3.new j t (by omega) vJ]at e;obtain⟨oj,kz,iW⟩:=Tf.1 vJ;refine⟨by rw[aS.size];exact ay.dst j oj t kz iW,?_⟩;have:=aS.done j (fy j hj) t vJ;simpa[SF,e]using this
   ·have fl:∀j,j<p->cV ops j≠some t:=λj hj e=>hex ⟨j,hj,e⟩;rw[g3.old t λj hj=>fl j (by omega)]at e;refine aS.base t av ?_;rw[F2,if_pos (by simp only[Tw];intro j hj;simpa using fl j (by simpa using hj))];exact e
end
def rS (T base Vn:List (Nat×AV)):Prop:=T.drop (T.length-base.length)=base/\((T.take (T.length-base.length)).all λp=>(Vn.any λq=>q.1==p.1)|| !(base.any λq=>q.1==p.1))=true
theorem aej{l:List (Nat×AV)}{t:Nat}{a:AV}(h:look l t=some a):(l.any λq=>q.1==t)=true:=UL.2 ⟨_,ru h,by simp⟩
theorem aal{l:List (Nat×AV)}{t:Nat}(h:(l.any λq=>q.1==t)=true):∃a,look l t=some a:=by
 induction l with
 |nil=>cases h
 |cons x l ih=>
  obtain⟨k,b⟩:=x;simp only[look];split
  ·exact⟨b,rfl⟩
  ·rename_i aG;refine ih ?_;simpa[YP,aG]using h
theorem rS.look{T base Vn:List (Nat×AV)}(h:rS T base Vn){t:Nat}{a:AV}(hb:look base t=some a)(hv:look Vn t=none):look T t=some a:=by
 obtain⟨h1,h2⟩:=h;have e:T=T.take (T.length-base.length)++base:=by
  have:=(Ve (T.length-base.length) T).symm;rwa [h1]at this
 rw[e,zG];cases hl:Gg.look (T.take (T.length-base.length)) t with
 |none=>exact hb
 |some x=>
  exfalso;have:=Tw.1 h2 _ (ru hl);simp only[X2,TV]at this;rcases this with this|this
  ·obtain⟨y,hy⟩:=aal this;rw[hv]at hy;cases hy
  ·rw[aej hb]at this;cases this
def tC (base Vi Vn:List (Nat×AV))(Hn:List aa)(s':AS):Prop:=
 rS s'.T (Vi++base) Vn/\(∀p∈Vn,∃b,look s'.T p.1=some b/\Wk b p.2)/\∃G,s'.H=Hn++G/\(G=[]\/(bM Hn/\∀p∈Vn,Lt Hn.length p.2))
section
variable {lv:Bool}{P:SJ}{r:Option Nat}{s:AS}
theorem yu{nt:Nat}{α:Type}{lt:α->α->Prop}(wf:WellFounded lt){c:T5}{Φ:an->AS->Prop}(V:α->List (Nat×AV))(Hf:α->List aa)(ok:α->Prop)(m0:α)
  (BX:∀m m',(V m).map (·.1)=(V m').map (·.1)) (iD:∀p∈V m0,∃b,look s.T p.1=some b/\Wk b p.2) (Bu:Hf m0=s.H) (hl:∀m,ok m->(Hf m).length=s.H.length) (hm:ok m0)
  (h:bM s.H->(∀t a,look s.T t=some a->Lt s.H.length a)->∀m,ok m->∀R:AS->Prop,(∀s',(∃m',lt m' m/\ok m'/\tC s.T (V m) (V m') (Hf m') s')->R s')->aU lv P r nt c ⟨V m++s.T,Hf m⟩ (an.then R Φ)):aU lv P r nt (.loop c) s Φ:=by
 have same:∀m m' t,look (V m) t=none->look (V m') t=none:=λm m' t h=>aam λp hp e=>by
  have h1:p.1∈(V m').map (·.1):=Tm.2 ⟨p,hp,rfl⟩;rw[BX m' m]at h1;obtain⟨q,hq,e'⟩:=Tm.1 h1;have h2:((V m).any λx=>x.1==t)=true:=UL.2 ⟨q,hq,by simp[e',e]⟩;obtain⟨a,ha⟩:=aal h2;rw[h]at ha;cases ha
 intro E V0 a Q ah hQ;have hlt:∀t a,look s.T t=some a->Lt s.H.length a:=λt x e=>by rw[<- ah.bm.n];exact(ah.tok t x e).2.lt
 have h0:s.Sub ⟨V m0++s.T,Hf m0⟩:=⟨λt x e=>by
  rw[zG]at e;cases hl:look (V m0) t with
  |none=>rw[hl]at e;exact⟨x,e,Wk.refl x⟩
  |some y=>rw[hl]at e;cases e;exact iD (t,x) (ru hl),Bu.symm⟩
 refine aeR wf (s:=s) (λm=>⟨V m++s.T,Hf m⟩) ok m0 h0 hm (λm ay=>by rw[hl m ay];exact SP _) (λm ay=> ?_) E V0 a Q ah hQ;refine(h ah.bm.ay hlt m ay _ λ_ h=>h).mono λe s' hΦ=> ?_;cases e with
 |normal=>
  obtain⟨m',q1,q2,hk,hv,G,hG,vF⟩:=hΦ;have tok:∀t x,look (V m'++s.T) t=some x->∃b,look s'.T t=some b/\Wk b x/\(look (V m') t=some x\/look s.T t=some x):=λt x e=>by
   rw[zG]at e;cases hl:look (V m') t with
   |none=>
    rw[hl]at e;have hb:look (V m++s.T) t=some x:=(by rw[zG,same m' m t hl];exact e);exact⟨x,hk.look hb hl,Wk.refl x,.inr e⟩
   |some y=>
    rw[hl]at e;cases e;obtain⟨b,h1,h2⟩:=hv (t,x) (ru hl);exact⟨b,h1,h2,.inl rfl⟩
  refine⟨m',q1,q2,?_⟩;rcases vF with rfl|⟨oY,aj1⟩
  ·exact .inl ⟨λt x e=>by obtain⟨b,h1,h2,_⟩:=tok t x e;exact⟨b,h1,h2⟩,by rw[hG,SY]⟩
  ·refine .inr ⟨λt x e=> ?_,⟨G,hG⟩,oY⟩;obtain⟨b,h1,h2,h3⟩:=tok t x e;refine⟨b,h1,h2,?_⟩;rcases h3 with h3|h3
   ·exact aj1 (t,x) (ru h3)
   ·show Lt (Hf m').length x;rw[hl m' q2];exact hlt t x h3
 |_=>exact hΦ
theorem gJ{nt:Nat}{c:T5}{Φ:an->AS->Prop}(n:Nat)(V:Nat->List (Nat×AV))(Hf:Nat->List aa)(ok:Nat->Prop)
  (BX:∀m m',(V m).map (·.1)=(V m').map (·.1)) (iD:∀p∈V 0,∃b,look s.T p.1=some b/\Wk b p.2) (Bu:Hf 0=s.H) (hl:∀m,m<=n->ok m->(Hf m).length=s.H.length) (hm:ok 0)
  (h:bM s.H->(∀t a,look s.T t=some a->Lt s.H.length a)->∀m,m<=n->ok m->∀R:AS->Prop,(∀s',(m<n/\ok (m+1)/\tC s.T (V m) (V (m+1)) (Hf (m+1)) s')->R s')->aU lv P r nt c ⟨V m++s.T,Hf m⟩ (an.then R Φ)):aU lv P r nt (.loop c) s Φ:=by
 refine yu (measure λi=>n-i).wf V Hf (λi=>i<=n/\ok i) 0 BX iD Bu (λm h=>hl m h.1 h.2) ⟨X_ _,hm⟩ (λh1 h2 m ay R hR=> ?_);exact h h1 h2 m ay.1 ay.2 R λs' ⟨q1,q2,q3⟩=>hR s' ⟨m+1,(by show n-(m+1)<n-m;omega),⟨q1,q2⟩,q3⟩
end
theorem o_{T base Vn:List (Nat×AV)}(h1:T.drop (T.length-base.length)=base)(h2:((T.take (T.length-base.length)).all λp=>(Vn.any λq=>q.1==p.1)|| !(base.any λq=>q.1==p.1))=true):rS T base Vn:=⟨h1,h2⟩
theorem lr{H L:List aa}{x:SO}{k:AV->List aa->Prop}(hH:bM H)(h:k (.val x) H):cD H.length (H++L) (.val x) k:=jN (Wk.refl _) rfl (SP _) hH (.val x) h
theorem jM{H L:List aa}{a b:AV}{k:AV->List aa->Prop}(hH:bM H)(hw:Wk a b)(hl:Lt H.length b)(h:k b H):cD H.length (H++L) a k:=jN hw rfl (SP _) hH hl h
def aa.cellsOf:aa->Option (List AV)
 |.cells l _|.part _ l _|.own _ l _=>some l
 |_=>none
theorem afN(l:List AV)(e:TypeId):aa.cellsOf (.cells l e)=some l:=rfl
theorem afP(p:Nat)(l:List AV)(e:TypeId):aa.cellsOf (.part p l e)=some l:=rfl
def aa.rowOf:aa->Option (List AV)
 |.cells l _|.part _ l _|.own _ l _=>some l
 |_=>none
theorem aoV(l:List AV)(e:TypeId):aa.rowOf (.cells l e)=some l:=rfl
theorem afO(p:Nat)(l:List AV)(e:TypeId):aa.cellsOf (.own p l e)=some l:=rfl
theorem aoW(p:Nat)(l:List AV)(e:TypeId):aa.rowOf (.own p l e)=some l:=rfl
theorem aoX(p:Nat)(l:List AV)(e:TypeId):aa.rowOf (.part p l e)=some l:=rfl
theorem aeL(T:List (Nat×AV))(H:List aa)(i off:Nat):AS.at ⟨T,H⟩ (.op i off)=((H[i]?).bind aa.cellsOf).map λl=>l.drop off:=by
 simp only[AS.at];cases H[i]?with
 |none=>rfl
 |some x=>cases x<;>rfl
theorem anx(k:TU)(n:Int):AV.parts (.val (.int k n))=some [.val (.int k n)]:=rfl
theorem ant(b:Bool):AV.parts (.val (.bool b))=some [.val (.bool b)]:=rfl
theorem anI(b:ByteArray):AV.parts (.val (.string b))=some [.val (.string b)]:=rfl
theorem anF(b:Option U1):AV.parts (.val (.pointer b))=some [.val (.pointer b)]:=rfl
theorem anB:AV.parts (.val .nilFunc)=some [.val .nilFunc]:=rfl
theorem anC:AV.parts (.val .nilIface)=some [.val .nilIface]:=rfl
theorem anz(r:Option Nat):AV.parts (.val (.map r))=some [.val (.map r)]:=rfl
theorem ans(l:List AV):AV.parts (.agg l)=some l:=rfl
theorem anH(n:Nat)(l:List AV)(e:End):AV.parts (.sl n l e)=some [.sl n l e]:=rfl
theorem alZ(n:Nat)(l:List AV)(e:End):AV.len (.sl n l e)=some n:=by rw[AV.len]
theorem alY(i o n c:Nat):AV.len (.bE i o n c)=some n:=by rw[AV.len]
attribute [seval] alZ alY
theorem anE(i o n c:Nat):AV.parts (.bE i o n c)=some [.bE i o n c]:=rfl
theorem anG(l:List AV):AV.parts (.rp l)=some [.rp l]:=rfl
theorem anD(i o:Nat):AV.parts (.op i o)=some [.op i o]:=rfl
theorem anv(f:Fn)(l m:List AV):AV.parts (.fn f l m)=some [.fn f l m]:=rfl
theorem anw(t:TypeId)(a:AV):AV.parts (.cX t a)=some [.cX t a]:=rfl
theorem anA(i:Nat):AV.parts (.mp i)=some [.mp i]:=rfl
theorem alJ(k:TU)(n:Int):AV.leaf (.val (.int k n))=true:=rfl
theorem alF(b:Bool):AV.leaf (.val (.bool b))=true:=rfl
theorem alU(b:ByteArray):AV.leaf (.val (.string b))=true:=rfl
theorem alR(b:Option U1):AV.leaf (.val (.pointer b))=true:=rfl
theorem alM:AV.leaf (.val .nilFunc)=true:=rfl
theorem alN:AV.leaf (.val .nilIface)=true:=rfl
theorem alK(r:Option Nat):AV.leaf (.val (.map r))=true:=rfl
theorem alT(n:Nat)(l:List AV)(e:End):AV.leaf (.sl n l e)=true:=rfl
theorem alQ(i o n c:Nat):AV.leaf (.bE i o n c)=true:=rfl
theorem alS(l:List AV):AV.leaf (.rp l)=true:=rfl
theorem alP(i o:Nat):AV.leaf (.op i o)=true:=rfl
theorem alH(f:Fn)(l m:List AV):AV.leaf (.fn f l m)=true:=rfl
theorem alI(t:TypeId)(a:AV):AV.leaf (.cX t a)=true:=rfl
theorem alL(i:Nat):AV.leaf (.mp i)=true:=rfl
theorem am1(k:TU)(n:Int):AV.pf (.int k n)=.val (.int k n):=rfl
theorem amY(b:Bool):AV.pf (.bool b)=.val (.bool b):=rfl
theorem am4:AV.pf (.slice none 0 0)=.sl 0 [] .exact:=rfl
theorem amZ:AV.pf .nilFunc=.val .nilFunc:=rfl
theorem am0:AV.pf .nilIface=.val .nilIface:=rfl
theorem am3(a:Option U1):AV.pf (.pointer a)=.val (.pointer a):=rfl
theorem am2(a:Option Nat):AV.pf (.map a)=.val (.map a):=rfl
theorem arJ(l:List SO):lQ (.agg l.toArray)=l.map AV.pf:=by simp[lQ,Z3]
theorem arO(k:TU)(n:Int):lQ (.int k n)=[.val (.int k n)]:=rfl
theorem arK(b:Bool):lQ (.bool b)=[.val (.bool b)]:=rfl
theorem arR:lQ (.slice none 0 0)=[.sl 0 [] .exact]:=rfl
theorem arM:lQ .nilFunc=[.val .nilFunc]:=rfl
theorem arN:lQ .nilIface=[.val .nilIface]:=rfl
theorem arQ(a:Option U1):lQ (.pointer a)=[.val (.pointer a)]:=rfl
theorem arP(a:Option Nat):lQ (.map a)=[.val (.map a)]:=rfl
theorem agU(s:AS):jX s []=some []:=rfl
theorem agT(s:AS)(i:Nat)(x:Ti)(l:List (Nat×Ti)):jX s ((i,x)::l)=(s.ev x).bind λa=>(jX s l).map λaD=>(i,a)::aD:=by
 simp only[jX];cases s.ev x with
 |none=>rfl
 |some a=>cases jX s l<;>rfl
theorem ah6(p:Nat->Option (Nat×Nat))(c:List AV):nV p c []=some c:=rfl
theorem ah5(p:Nat->Option (Nat×Nat))(c:List AV)(i:Nat)(a:AV)(r:List (Nat×AV)):nV p c ((i,a)::r)=(p i).bind λx=>(a.parts).bind λlp=>if lp.length≠x.2\/x.1+lp.length>c.length then none else nV p (iw c x.1 lp) r:=by
 simp only[nV];cases p i with
 |none=>rfl
 |some x=>cases a.parts<;>rfl
theorem anP(l:List (Nat×Nat))(i:Nat):ig.at (.fields l) i=l[i]?:=rfl
theorem anO(sz i:Nat):ig.at (.elems sz) i=some (i* sz,sz):=rfl
theorem arH(z:SO):gG z 0=[]:=rfl
theorem apW(s:AS)(sz m:Nat)(l:List AV)(e:End):s.src sz (.sl m l e)=some (m,l.take (m* sz)):=rfl
theorem apV(T:List (Nat×AV))(H:List aa)(sz i off m c:Nat):AS.src ⟨T,H⟩ sz (.bE i off m c)=((H[i]?).bind aa.rowOf).map λl=>(m,(l.drop off).take (m* sz)):=by
 simp only[AS.src];cases H[i]?with
 |none=>rfl
 |some x=>cases x<;>rfl
theorem aeD(n:Nat)(l:List AV)(e:End)(kO:Nat->Nat->Nat->Nat->Prop)(k:Nat->List AV->End->Prop):AV.pA (.sl n l e) kO k=k n l e:=by rw[AV.pA]
theorem aeC(i o n c:Nat)(kO:Nat->Nat->Nat->Nat->Prop)(k:Nat->List AV->End->Prop):AV.pA (.bE i o n c) kO k=kO i o n c:=by rw[AV.pA]
theorem aem:type_of% @tg.eq_1:=by intros;rw[tg.eq_1]
theorem aek(s:AS)(dst:Option Nat)(next:AS->Prop)(n m sz:Nat)(elem:TypeId)(l l':List AV):Am s dst next n m sz elem l l' .exact=next ((⟨s.T,s.H++[.tail (n+m) sz elem]⟩:AS).put dst (.sl (n+m) (l++l') (.opn s.H.length))):=rfl
theorem ael(s:AS)(dst:Option Nat)(next:AS->Prop)(n m sz:Nat)(elem:TypeId)(l l':List AV)(k:Nat):Am s dst next n m sz elem l l' (.opn k)=((match s.H[k]?with
   |some (.tail n' ep fY)=>n'=n/\ep=sz/\fY=elem
   |_=>False)/\(∀a∈l',a.leaf=true)/\next ((⟨s.T,s.H.set k (.tail (n+m) sz elem)⟩:AS).put dst (.sl (n+m) (l++l') (.opn k)))):=rfl
theorem aoM(P:SJ)(T:List (Nat×AV))(H:List aa)(b t:Nat):uF P ⟨T,H⟩ (.cell b t)=(look T b).bind λp=>((⟨T,H⟩:AS).at p).bind λl=>(Ty P t).bind λx=>if x.2 then(if x.1<=l.length then some (.agg (l.take x.1))else none)else l[0]?:=rfl
section
variable {lv:Bool}{P:SJ}{s s':AS}
@[congr] theorem asW {α : Type} {x y : Option α} {k : α -> Prop} (h : x = y) : ao x k = ao y k := by rw [h]
@[congr] theorem ar5 {a b : AV} {k : Bool -> Prop} (h : a = b) : AV.asBool a k = AV.asBool b k := by rw [h]
@[congr] theorem ar6 {a b : AV} {k : TU -> Int -> Prop} (h : a = b) : AV.asInt a k = AV.asInt b k := by rw [h]
@[congr] theorem asb {a b : AV} {k : List AV -> Prop} (h : a = b) : AV.wM a k = AV.wM b k := by rw [h]
@[congr] theorem ar4 {a b : AV} {k : List AV -> Prop} (h : a = b) : AV.asAgg a k = AV.asAgg b k := by rw [h]
@[congr] theorem ar8 {a b : AV} {k : Nat -> Nat -> Prop} (h : a = b) : AV.pz a k = AV.pz b k := by rw [h]
@[congr] theorem ar7 {a b : AV} {k : Nat -> Prop} (h : a = b) : AV.rZ a k = AV.rZ b k := by rw [h]
@[congr] theorem asa {a b : AV} {k : Nat -> List AV -> End -> Prop} (h : a = b) : AV.uZ a k = AV.uZ b k := by rw [h]
@[congr] theorem ar9 {a b : AV} {kO : Nat -> Nat -> Nat -> Nat -> Prop} {k : Nat -> List AV -> End -> Prop} (h : a = b) : AV.pA a kO k = AV.pA b kO k := by rw [h]
@[congr] theorem ar2 {H H' : List aa} {k : AV -> List aa -> Prop} {id oo off CO n n' c0 Od m m' sz : Nat} {elem : TypeId} {l l' : List AV} (h0 : H = H') (h1 : id = oo) (h2 : off = CO) (h3 : n = n') (h4 : c0 = Od) (h5 : m = m') (h6 : l = l') : tg H k id off n c0 m sz elem l = tg H' k oo CO n' Od m' sz elem l' := by rw [h0, h1, h2, h3, h4, h5, h6]
@[congr] theorem arU {op : VW} {t : TypeId} {a a' b b' : AV} {k : AV -> Prop} (h : a = a') (h' : b = b') : dp P op t a b k = dp P op t a' b' k := by rw [h, h']
@[congr] theorem arT {s' : AS} {op : VW} {t : TypeId} {y : Ti} {a a' : AV} {k : AV -> Prop} (hs : s = s') (h : a = a') : iB P s op t y a k = iB P s' op t y a' k := by rw [hs, h]
@[congr] theorem arX {a b : AV} {k : AV -> Prop} (h : a = b) : mj P a k = mj P b k := by rw [h]
@[congr] theorem arS {t : TypeId} {ok : Bool} {a b : AV} {k : AV -> Prop} (h : a = b) : Ak P t ok a k = Ak P t ok b k := by rw [h]
@[congr] theorem arW {t : TypeId} {a b : AV} {k : AV -> Prop} (h : a = b) : rN P s t a k = rN P s t b k := by rw [h]
@[congr] theorem ar0 {t : TypeId} {a b : AV} {x y z : Option Int} {k : AV -> Prop} (h : a = b) : rO P t a x y z k = rO P t b x y z k := by rw [h]
@[congr] theorem arY {o : Tv} {k : AV -> Prop} (h : s = s') : lm P s o k = lm P s' o k := by rw [h]
@[congr] theorem ar3 {o : Tv} {k : AV -> Prop} (h : s = s') : AQ lv P s o k = AQ lv P s' o k := by rw [h]
@[congr] theorem ar1 {o : Tv} {next : AS -> Prop} {bad : AV -> AS -> Prop} (h : s = s') : ml lv P s o next bad = ml lv P s' o next bad := by rw [h]
@[congr] theorem arZ {all : Array Tv} {l : List Tv} {next : AS -> Prop} {bad : AV -> AS -> Prop} (h : s = s') : ie lv P all l s next bad = ie lv P all l s' next bad := by rw [h]
@[congr] theorem asY {all : Array Tv} {l l' : List Tv} {K : AS -> Prop} (hl : l = l') (h : s = s') : mR lv P all l s K = mR lv P all l' s' K := by rw [hl, h]
@[congr] theorem ase {r : Option Nat} {nt : Nat} {c : T5} {Φ : an -> AS -> Prop} (h : s = s') : aU lv P r nt c s Φ = aU lv P r nt c s' Φ := by rw [h]
@[congr] theorem as7 {K : AS -> Prop} {Φ : an -> AS -> Prop} {e e' : an} (he : e = e') (h : s = s') : an.then K Φ e s = an.then K Φ e' s' := by rw [he, h]
@[congr] theorem asT {i : Nat} {Φ : an -> AS -> Prop} {e e' : an} (he : e = e') (h : s = s') : an.inBlock i Φ e s = an.inBlock i Φ e' s' := by rw [he, h]
end
theorem adL:type_of% @ie.eq_1:=by intros;rw[ie.eq_1]
theorem adK:type_of% @ie.eq_2:=by intros;rw[ie.eq_2]
theorem adR:type_of% @ml.eq_1:=by intros;rw[ml.eq_1]
theorem adJ:type_of% @lm.eq_1:=by intros;rw[lm.eq_1]
theorem anY:type_of% @mR.eq_1:=by intros;rw[mR.eq_1]
theorem anX:type_of% @mR.eq_2:=by intros;rw[mR.eq_2]
theorem adM:type_of% @AQ.eq_1:=by intros;rw[AQ.eq_1]
theorem aoJ:type_of% @gO.eq_1:=by intros;rw[gO.eq_1]
theorem aoI:type_of% @gO.eq_2:=by intros;rw[gO.eq_2]
theorem aoL:type_of% @iN.eq_1:=by intros;rw[iN.eq_1]
theorem agW:type_of% @e9.eq_1:=by intros;rw[e9.eq_1]
theorem agV:type_of% @e9.eq_2:=by intros;rw[e9.eq_2]
theorem ado:type_of% @Ak.eq_1:=by intros;rw[Ak.eq_1]
theorem anT:type_of% @iw.eq_1:=by intros;rw[iw.eq_1]
theorem aoK:iN []=.aK []:=by rw[iN];simp
theorem abu(a b:AV)(l:List AV):iN (a::b::l)=.aK (a::b::l):=by rw[iN];simp
theorem aqv(l:List AV):(AV.rp l).sure=true:=by simp[AV.sure]
theorem aqt(i j:Nat):(AV.op i j).sure=true:=by simp[AV.sure]
theorem aqp(f:TQ)(x y:List AV):(AV.fn (.func f) x y).sure=true:=by simp[AV.sure]
theorem aqq(t:TypeId)(x:AV):(AV.cX t x).sure=true:=by simp[AV.sure]
theorem adF(P:SJ)(k:AV->Prop)(name:String)(t:TypeId)(av:AV):mj P (.fn (.method name) [.cX t av] []) k=(HB P t name/\k (.fn (.method name) [.cX t av] [])):=by rw[mj]
theorem adH(P:SJ)(k:AV->Prop)(l:List AV):mj P (.rp l) k=k (.rp l):=by simp[mj,AV.sure]
theorem adG(P:SJ)(k:AV->Prop)(i j:Nat):mj P (.op i j) k=k (.op i j):=by simp[mj,AV.sure]
theorem adD(P:SJ)(k:AV->Prop)(f:TQ)(x y:List AV):mj P (.fn (.func f) x y) k=k (.fn (.func f) x y):=by simp[mj,AV.sure]
theorem adI(P:SJ)(k:AV->Prop)(f)(x y:List AV):mj P (.fn (.yield f) x y) k=k (.fn (.yield f) x y):=by simp[mj,AV.sure]
theorem adE(P:SJ)(k:AV->Prop)(t:TypeId)(x:AV):mj P (.cX t x) k=k (.cX t x):=by simp[mj,AV.sure]
theorem ady(P:SJ)(s:AS)(op:VW)(xt:TypeId)(t:Nat)(a:AV)(k:AV->Prop):iB P s op xt (.tmp t) a k=ao (s.ev (.tmp t)) λb=>dp P op xt a b k:=by rw[iB]<;>(intros;simp_all)
theorem adt(P:SJ)(s:AS)(op:VW)(xt:TypeId)(j:TU)(m:Int)(a:AV)(k:AV->Prop):iB P s op xt (.const (.int j m)) a k=ao (s.ev (.const (.int j m))) λb=>dp P op xt a b k:=by rw[iB]<;>(intros;simp_all)
theorem adq(P:SJ)(s:AS)(op:VW)(xt:TypeId)(c:Bool)(a:AV)(k:AV->Prop):iB P s op xt (.const (.bool c)) a k=ao (s.ev (.const (.bool c))) λb=>dp P op xt a b k:=by rw[iB]<;>(intros;simp_all)
theorem adx(P:SJ)(s:AS)(op:VW)(xt:TypeId)(c:ByteArray)(a:AV)(k:AV->Prop):iB P s op xt (.const (.string c)) a k=ao (s.ev (.const (.string c))) λb=>dp P op xt a b k:=by rw[iB]<;>(intros;simp_all)
theorem adp(P:SJ)(s:AS)(op:VW)(xt:TypeId)(c:Array SO)(a:AV)(k:AV->Prop):iB P s op xt (.const (.agg c)) a k=ao (s.ev (.const (.agg c))) λb=>dp P op xt a b k:=by rw[iB]<;>(intros;simp_all)
theorem adw(P:SJ)(s:AS)(op:VW)(xt:TypeId)(c:Option U1)(a:AV)(k:AV->Prop):iB P s op xt (.const (.pointer c)) a k=ao (s.ev (.const (.pointer c))) λb=>dp P op xt a b k:=by rw[iB]<;>(intros;simp_all)
theorem adu(P:SJ)(s:AS)(op:VW)(xt:TypeId)(c:Option U1)(m n:Nat)(a:AV)(k:AV->Prop):iB P s op xt (.const (.slice c m n)) a k=ao (s.ev (.const (.slice c m n))) λb=>dp P op xt a b k:=by rw[iB]<;>(intros;simp_all)
theorem adv(P:SJ)(s:AS)(op:VW)(xt:TypeId)(k:AV->Prop):iB P s op xt (.const .nilIface) (.val .nilIface) k=(ma P xt=some true/\(op=.eql\/op=.neq)/\k (.val (.bool (if op== .neq then false else true)))):=by rw[iB]
theorem ads(P:SJ)(s:AS)(op:VW)(xt t:TypeId)(x:AV)(k:AV->Prop):iB P s op xt (.const .nilIface) (.cX t x) k=(ma P xt=some true/\(op=.eql\/op=.neq)/\k (.val (.bool (if op== .neq then true else false)))):=by rw[iB]
theorem agH:((XG== .neq)=false):=rfl
theorem amN:((VT== .neq)=true):=rfl
theorem aix(z:SO):AV.found z true none=.aK [AV.of z,.val (.bool false)]:=by rw[AV.found];simp
theorem aiy(z:SO)(x:Nat×SO):AV.found z true (some x)=.aK [AV.of x.2,.val (.bool true)]:=by rw[AV.found];simp
attribute [seval] aix aiy
attribute [seval] ady adt adq adx adp adw adu adv ads agH amN
attribute [seval] aow aox aiX aiW aiV aiU v7 agS agJ agN agL agR agO agP agK agM amj amk anV anU aqO aqQ aqM aqN aqP afx afz afu afy afv afw aiw aiu aiv aoO aex aez aeG aev aeB aeA aeE aeD aeC aem adS ad5 ad1 adV NA ad0 adZ adX adW true_and and_true Option.bind_some List.getElem?_toArray List.getElem?_cons_succ List.getElem?_cons_zero Bool.not_true Bool.not_false true_implies false_implies if_true if_false aeM apE apF apG aoZ aoY List.drop_succ_cons List.drop_zero List.take_succ_cons List.take_zero List.cons_append List.nil_append List.length_cons List.length_nil Int.toNat_natCast decide_eq_true_eq decide_eq_false_iff_not Bool.not_eq_true' Bool.not_eq_false' Bool.not_eq_eq_eq_not aeL afN afP aoV aoX aoW afO Option.map_some uW aeo uX aes aen aer Nat.zero_add List.set_cons_zero List.set_cons_succ anx ant anI anF anB anC anz ans anH anE anG anD anv anw anA List.forall_mem_cons List.not_mem_nil false_imp_iff implies_true alJ alF alU alR alM alN alK alT alQ alS alP alH alI alL am1 amY am4 amZ am0 am3 am2 arJ arO arK arR arM arN arQ arP List.map_cons List.map_nil agU agT ah6 ah5 anP anO arH apW apV aek ael aoM adC adB ne_eq not_true_eq_false not_false_eq_true gt_iff_lt Nat.lt_irrefl or_self or_false false_or Nat.le_refl Nat.mul_one Nat.one_mul Nat.zero_mul Nat.mul_zero bne_iff_ne bne_eq_false_iff_eq beq_iff_eq adL adK adR adJ anY anX adM aoJ aoI aoL aoK abu agW agV ado anT abu aqv aqt aqp aqq adF adH adG adD adI adE
theorem aoU{base Vi Vn T:List (Nat×AV)}{H:List aa}(hk:rS T (Vi++base) Vn)(hv:∀p∈Vn,∃b,look T p.1=some b/\Wk b p.2):tC base Vi Vn H ⟨T,H⟩:=⟨hk,hv,[],by simp,.inl rfl⟩
theorem abw{base Vi Vn T:List (Nat×AV)}{H G:List aa}(hk:rS T (Vi++base) Vn)(hv:∀p∈Vn,∃b,look T p.1=some b/\Wk b p.2)(ay:bM H)(hlt:∀p∈Vn,Lt H.length p.2):tC base Vi Vn H ⟨T,H++G⟩:=⟨hk,hv,G,rfl,.inr ⟨ay,hlt⟩⟩
theorem zY{base Vi Vn T:List (Nat×AV)}{H L G:List aa}(hk:rS T (Vi++base) Vn)(hv:∀p∈Vn,∃b,look T p.1=some b/\Wk b p.2)(ay:bM (H++L))(hlt:∀p∈Vn,Lt (H++L).length p.2):tC base Vi Vn (H++L) ⟨T,H++(L++G)⟩:=⟨hk,hv,G,(SD ..).symm,.inr ⟨ay,hlt⟩⟩
def pick (ks:List Nat)(T:List (Nat×AV)):List (Nat×AV):=ks.filterMap λk=>(look T k).map λa=>(k,a)
theorem NT{lv:Bool}{P:SJ}{r:Option Nat}{nt:Nat}{c:T5}{T:List (Nat×AV)}{H:List aa}{Φ:an->AS->Prop}(ks:List Nat)(h:aU lv P r nt c ⟨pick ks T,H⟩ Φ):aU lv P r nt c ⟨T,H⟩ Φ:=by
 refine mz (s':=⟨pick ks T,H⟩) ⟨λt a e=> ?_,rfl⟩ h;obtain⟨k,_,e'⟩:=VR.1 (ru e);obtain⟨b,hb,e'⟩:=Tq.1 e';cases e';exact⟨a,hb,Wk.refl a⟩
theorem LF{ops:Array Tv}(l5:∀(i:Nat) o,ops[i]?=some o->∀j∈cO o,j<ops.size)(RE:∀X:List Nat,(∃i,i<ops.size/\i∉X)->∃i o,ops[i]?=some o/\i∉X/\∀j∈cO o,j∈X):∀(fuel t:Nat)(L:Array Bool)(X:List Nat),Nu ops L X->(S0 ops.size).countP (λi=> !X.contains i)<=fuel->lS ops X (UB .any ops fuel t L [])
 |0,t,L,X,hr,hc=>by
  simp only[UB,XT];refine .nil X λi hi=> ?_;have:(S0 ops.size).countP (λi=> !X.contains i)=0:=by omega
  have:=List.countP_eq_zero.1 this i (by simpa using hi);simpa using this
 |fuel+1,t,L,X,hr,hc=>by
  have uk:∀i,i∈((S0 ops.size).filter λi=> !L.getD i true&&((ops[i]?).map (·.after.all λe=> !Region.binds .any e||L.getD e.on false)).getD false)<->∃o,ops[i]?=some o/\i∉X/\∀j∈cO o,j∈X:=by
   intro i;simp only[Un,TG,Tc,TV];constructor
   ·rintro⟨hi,h1,h2⟩
    have ho:=SK hi;refine⟨ops[i],ho,λhx=> ?_,λj hj=> ?_⟩
    ·have:=(hr.mem i hi).2 hx;rw[SI,this]at h1;cases h1
    ·obtain⟨e,he,hb,rfl⟩:=F6.1 hj;rw[ho]at h2;simp only[UN,S9,UD]at h2;have:=h2 e he;rw[hb]at this;simp only[ai_,XR]at this;have hlt:e.on<ops.size:=l5 i _ ho _ hj;refine(hr.mem _ hlt).1 ?_;rw[SI]at this;cases hx:L[e.on]?with
     |none=>rw[hx]at this;cases this
     |some b=>rw[hx]at this;cases b;cases this;rfl
   ·rintro⟨o,ho,h1,h2⟩
    have hi:i<ops.size:=(SR.1 ho).1;refine⟨hi,?_,?_⟩
    ·rw[SI,SK (by rw[hr.size];exact hi)];simp only[S9];cases hb:L[i]'(by rw[hr.size];exact hi)with
     |false=>rfl
     |true=>exact absurd ((hr.mem i hi).1 (by rw[SK (by rw[hr.size];exact hi),hb])) h1
    ·rw[ho];simp only[UN,S9,UD];intro e he;cases hb:Yo .any e with
     |false=>rfl
     |true=>
      have hj:=F6.2 ⟨e,he,hb,rfl⟩;have hlt:e.on<ops.size:=l5 i _ ho _ hj;have:=(hr.mem _ hlt).2 (h2 _ hj);simp[SI,this]
  simp only[UB];generalize Ce:((S0 ops.size).filter λi=> !L.getD i true&&((ops[i]?).map (·.after.all λe=> !Region.binds .any e||L.getD e.on false)).getD false)=rs at uk;cases hi:rs[t % rs.length]?with
  |none=>
   have Kl:rs=[]:=by
    cases rs with
    |nil=>rfl
    |cons x xs=>
     have hlt:t % (x::xs).length<(x::xs).length:=aq_ _ (by simp);rw[List.getElem?_eq_none_iff]at hi;omega
   simp only[XT];refine .nil X λi hlt=> ?_;apply Tu;intro hx;obtain⟨i',o,h1,h2,h3⟩:=RE X ⟨i,hlt,hx⟩;have:i'∈rs:=(uk i').2 ⟨o,h1,h2,h3⟩;rw[Kl]at this;cases this
  |some i=>
   simp only[];obtain⟨o,ho,h1,h2⟩:=(uk i).1 (Te hi);have hlt:i<ops.size:=(SR.1 ho).1;rw[linearise_go_acc,List.reverse_singleton,YX];refine .cons o ho h1 h2 (LF l5 RE fuel _ _ (i::X) ⟨by simp[hr.size],λk hk=> ?_⟩ ?_)
   ·by_cases qV:k=i
    ·subst qV;simp[S_ (by rw[hr.size];exact hlt)]
    ·rw[SU (Ne.symm qV),hr.mem k hk];simp[qV]
   ·have fA:i∈(S0 ops.size):=(by simpa using hlt);have:(S0 ops.size).countP (λk=> !(i::X).contains k)<(S0 ops.size).countP (λk=> !X.contains k):=by
     exact Ou fA (λk hk=>by simp only[TV,Up,decide_eq_false_iff_not]at hk⊢;exactλh=>hk (Tb _ h)) (by simpa using h1) (by simp)
    omega
theorem IU{X:List Nat}:∀{l:List Nat},(∃i∈l,i∉X)->∃A i B,l=A++i::B/\i∉X/\∀a∈A,a∈X
 |[],⟨_,h,_⟩=>by cases h
 |x::l,⟨i,h,hn⟩=>by
  by_cases hx:x∈X
  ·have hi:i∈l:=(SL.1 h).resolve_left λe=>hn (e▸hx);obtain⟨A,j,B,h1,h2,h3⟩:=IU ⟨i,hi,hn⟩;exact⟨x::A,j,B,by rw[h1];rfl,h2,λa ha=>(SL.1 ha).elim (λe=>e▸hx) (h3 a)⟩
  ·exact⟨[],x,l,rfl,hx,by simp⟩
structure Ax (k:AV->List aa->Prop):Type where
 n:Nat
def Dv (lv:Bool)(P:SJ)(f:AV)(H:List aa)(aD:List AV)(k:AV->List aa->Prop)(_t:Ax k):Prop:=∃av H',iQ lv P f H aD (λb tp=>b=av/\tp=H') (λ_ _=>False)/\k av H'
def Hu (lv:Bool)(P:SJ)(f:AV)(name:String)(H:List aa)(aD:List AV)(k:AV->List aa->Prop)(_t:Ax k):Prop:=∃av H',DE lv P f name H aD (λb tp=>b=av/\tp=H') (λ_ _=>False)/\k av H'
theorem kN{lv:Bool}{P:SJ}{f:AV}{H:List aa}{aD:List AV}{k:AV->List aa->Prop}{t:Ax k}(av:AV)(H':List aa)(h:iQ lv P f H aD (λb tp=>b=av/\tp=H') (λ_ _=>False))(hk:k av H'):Dv lv P f H aD k t:=⟨av,H',h,hk⟩
def jV (x:Option aa)(X Y:Prop)(_t:lR X Y):Prop:=match x with
 |some (.own _ _ _)=>X
 |_=>Y
def qu (G H:List aa)(k:AV->List aa->Prop)(n m sz:Nat)(elem:TypeId)(l l':List AV):End->Prop
 |.exact=>jV G[H.length]? (0<m/\k (.bE H.length 0 (n+m) 0) (H++[.own sz (l++l') elem])) (k (.sl (n+m) (l++l') (.opn H.length)) (H++[.tail (n+m) sz elem])) ⟨0⟩
 |.opn i=>(match H[i]?with
   |some (.tail n' ep fY)=>n'=n/\ep=sz/\fY=elem
   |_=>False)/\(∀a∈l',a.leaf=true)/\k (.sl (n+m) (l++l') (.opn i)) (H.set i (.tail (n+m) sz elem))
 |.shut=>m=0/\k (.sl n l .shut) H
section
variable (lv:Bool)(P:SJ)
def jT (G:List aa)(s:AS)(o:Tv)(k:AV->List aa->Prop):Prop:=match o.op with
 |.box t x=>ao (s.ev x) λa=>ao a.parts λl=>k (.op s.H.length 0) (s.H++[.cells l t])
 |.alloc t=>ao (eG P t) λz=>k (.op s.H.length 0) (s.H++[.cells (lQ z) t])
 |.store t x y=>ao (s.ev x) λp=>ao (s.ev y) λa=>ao a.parts λlp=>p.pz λid off=>match s.H[id]?with
  |some (.cells l el)=>(ao (Ty P t) λx=>lp.length=x.1)/\off+lp.length<=l.length/\(∀a∈lp,a.leaf=true)/\k (.val undef) (s.H.set id (.cells (iw l off lp) el))
  |some (.own p l el)=>(ao (Ty P t) λx=>lp.length=x.1)/\off+lp.length<=l.length/\(∀a∈lp,a.leaf=true)/\k (.val undef) (s.H.set id (.own p (iw l off lp) el))
  |_=>False
 |.call c=>match c.callee with
  |.builtin .append=>match c.args.toList,c.argTypes.toList with
   |[x,y],[t,t']=>ao (jF P t t') λ(elem,sz,_)=>ao (s.ev x) λa=>ao (s.ev y) λb=>a.pA (λid off n c0=>ao (s.src sz b) λ(m,l')=>tg s.H k id off n c0 m sz elem l') λn l e=>ao (s.src sz b) λ(m,l')=>l.length=n* sz/\l'.length=m* sz/\n+m<=2^30/\qu G s.H k n m sz elem l l' e
   |_,_=>False
  |.value x=>ao (s.ev x) λf=>ao (e9 s c.args.toList) λaD=>Dv lv P f s.H aD k ⟨0⟩
  |.invoke x name=>ao (s.ev x) λf=>ao (e9 s c.args.toList) λaD=>Hu lv P f name s.H aD k ⟨0⟩
  |_=>False
 |.makeSlice t x y=>ao (Ay P t) λ(e,sz,z)=>ao (s.ev x) λa=>ao (s.ev y) λb=>a.asInt λ_ n=>b.asInt λ_ n'=>n'=n/\0<=n/\n<=2^30/\k (.bE s.H.length 0 n.toNat n.toNat) (s.H++[.cells (gG z (n.toNat* sz)) e])
 |.buildSlice t len parts=>ao (qB P t) λ(e,sz,z)=>len* sz<=2^24/\ao (jX s parts.toList) λlU=>ao (nV (ig.at (.elems sz)) (gG z (len* sz)) lU) λl=>k (.bE s.H.length 0 len len) (s.H++[.cells l e])
 |_=>False
end
section
variable {lv:Bool}{P:SJ}{r:Option Nat}{o:Tv}{s:AS}{k:AV->List aa->Prop}
theorem Step.drop{G:List aa}{av my:AV}{bad:AV->AS->Prop}(h:Step lv P r o s (λs'=>s'=(⟨s.T,s.H++G⟩:AS).put o.dst av) bad)(hw:Wk av my)(hl:∀(E:Env)(V:View)(a:Act),Conc E V s.H->b8 E s.T a.tmps->Lt s.H.length my):Step lv P r o s (λs'=>s'=(⟨s.T,s.H⟩:AS).put o.dst my) bad:=λE V a N Q hc ht hd hf n1 n2=>by
 refine h E V a N Q hc ht hd hf (λE' V' a' s' q1 q2 q3 q4=> ?_) n2;subst q4;rw[fe]at q2;have fz:((⟨s.T,s.H++G⟩:AS).put o.dst av).Hq ((⟨s.T,s.H⟩:AS).put o.dst my):=by
  refine⟨λt x e=> ?_,⟨G,by rw[fe,fe]⟩,by rw[fe];exact hc.ay⟩;rw[fe];have hold:look s.T t=some x->Lt s.H.length x:=λe=>by rw[<- hc.n];exact(ht t x e).2.lt
  cases dj:o.dst with
  |none=>
   rw[dj]at e;simp only[AS.put]at e⊢;exact⟨x,e,Wk.refl x,hold e⟩
  |some d=>
   rw[dj]at e;simp only[AS.put,look]at e⊢;by_cases QD:d=t
   ·rw[if_pos QD]at e⊢;cases e;exact⟨av,rfl,hw,hl E V a hc ht⟩
   ·rw[if_neg QD]at e⊢;exact⟨x,e,Wk.refl x,hold e⟩
 have ah:At E' V' ((⟨s.T,s.H++G⟩:AS).put o.dst av) a' a'.tmps.size:=⟨by rw[fe];exact q2,q3,rfl⟩;have aS:=ah.cut fz;rw[fe]at aS;refine n1 _ V' a' _ ⟨Db (SP _) (by rw[q2.n];simp) q1.le hc.n,q1.size,q1.defers,q1.role,q1.deaf⟩ aS.bm aS.tok rfl
end
section
variable {lv:Bool}{P:SJ}{r:Option Nat}{o:Tv}{s:AS}{G:List aa}{k:AV->List aa->Prop}
theorem d_{α:Type}{x:Option α}{a:α}{k:α->Prop}(h:x=some a)(hk:k a):ao x k:=by rw[h,ao];exact hk
theorem PN{x:Option aa}{X Y:Prop}{t:lR X Y}(h:jV x X Y t):((∃a b c,x=some (.own a b c))/\X)\/((∀a b c,x≠some (.own a b c))/\Y):=by
 unfold jV at h;split at h
 ·exact .inl ⟨⟨_,_,_,rfl⟩,h⟩
 ·rename_i hx;exact .inr ⟨λa b c e=>hx a b c e,h⟩
theorem aiI{x:Option aa}{X Y:Prop}{t:lR X Y}{a:Nat}{b:List AV}{c:TypeId}(h:x=some (.own a b c))(hX:X):jV x X Y t:=by subst h;exact hX
theorem aiL{x:Option aa}{X Y:Prop}{t:lR X Y}(h:∀a b c,x≠some (.own a b c))(hY:Y):jV x X Y t:=by
 unfold jV;split
 ·exact absurd rfl (h _ _ _)
 ·exact hY
theorem qu.ex{H:List aa}{n m sz:Nat}{elem:TypeId}{l l':List AV}{e:End}(h:qu G H k n m sz elem l l' e):∃av H',qu G H (λa h=>a=av/\h=H') n m sz elem l l' e/\k av H':=by
 cases e with
 |exact=>
  rcases PN (t:=⟨0⟩) h with⟨⟨a,b,c,e⟩,h0,h1⟩|⟨e,h1⟩
  ·exact⟨_,_,aiI (t:=⟨0⟩) e ⟨h0,rfl,rfl⟩,h1⟩
  ·exact⟨_,_,aiL (t:=⟨0⟩) e ⟨rfl,rfl⟩,h1⟩
 |shut=>exact⟨_,_,⟨h.1,rfl,rfl⟩,h.2⟩
 |opn i=>exact⟨_,_,⟨h.1,h.2.1,rfl,rfl⟩,h.2.2⟩
theorem tg.ex{H:List aa}{id off n c0 m sz:Nat}{elem:TypeId}{l':List AV}(h:tg H k id off n c0 m sz elem l'):∃av H',tg H (λa h=>a=av/\h=H') id off n c0 m sz elem l'/\k av H':=by
 obtain⟨h1,h2,h3,h4,h5,h6⟩:=h;split at h6
 ·rename_i hk;obtain⟨g1,g2,g3,g4⟩:=h6;refine⟨_,_,⟨h1,h2,h3,h4,h5,?_⟩,g4⟩;rw[hk];exact⟨g1,g2,g3,rfl,rfl⟩
 ·exact h6.elim
end
section
variable {lv:Bool}{P:SJ}{r:Option Nat}{o:Tv}{s:AS}{next:AS->Prop}{bad:AV->AS->Prop}
theorem aci{t e:TypeId}{len sz:Nat}{z:SO}{parts:Array (Nat×Ti)}{lU:List (Nat×AV)}{l:List AV}(ho:o.op=.buildSlice t len parts)(ht:qB P t=some (e,sz,z))(aV:len* sz<=2^24)(hp:jX s parts.toList=some lU)
  (hl:nV (ig.at (.elems sz)) (gG z (len* sz)) lU=some l) (hn:next ((⟨s.T,s.H++[.cells l e]⟩:AS).put o.dst (.bE s.H.length 0 len len))):Step lv P r o s next bad:=by
 intro E V a N Q hc aF hd bw h1 _;unfold qB at ht;split at ht
 ·rename_i e' hu;obtain⟨i,hi,ht⟩:=Tf.1 ht;obtain⟨z',hz,ht⟩:=Tq.1 ht;cases ht;refine⟨bw,?_⟩;unfold execOp;rw[ho];dsimp only;refine az ?_;unfold Instr.buildSlice;refine ec hu ?_;dsimp only;refine jS hi ?_;rw[if_neg (by omega)];obtain⟨hlen,bi⟩:=Eg aF hp;obtain⟨eJ,nk,tY⟩:=Bb (Il (E:=E) z (len* i.size)) hlen bi hl;have fin:∀(rr:Nat),V.fresh rr->aN P (V.upd rr (.cells eJ e)) (pure (W1 (.slice (some ⟨rr,0,none⟩) len len))) (mu lv P r o a N Q) (λv V'=>Q (.panic [{v,recovered:=false}]) a V'):=λrr hf=>by
   have oh:E.Le (E.add rr V.ab):=E.qb rr (λb o v h=>by rw[<- hc.I];exact h);have bh:Conc (E.add rr V.ab) (V.upd rr (.cells eJ e)) (s.H++[.cells l e]):=by
    refine hc.add hf _ ⟨⟨_,?_,tY.mono oh⟩,λo=> ?_⟩ (λb e=> ?_)
    ·rw[Env.dJ];simp[View.upd]
    ·rw[Env.dJ];exact hf.2 o
    ·simp only[bK,Env.dJ,Tl]at e;exact e.symm
   have oP:ap (E.add rr V.ab) (.bE s.H.length 0 len len) (.slice (some ⟨rr,0,none⟩) len len):=by
    have:=ap.bE (E:=E.add rr V.ab) (id:=s.H.length) (off:=0) (n:=len) (cap:=len) (cap':=len) (by show _<E.n+1;rw[hc.n];omega) ⟨by omega,λ_=>rfl,λh=>absurd h (by omega)⟩;have e:(E.add rr V.ab).blk s.H.length=rr:=(by rw[<- hc.n];exact E.dJ rr _);rwa [e]at this
   exact aq (h1 _ _ (a.put o.dst _) _ ⟨oh,dX _ _ _,put_defers _ _ _,rfl,rfl⟩ (by rw[fe];exact bh) (b8.gN (s:=⟨s.T,s.H++[.cells l e]⟩) (aF.mono oh) hd oP) hn)
  have e2:(λj=>some (j* i.size,i.size))=ig.at (.elems i.size):=rfl;rw[e2];by_cases h0:len* i.size=0
  ·rw[if_pos h0];refine az (aq ?_);rw[h0]at nk⊢;rw[show WH 0=#[]from rfl]at nk⊢;simp only[List.map_toArray,List.map_nil,VH]at nk⊢;rw[nk];unfold newRow;exact az (az (az (ov λrr hf=>cF (aq (aq (aq (fin rr hf)))))))
  ·rw[if_neg h0];refine az (az ?_);unfold typeInfo;refine az (qh (cF ?_));rw[hi];refine aq ?_;rw[hz];refine aq (az (aq ?_));rw[VH,nk];unfold newRow;exact az (az (az (ov λrr hf=>cF (aq (aq (aq (fin rr hf)))))))
 ·cases ht
end
section
variable {lv:Bool}{P:SJ}{r:Option Nat}{o:Tv}{s:AS}{G:List aa}{k:AV->List aa->Prop}
theorem jT.ex(h:jT lv P G s o k):∃av H',jT lv P G s o (λa h=>a=av/\h=H')/\k av H':=by
 unfold jT at h⊢;generalize o.op=op at h⊢;cases op with
 |box t x=>
  obtain⟨a,h1,h⟩:=h.out;obtain⟨l,h2,h⟩:=h.out;exact⟨_,_,d_ h1 (d_ h2 ⟨rfl,rfl⟩),h⟩
 |alloc t=>
  obtain⟨z,h1,h⟩:=h.out;exact⟨_,_,d_ h1 ⟨rfl,rfl⟩,h⟩
 |store t x y=>
  obtain⟨p,h1,hA⟩:=h.out;obtain⟨a,h2,hB⟩:=hA.out;obtain⟨lp,h3,hC⟩:=hB.out;obtain⟨id,off,e1,hD⟩:=AY hC;subst e1;clear h hA hB hC;split at hD
  ·rename_i l el hk;refine⟨_,_,d_ h1 (d_ h2 (d_ h3 ?_)),hD.2.2.2⟩;unfold AV.pz;dsimp only;rw[hk];exact⟨hD.1,hD.2.1,hD.2.2.1,rfl,rfl⟩
  ·rename_i p l el hk;refine⟨_,_,d_ h1 (d_ h2 (d_ h3 ?_)),hD.2.2.2⟩;unfold AV.pz;dsimp only;rw[hk];exact⟨hD.1,hD.2.1,hD.2.2.1,rfl,rfl⟩
  ·exact hD.elim
 |call c=>
  dsimp only at h⊢;generalize c.callee=cl at h⊢;generalize c.args.toList=xs at h⊢;generalize c.argTypes.toList=ts at h⊢;cases cl with
  |builtin b=>
   cases b with
   |append=>
    dsimp only at h⊢;split at h
    ·obtain⟨⟨elem,sz,z⟩,h1,hA⟩:=h.out;obtain⟨a,h2,hB⟩:=hA.out;obtain⟨b,h3,hC⟩:=hB.out;rcases HL hC with⟨id,off,n,c0,e1,hD⟩|⟨n,l,e,e1,hD⟩
     ·obtain⟨⟨m,l'⟩,h4,h5⟩:=hD.out;subst e1;obtain⟨av,H',g1,g2⟩:=h5.ex;refine⟨av,H',d_ h1 (d_ h2 (d_ h3 ?_)),g2⟩;simp only[AV.pA];exact d_ h4 g1
     ·obtain⟨⟨m,l'⟩,h4,h5,h6,h7,h8⟩:=hD.out;subst e1;obtain⟨av,H',g1,g2⟩:=h8.ex;refine⟨av,H',d_ h1 (d_ h2 (d_ h3 ?_)),g2⟩;simp only[AV.pA];exact d_ h4 ⟨h5,h6,h7,g1⟩
    ·exact h.elim
   |_=>exact h.elim
  |value x=>
   obtain⟨f,h1,hA⟩:=h.out;obtain⟨aD,h2,hB⟩:=hA.out;obtain⟨av,H',g1,g2⟩:=hB;exact⟨av,H',d_ h1 (d_ h2 ⟨av,H',g1,rfl,rfl⟩),g2⟩
  |invoke x name=>
   obtain⟨f,h1,hA⟩:=h.out;obtain⟨aD,h2,hB⟩:=hA.out;obtain⟨av,H',g1,g2⟩:=hB;exact⟨av,H',d_ h1 (d_ h2 ⟨av,H',g1,rfl,rfl⟩),g2⟩
 |makeSlice t x y=>
  obtain⟨⟨e,sz,z⟩,h1,hA⟩:=h.out;obtain⟨a,h2,hB⟩:=hA.out;obtain⟨b,h3,hC⟩:=hB.out;obtain⟨j,n,e1,hD⟩:=nR hC;obtain⟨j',n',e2,hE⟩:=nR hD;clear h hA hB hC hD;subst e1 e2;exact⟨_,_,d_ h1 (d_ h2 (d_ h3 ⟨hE.1,hE.2.1,hE.2.2.1,rfl,rfl⟩)),hE.2.2.2⟩
 |buildSlice t len parts=>
  obtain⟨⟨e,sz,z⟩,h1,h2,hA⟩:=h.out;obtain⟨lU,h3,hB⟩:=hA.out;obtain⟨l,h4,hC⟩:=hB.out;exact⟨_,_,d_ h1 ⟨h2,d_ h3 (d_ h4 ⟨rfl,rfl⟩)⟩,hC⟩
 |_=>exact h.elim
theorem jT.step{av:AV}{H':List aa}{bad:AV->AS->Prop}(h:jT lv P G s o (λa h=>a=av/\h=H')):Step lv P r o s (λs'=>s'=(⟨s.T,H'⟩:AS).put o.dst av) bad:=by
 unfold jT at h;split at h
 ·rename_i t x ho;obtain⟨a,h1,h⟩:=h.out;obtain⟨l,h2,h⟩:=h.out;obtain⟨e1,e2⟩:=h;exact ach ho h1 h2 (by rw[e1,e2])
 ·rename_i t ho;obtain⟨z,h1,h⟩:=h.out;obtain⟨e1,e2⟩:=h;exact ace ho h1 (by rw[e1,e2])
 ·rename_i t x y ho;obtain⟨p,h1,hA⟩:=h.out;obtain⟨a,h2,hB⟩:=hA.out;obtain⟨lp,h3,hC⟩:=hB.out;obtain⟨id,off,e1,hD⟩:=AY hC;clear h hA hB hC;subst e1;split at hD
  ·rename_i l el hk;obtain⟨q1,q2,q3,q4,Mt⟩:=hD;obtain⟨⟨n,g⟩,q5,q6⟩:=q1.out;exact acm ho q5 h1 hk h2 h3 q6 q2 q3 (by rw[q4,Mt])
  ·rename_i p l el hk;obtain⟨q1,q2,q3,q4,Mt⟩:=hD;obtain⟨⟨n,g⟩,q5,q6⟩:=q1.out;exact acn ho q5 h1 hk h2 h3 q6 q2 q3 (by rw[q4,Mt])
  ·exact hD.elim
 ·rename_i c ho;split at h
  ·rename_i aX;split at h
   ·rename_i x y t t' ha ht;obtain⟨⟨elem,sz,z⟩,h1,hA⟩:=h.out;obtain⟨a,h2,hB⟩:=hA.out;obtain⟨b,h3,hC⟩:=hB.out;rcases HL hC with⟨id,off,n,c0,e1,hD⟩|⟨n,l,e,e1,hD⟩
    ·clear h hA hB hC;subst e1;obtain⟨⟨m,l'⟩,h4,rfl,g2,g3,g4,g5,hE⟩:=hD.out;split at hE
     ·rename_i hk;obtain⟨rfl,rfl,g6,g7,g8⟩:=hE;exact acf ho aX (mX ha) (rK ht) h1 h2 g2 hk rfl h3 h4 g6 g3 g4 g5 (by rw[g7,g8])
     ·exact hE.elim
    ·clear h hA hB hC;subst e1;obtain⟨⟨m,l'⟩,h4,h5,h6,h7,h8⟩:=hD.out;cases e with
     |exact=>
      rcases PN (t:=⟨0⟩) h8 with⟨_,h0,e1,e2⟩|⟨_,e1,e2⟩
      ·exact acg ho aX (mX ha) (rK ht) h1 h2 h3 h4 h5 h6 h7 h0 (by rw[e1,e2])
      ·exact step_append ho aX (mX ha) (rK ht) h1 h2 h3 h4 h5 h6 h7 (by show (_:AS)=_;rw[<- e1,<- e2])
     |shut=>
      obtain⟨e0,e1,e2⟩:=h8;exact step_append ho aX (mX ha) (rK ht) h1 h2 h3 h4 h5 h6 h7 ⟨e0,by rw[<- e1,<- e2]⟩
     |opn i=>
      obtain⟨e0,e0',e1,e2⟩:=h8;exact step_append ho aX (mX ha) (rK ht) h1 h2 h3 h4 h5 h6 h7 ⟨e0,e0',by rw[<- e1,<- e2]⟩
   ·exact h.elim
  ·rename_i x aX;obtain⟨f,h1,hA⟩:=h.out;obtain⟨aD,h2,hB⟩:=hA.out;obtain⟨a0,H0,g1,g2,g3⟩:=hB;subst g2 g3;exact MP ho aX h1 h2 (g1.mono (λa H h=>by rw[h.1,h.2]) λ_ _ h=>h.elim)
  ·rename_i x name aX;obtain⟨f,h1,hA⟩:=h.out;obtain⟨aD,h2,hB⟩:=hA.out;obtain⟨a0,H0,g1,g2,g3⟩:=hB;subst g2 g3;exact acj ho aX h1 h2 (λE V cv vs hc hd oQ=>(g1 E V cv vs hc hd oQ).mono (λ_ _ x=>Nx.mono (λ_ _ y=>y.mono (λa H h=>by rw[h.1,h.2]) λ_ _ h=>h.elim) x) λ_ _ y=>y.mono (λa H h=>by rw[h.1,h.2]) λ_ _ h=>h.elim)
  ·exact h.elim
 ·rename_i t x y ho;obtain⟨⟨e,sz,z⟩,h1,hA⟩:=h.out;obtain⟨a,h2,hB⟩:=hA.out;obtain⟨b,h3,hC⟩:=hB.out;obtain⟨j,n,e1,hD⟩:=nR hC;obtain⟨j',n',e2,hE⟩:=nR hD;clear h hA hB hC hD;subst e1 e2;obtain⟨e3,h4,h5,h6,h7⟩:=hE;subst e3;obtain⟨m,rfl⟩:∃m:Nat,n'=m:=⟨n'.toNat,by omega⟩;exact ack ho h1 h2 h3 (by omega) (by rw[Vx]at h6 h7;rw[h6,h7])
 ·rename_i t len parts ho;obtain⟨⟨e,sz,z⟩,h1,h2,hA⟩:=h.out;obtain⟨lU,h3,hB⟩:=hA.out;obtain⟨l,h4,h5,h6⟩:=hB.out;exact aci ho h1 h2 h3 h4 (by rw[h5,h6])
 ·exact h.elim
theorem jT.congr{T T':List (Nat×AV)}{H:List aa}(h:∀x∈o.op.operands,AS.ev ⟨T,H⟩ x=AS.ev ⟨T',H⟩ x)(ha:jT lv P G ⟨T,H⟩ o k):jT lv P G ⟨T',H⟩ o k:=by
 unfold jT at ha⊢;generalize o.op=op at h ha⊢;cases op with
 |box t x=>dsimp only at ha⊢;rw[<- h x (by simp[Tt])];exact ha
 |alloc t=>exact ha
 |store t x y=>dsimp only at ha⊢;rw[<- h x (by simp[Tt]),<- h y (by simp[Tt])];exact ha
 |call c=>
  have cK:∀x∈c.args.toList,AS.ev ⟨T,H⟩ x=AS.ev ⟨T',H⟩ x:=λx hx=>h x (by simp[Tt,VL];exact .inr (by simpa using hx));dsimp only at ha⊢;split at ha
  ·split at ha
   ·rename_i x y t t' hx ht;rw[hx]at cK;rw[<- cK x (by simp),<- cK y (by simp)];exact ha
   ·exact ha.elim
  ·rename_i x aX;rw[<- h x (by simp[Tt,VL,aX]),<- Ba _ cK];exact ha
  ·rename_i x name aX;rw[<- h x (by simp[Tt,VL,aX]),<- Ba _ cK];exact ha
  ·exact ha.elim
 |makeSlice t x y=>dsimp only at ha⊢;rw[<- h x (by simp[Tt]),<- h y (by simp[Tt])];exact ha
 |buildSlice t len parts=>
  have e:jX ⟨T',H⟩ parts.toList=jX ⟨T,H⟩ parts.toList:=by
   have hp:∀p∈parts.toList,AS.ev ⟨T,H⟩ p.2=AS.ev ⟨T',H⟩ p.2:=λp hp=>h p.2 (by simp[Tt];exact⟨p.1,by simpa using hp⟩);clear ha;generalize parts.toList=l at hp;induction l with
   |nil=>rfl
   |cons p l ih=>simp only[jX,hp p TC,ih λq hq=>hp q (Tb _ hq)]
  dsimp only at ha⊢;rw[e];exact ha
 |_=>exact ha.elim
end
def nc (acc:List (Nat×List Nat))(j:Nat):List Nat:=((acc.find? (·.1==j)).map (·.2)).getD []
def gA (ops:Array Tv):List Nat->List (Nat×List Nat)->List (Nat×List Nat)
 |[],acc=>acc
 |i::l,acc=>match ops[i]?with
  |some o=>gA ops l ((i,(cO o++(cO o).flatMap (nc acc)).eraseDups)::acc)
  |none=>gA ops l acc
def te:List Nat->List (List Nat)
 |[]=>[[]]
 |x::l=>te l++(te l).map (x::·)
def v5 (cl:List (Nat×List Nat))(es:List Nat)(i:Nat)(D:List Nat):Bool:=
 !D.contains i&&es.all λe=>(!(nc cl i).contains e||D.contains e)&&(!D.contains e||(!(nc cl e).contains i&&es.all λe'=> !(nc cl e).contains e'||D.contains e'))
def sU (es:List Nat)(i:Nat)(D:List Nat):List Nat:=es.filter λe=>e==i||D.contains e
structure qy where
 i:Nat
 eff:Bool
 aft:List Nat
 L3:List (List Nat×List Nat)
 deriving DecidableEq
def entry (cl:List (Nat×List Nat))(es X:List Nat)(i:Nat):qy:=
 let cur:=es.filter λe=>X.contains e
 ⟨i,es.contains i,sU es i cur,((te es).filter λD=>v5 cl es i D&&D !=cur).map λD=>(D,sU es i D)⟩
def qf (cl:List (Nat×List Nat))(es:List Nat):List Nat->List Nat->List qy
 |_,[]=>[]
 |X,i::B=>entry cl es X i::qf cl es (i::X) B
def abg (ops:Array Tv)(es ord:List Nat):List qy:=qf (gA ops ord []) es [] ord
def j_ (ops:Array Tv):List Nat->List Nat->Bool
 |_,[]=>true
 |X,i::B=> !X.contains i&&(match ops[i]?with
  |some o=>(cO o).all X.contains
  |none=>false)&&j_ ops (i::X) B
def qI (nt:Nat)(ops:Array Tv)(es ord:List Nat):Bool:=
 let cl:=gA ops ord [];decide (ord.length=ops.size)&&j_ ops [] ord&&ord.all λi=>match ops[i]?with
  |some o=>o.dst.all (·<nt)&& !l_ o.op&&o.guard.isNone&&
   (ord.all λj=>i==j||match o.dst,cV ops j with
    |some d,some d'=>d !=d'
    |_,_=>true)&&
   (o.op.operands.toList.all λx=>match x with
    |.tmp t=>ord.all λj=>cV ops j !=some t||(cO o).contains j||(nc cl j).contains i
    |_=>true)
  |none=>false
theorem PP{acc:List (Nat×List Nat)}{j k:Nat}(h:k∈nc acc j):∃l,(j,l)∈acc/\k∈l:=by
 unfold nc at h;cases e:acc.find? (·.1==j)with
 |none=>rw[e]at h;simp at h
 |some x=>
  rw[e]at h;obtain⟨j',l⟩:=x;have h1:=List.mem_of_find?_eq_some e;have h2:=List.find?_some e;simp only[beq_iff_eq]at h2;subst h2;exact⟨l,h1,by simpa using h⟩
theorem H9{ops:Array Tv}:∀(ord:List Nat)(acc:List (Nat×List Nat)),(∀i l,(i,l)∈acc->∀j∈l,Reach ops i j)->∀i l,(i,l)∈gA ops ord acc->∀j∈l,Reach ops i j
 |[],acc,h=>h
 |x::ord,acc,h=>by
  unfold gA;split
  ·rename_i o ho;refine H9 ord _ λi l hm j hj=> ?_;rcases SL.1 hm with e|hm
   ·cases e;rw[Y5,SS]at hj;rcases hj with hj|hj
    ·exact .Ix ho hj
    ·obtain⟨k,hk,hj⟩:=S7.1 hj;obtain⟨l',h1,h2⟩:=PP hj;exact .more ho hk (h _ _ h1 _ h2)
   ·exact h i l hm j hj
  ·exact H9 ord acc h
theorem yB{ops:Array Tv}{ord:List Nat}{i j:Nat}(h:j∈nc (gA ops ord []) i):Reach ops i j:=by
 obtain⟨l,h1,h2⟩:=PP h;exact H9 ord [] (by simp) i l h1 j h2
theorem Ej(p:Nat->Bool):∀l:List Nat,l.filter p∈te l
 |[]=>by simp[te]
 |x::l=>by
  unfold te;rw[SS];by_cases h:p x=true
  ·rw[Ys h];exact .inr (Tm.2 ⟨_,Ej p l,rfl⟩)
  ·rw[Yt h];exact .inl (Ej p l)
structure yg (nt:Nat)(ops:Array Tv)(ord:List Nat):Prop where
 full:∀i,i<ops.size->i∈ord
 lt:∀i∈ord,i<ops.size
 top:j_ ops [] ord=true
 dst:∀(i:Nat) o d,ops[i]?=some o->o.dst=some d->d<nt
 ve:∀(i:Nat) o,ops[i]?=some o->l_ o.op=false
 Bn:∀(i:Nat) o,ops[i]?=some o->o.guard=none
 Ah:∀(i j d:Nat),cV ops i=some d->cV ops j=some d->i=j
 L2:∀(i:Nat) o t j,ops[i]?=some o-> .tmp t∈o.op.operands->cV ops j=some t->j∈cO o\/Reach ops j i
theorem C_{ops:Array Tv}:∀{ord X:List Nat},j_ ops X ord=true->ord.Nodup/\(∀i∈ord,i∉X)/\∀i∈ord,i<ops.size
 |[],_,_=>⟨WJ,by simp,by simp⟩
 |i::B,X,h=>by
  simp only[j_,Tc,TV,Up,decide_eq_false_iff_not]at h;obtain⟨⟨h1,h2⟩,h3⟩:=h;obtain⟨q1,q2,q3⟩:=C_ h3;refine⟨VO.2 ⟨λhm=>q2 i hm (TC ..),q1⟩,λj hj=> ?_,λj hj=> ?_⟩
  ·rcases SL.1 hj with rfl|hj
   ·exact h1
   ·exactλhx=>q2 j hj (Tb _ hx)
  ·rcases SL.1 hj with rfl|hj
   ·apply Tu;intro hn;rw[Yy (by omega)]at h2;cases h2
   ·exact q3 j hj
theorem qI.out{nt:Nat}{ops:Array Tv}{es ord:List Nat}(h:qI nt ops es ord=true):yg nt ops ord:=by
 unfold qI at h;simp only[Tc,decide_eq_true_eq]at h;obtain⟨⟨hlen,nB⟩,h⟩:=h;obtain⟨vN,_,hlt⟩:=C_ nB;have za:∀i,i<ops.size->i∈ord:=λi hi=>by
  apply Tu;intro hn;have lG:(i::ord)⊆S0 ops.size:=λj hj=>by
   rcases SL.1 hj with rfl|hj
   ·simpa using hi
   ·simpa using hlt j hj
  have:=(VO.2 ⟨hn,vN⟩).length_le_of_subset lG;simp at this;omega
 have key:∀(i:Nat) o,ops[i]?=some o->o.dst.all (·<nt)=true/\l_ o.op=false/\o.guard.isNone=true/\(∀j∈ord,(i==j||match o.dst,cV ops j with
    |some d,some d'=>d !=d'
    |_,_=>true)=true)/\(∀x∈o.op.operands.toList,(match x with
    |.tmp t=>ord.all λj=>cV ops j !=some t||(cO o).contains j||(nc (gA ops ord []) j).contains i
    |_=>true)=true):=λi o ho=>by
  have hi:i<ops.size:=(SR.1 ho).1;have:=Tw.1 h i (za i hi);rw[ho]at this;simp only[Tc,Tw,TV]at this;exact⟨this.1.1.1.1,this.1.1.1.2,this.1.1.2,this.1.2,this.2⟩
 have QA:∀j d,cV ops j=some d->j<ops.size:=λj d e=>by
  apply Tu;intro hn;rw[cV,Yy (by omega)]at e;cases e
 refine⟨za,hlt,nB,λi o d ho hd=> ?_,λi o ho=>(key i o ho).2.1,λi o ho=>by simpa using(key i o ho).2.2.1,λi j d hi hj=> ?_,λi o t j ho ht hj=> ?_⟩
 ·have:=(key i o ho).1;rw[hd]at this;simpa using this
 ·apply Tu;intro aG;obtain⟨o,ho,sB⟩:=Tf.1 hi;have:=(key i o ho).2.2.2.1 j (za j (QA j d hj));rw[sB,hj]at this;simp[aG]at this
 ·have:=(key i o ho).2.2.2.2 (.tmp t) (by simpa using ht);simp only[Tw]at this;have:=this j (za j (QA j t hj));rw[hj]at this;simp only[bne_self_eq_false,XR,X2,Up,decide_eq_true_eq]at this;exact this.imp id yB
section
variable (lv:Bool)(P:SJ)(Hf:List Nat->List aa)
def BQ (T:List (Nat×AV))(o:Tv)(av:AV):List (List Nat×List Nat)->Prop
 |[]=>True
 |(D,_)::l=>(AQ lv P ⟨T,Hf D⟩ o λa=>a=av)/\BQ T o av l
def BE (T:List (Nat×AV))(o:Tv)(av:AV):List (List Nat×List Nat)->Prop
 |[]=>True
 |(D,D')::l=>(jT lv P (Hf D') ⟨T,Hf D⟩ o λa H'=>a=av/\H'=Hf D')/\BE T o av l
structure Aw (K:AS->Prop):Type where
 n:Nat
def fU (ops:Array Tv):List qy->AS->(K:AS->Prop)->Aw K->Prop
 |[],s,K,_=>K s
 |⟨i,false,_,l⟩::rest,s,K,t=>ao (ops[i]?) λo=>AQ lv P s o λav=>BQ lv P Hf s.T o av l/\fU ops rest (s.put o.dst av) K t
 |⟨i,true,D,l⟩::rest,s,K,t=>ao (ops[i]?) λo=>jT lv P (Hf D) s o λav H'=>H'=Hf D/\BE lv P Hf s.T o av l/\fU ops rest ((⟨s.T,H'⟩:AS).put o.dst av) K t
end
def TX (ops:Array Tv)(T0:List (Nat×AV))(f:Nat->AV):List Nat->List (Nat×AV)
 |[]=>T0
 |i::X=>match cV ops i with
  |some d=>(d,f i)::TX ops T0 f X
  |none=>TX ops T0 f X
section
variable {ops:Array Tv}{T0:List (Nat×AV)}{f g:Nat->AV}
theorem AF:∀{X:List Nat},(∀j∈X,f j=g j)->TX ops T0 f X=TX ops T0 g X
 |[],_=>rfl
 |i::X,h=>by
  simp only[TX,AF (X:=X) λj hj=>h j (Tb _ hj),h i (TC ..)]
theorem AG(RV:∀(i j d:Nat),cV ops i=some d->cV ops j=some d->i=j):∀{X:List Nat}{j t:Nat},j∈X->cV ops j=some t->look (TX ops T0 f X) t=some (f j)
 |i::X,j,t,hj,ht=>by
  by_cases j6:i=j
  ·subst j6;simp[TX,ht,look]
  ·have ii:j∈X:=(SL.1 hj).resolve_left (Ne.symm j6);have ih:=AG RV (X:=X) ii ht;unfold TX;split
   ·rename_i d hd;have:d≠t:=λe=>j6 (RV i j d hd (by rw[e];exact ht));simp only[look,if_neg this];exact ih
   ·exact ih
theorem wF:∀{X:List Nat}{t:Nat},(∀j∈X,cV ops j≠some t)->look (TX ops T0 f X) t=look T0 t
 |[],_,_=>rfl
 |i::X,t,h=>by
  have ih:=wF (X:=X) (t:=t) λj hj=>h j (Tb _ hj);unfold TX;split
  ·rename_i d hd;have:d≠t:=λe=>h i (TC ..) (by rw[hd,e]);simp only[look,if_neg this];exact ih
  ·exact ih
theorem wG{H:List aa}{X:List Nat}{i:Nat}{o:Tv}{av:AV}(ho:ops[i]?=some o)(hf:f i=av):(⟨TX ops T0 f X,H⟩:AS).put o.dst av=⟨TX ops T0 f (i::X),H⟩:=by
 have hd:cV ops i=o.dst:=by simp[cV,ho]
 have e:TX ops T0 f (i::X)=match cV ops i with
  |some d=>(d,f i)::TX ops T0 f X
  |none=>TX ops T0 f X:=rfl
 rw[e,hd];cases o.dst with
 |none=>rfl
 |some d=>simp[AS.put,hf]
def kH (ops:Array Tv)(X:List Nat):Prop:=∀i∈X,∀o,ops[i]?=some o->∀j∈cO o,j∈X
theorem kH.reach{X:List Nat}(hX:kH ops X){i j:Nat}(hi:i∈X)(h:Reach ops i j):j∈X:=zX hX h λo ho k hk=>hX i hi o ho k hk
theorem kH.cons{X:List Nat}(hX:kH ops X){i:Nat}{o:Tv}(ho:ops[i]?=some o)(hd:∀j∈cO o,j∈X):kH ops (i::X):=λk hk o' ba j hj=>by
 rcases SL.1 hk with rfl|hk
 ·rw[ho]at ba;cases ba;exact Tb _ (hd j hj)
 ·exact Tb _ (hX k hk o' ba j hj)
theorem adn{nt:Nat}{ord:List Nat}(ay:yg nt ops ord){X X':List Nat}{i:Nat}{o:Tv}(ho:ops[i]?=some o)(hX:kH ops X)(n4:kH ops X')(hi:i∉X)(cx:i∉X')(hd:∀j∈cO o,j∈X)(cw:∀j∈cO o,j∈X'){t:Nat}(ht: .tmp t∈o.op.operands):
  look (TX ops T0 f X) t=look (TX ops T0 f X') t:=by
 by_cases hex:∃j,cV ops j=some t
 ·obtain⟨j,hj⟩:=hex;rcases ay.L2 i o t j ho ht hj with h|h
  ·rw[AG ay.Ah (hd j h) hj,AG ay.Ah (cw j h) hj]
  ·rw[wF λj' ii e=>hi (hX.reach (ay.Ah j j' t hj e▸ii) h),wF λj' ii e=>cx (n4.reach (ay.Ah j j' t hj e▸ii) h)]
 ·rw[wF λj _ e=>hex ⟨j,e⟩,wF λj _ e=>hex ⟨j,e⟩]
end
section
variable {lv:Bool}{P:SJ}{r:Option Nat}{ops:Array Tv}{Hf:List Nat->List aa}{T0:List (Nat×AV)}{es ord:List Nat}{nt:Nat}
def done (es X:List Nat):List Nat:=es.filter λe=>X.contains e
theorem Ed{X:List Nat}{i:Nat}:sU es i (done es X)=done es (i::X):=by
 unfold sU done;apply Vg;intro e he;by_cases h:e=i
 ·subst h;simp
 ·simp[Un,he,h]
theorem Iq{X:List Nat}{i:Nat}(hi:i∉es):done es (i::X)=done es X:=by
 unfold done;apply Vg;intro e he;have:e≠i:=λh=>hi (h▸he);simp[this]
theorem Ir{X:List Nat}(hX:kH ops X){i:Nat}{o:Tv}(ho:ops[i]?=some o)(hi:i∉X)(hd:∀j∈cO o,j∈X):v5 (gA ops ord []) es i (done es X)=true:=by
 have cN:∀e,e∈es->(e∈done es X<->e∈X):=λe he=>by simp[done,Un,he]
 have hX2:=hX.cons ho hd;unfold v5;simp only[Tc,TV,Up,decide_eq_false_iff_not,Tw,X2,decide_eq_true_eq];refine⟨λh=>hi (by simpa[done]using(Un.1 h).2),λe he=>⟨?_,?_⟩⟩
 ·by_cases h:e∈nc (gA ops ord []) i
  ·right;rw[cN e he];exact zX hX (yB h) λo' ba k hk=>by rw[ho]at ba;cases ba;exact hd k hk
  ·exact .inl h
 ·by_cases h:e∈X
  ·right;refine⟨λhm=>hi (hX.reach h (yB hm)),λe' j4=> ?_⟩;by_cases hm:e'∈nc (gA ops ord []) e
   ·right;rw[cN e' j4];exact hX.reach h (yB hm)
   ·exact .inl hm
  ·left;rw[cN e he];exact h
def OB (lv:Bool)(P:SJ)(r:Option Nat)(ops:Array Tv)(Hf:List Nat->List aa)(T0:List (Nat×AV))(es:List Nat)(f:Nat->AV)(i:Nat)(o:Tv)(X:List Nat):Prop:=
 if i∈es then jT lv P (Hf (done es (i::X))) ⟨TX ops T0 f X,Hf (done es X)⟩ o (λa H'=>a=f i/\H'=Hf (done es (i::X)))
 else∃T,(∀t a,look T t=some a->look (TX ops T0 f X) t=some a)/\dz lv P r o ⟨T,Hf (done es X)⟩ (f i)
theorem BQ.mem{T:List (Nat×AV)}{o:Tv}{av:AV}:∀{l:List (List Nat×List Nat)},BQ lv P Hf T o av l->∀p∈l,AQ lv P ⟨T,Hf p.1⟩ o λa=>a=av
 |(D,D')::l,h,p,hp=>by
  rcases SL.1 hp with rfl|hp
  ·exact h.1
  ·exact BQ.mem h.2 p hp
theorem BE.mem{T:List (Nat×AV)}{o:Tv}{av:AV}:∀{l:List (List Nat×List Nat)},BE lv P Hf T o av l->∀p∈l,jT lv P (Hf p.2) ⟨T,Hf p.1⟩ o λa H'=>a=av/\H'=Hf p.2
 |(D,D')::l,h,p,hp=>by
  rcases SL.1 hp with rfl|hp
  ·exact h.1
  ·exact BE.mem h.2 p hp
def canon (T:List (Nat×AV)):List Ti->List (Nat×AV)
 |[]=>[]
 |.tmp t::l=>match look T t with
  |some a=>(t,a)::canon T l
  |none=>canon T l
 |_::l=>canon T l
theorem H7{T:List (Nat×AV)}:∀{l:List Ti}{t:Nat}{a:AV},look (canon T l) t=some a->look T t=some a
 |[],_,_,h=>by cases h
 |x::l,t,a,h=>by
  have ih:=@H7 T l t a;cases x with
  |tmp t'=>
   simp only[canon]at h;split at h
   ·rename_i b hb;simp only[look]at h;split at h
    ·rename_i e;subst e;cases h;exact hb
    ·exact ih h
   ·exact ih h
  |_=>exact ih h
theorem Ol{T:List (Nat×AV)}:∀{l:List Ti}{t:Nat},.tmp t∈l->look (canon T l) t=look T t
 |x::l,t,h=>by
  by_cases hx:x=.tmp t
  ·subst hx;simp only[canon];split
   ·rename_i b hb;simp[look,hb]
   ·rename_i hb;rw[hb];cases e:look (canon T l) t with
    |none=>rfl
    |some a=>have:=H7 e;rw[hb]at this;cases this
  ·have hm: .tmp t∈l:=(SL.1 h).resolve_left (Ne.symm hx);have ih:=Ol (T:=T) hm;cases x with
   |tmp t'=>
    have aG:t'≠t:=λe=>hx (by rw[e]);simp only[canon];split
    ·simp only[look,if_neg aG];exact ih
    ·exact ih
   |_=>exact ih
theorem Oj{T:List (Nat×AV)}:∀{l:List Ti}{t:Nat}{a:AV},look (canon T l) t=some a-> .tmp t∈l
 |[],_,_,h=>by cases h
 |x::l,t,a,h=>by
  have ih:=@Oj T l t a;cases x with
  |tmp t'=>
   simp only[canon]at h;split at h
   ·simp only[look]at h;split at h
    ·rename_i e;subst e;exact TC ..
    ·exact Tb _ (ih h)
   ·exact Tb _ (ih h)
  |_=>exact Tb _ (ih h)
theorem Oi{T:List (Nat×AV)}{H:List aa}{l:List Ti}{x:Ti}(h:x∈l):AS.ev ⟨T,H⟩ x=AS.ev ⟨canon T l,H⟩ x:=by
 cases x with
 |tmp t=>exact(Ol h).symm
 |_=>rfl
theorem A3(ay:yg nt ops ord){K:AS->Prop}{tk:Aw K}:∀(B X:List Nat)(acc:Nat->AV),j_ ops X B=true->kH ops X->fU lv P Hf ops (qf (gA ops ord []) es X B) ⟨TX ops T0 acc X,Hf (done es X)⟩ K tk->
  ∃f,(∀j∈X,f j=acc j)/\(∀i∈B,∀o,ops[i]?=some o->∀X',kH ops X'->i∉X'->(∀j∈cO o,j∈X')->OB lv P r ops Hf T0 es f i o X')/\K ⟨TX ops T0 f (B.reverse++X),Hf (done es (B.reverse++X))⟩
 |[],X,acc,_,_,h=>⟨acc,λ_ _=>rfl,by simp,by simpa[qf,fU]using h⟩
 |i::B,X,acc,nB,hX,h=>by
  have asS:=nB;simp only[j_,Tc,TV,Up,decide_eq_false_iff_not]at nB;obtain⟨⟨hi,h2⟩,h3⟩:=nB;cases ho:ops[i]?with
  |none=>rw[ho]at h2;cases h2
  |some o=>
  rw[ho]at h2;have hd:∀j∈cO o,j∈X:=λj hj=>by have:=Tw.1 h2 j hj;simpa using this
  have n4:=hX.cons ho hd;have asD:v5 (gA ops ord []) es i (done es X)=true:=Ir hX ho hi hd;have L3:∀D,D∈te es->v5 (gA ops ord []) es i D=true->D≠done es X->(D,sU es i D)∈((te es).filter λD=>v5 (gA ops ord []) es i D&&D !=done es X).map λD=>(D,sU es i D):=λD h1 h2 h3=>Tm.2 ⟨D,Un.2 ⟨h1,by simp[h2,h3]⟩,rfl⟩;have NB:∀av:AV,TX ops T0 acc X=TX ops T0 (λj=>if j=i then av else acc j) X:=λav=>AF λj hj=>by
   have:j≠i:=λe=>hi (e▸hj);simp[this]
  have seen:∀(f:Nat->AV) X',(∀j∈X,f j=acc j)->kH ops X'->i∉X'->(∀j∈cO o,j∈X')->∀(H:List aa),∀x∈o.op.operands,AS.ev ⟨TX ops T0 acc X,H⟩ x=AS.ev ⟨TX ops T0 f X',H⟩ x:=λf X' hf hc hn cw H x hx=>by
   cases x with
   |tmp t=>
    show look _ t=look _ t;rw[<- AF (f:=f) (g:=acc) hf];exact adn ay ho hX hc hi hn hd cw hx
   |_=>rfl
  unfold qf at h;by_cases du:i∈es
  ·have JK:entry (gA ops ord []) es X i=⟨i,true,sU es i (done es X),((te es).filter λD=>v5 (gA ops ord []) es i D&&D !=done es X).map λD=>(D,sU es i D)⟩:=by
    unfold entry done;simp[du]
   rw[JK,fU,ho,ao]at h;obtain⟨av,H',g1,e1,g2,g3⟩:=h.ex;subst e1;rw[Ed]at g1 g3;rw[NB av,wG ho (by simp)]at g3;obtain⟨f,q1,q2,q3⟩:=A3 ay B (i::X) _ h3 n4 g3;have JM:f i=av:=(by have:=q1 i (TC ..);simpa using this);have BR:∀j∈X,f j=acc j:=λj hj=>by
    have:=q1 j (Tb _ hj);have aG:j≠i:=λe=>hi (e▸hj);simpa[aG]using this
   refine⟨f,BR,λk hk o' ba X' hc hn cw=> ?_,by simpa using q3⟩;rcases SL.1 hk with rfl|hk
   ·rw[ho]at ba;cases ba;unfold OB;rw[if_pos du,JM];refine jT.congr (T:=TX ops T0 acc X) (seen f X' BR hc hn cw _) ?_;by_cases hD:done es X'=done es X
    ·rw[<- Ed,hD,Ed];exact g1
    ·have:=g2.mem _ (L3 _ (Ej _ es) (Ir hc ho hn cw) hD);rw[<- Ed];exact this
   ·exact q2 k hk o' ba X' hc hn cw
  ·have JK:entry (gA ops ord []) es X i=⟨i,false,sU es i (done es X),((te es).filter λD=>v5 (gA ops ord []) es i D&&D !=done es X).map λD=>(D,sU es i D)⟩:=by
    unfold entry done;simp[du]
   rw[JK,fU,ho,ao]at h;have h':=AQ.congr (T':=canon (TX ops T0 acc X) o.op.operands.toList) (λx hx=>Oi (by simpa using hx)) h;obtain⟨av,g1,g2,g3⟩:=h'.sound (r:=r);rw[NB av,wG ho (by simp),<- Iq (X:=X) du]at g3;obtain⟨f,q1,q2,q3⟩:=A3 ay B (i::X) _ h3 n4 g3;have JM:f i=av:=(by have:=q1 i (TC ..);simpa using this);have BR:∀j∈X,f j=acc j:=λj hj=>by
    have:=q1 j (Tb _ hj);have aG:j≠i:=λe=>hi (e▸hj);simpa[aG]using this
   refine⟨f,BR,λk hk o' ba X' hc hn cw=> ?_,by simpa using q3⟩;rcases SL.1 hk with rfl|hk
   ·rw[ho]at ba;cases ba;unfold OB;rw[if_neg du,JM];refine⟨canon (TX ops T0 acc X) o.op.operands.toList,λt a e=> ?_,?_⟩
    ·have h1:=seen f X' BR hc hn cw [] (.tmp t) (by simpa using Oj e);have h2:look (TX ops T0 acc X) t=look (TX ops T0 f X') t:=h1;rw[<- h2];exact H7 e
    ·by_cases hD:done es X'=done es X
     ·rw[hD];exact g1
     ·have h1:=g2.mem _ (L3 _ (Ej _ es) (Ir hc ho hn cw) hD);have h2:=AQ.congr (T':=canon (TX ops T0 acc X) o.op.operands.toList) (λx hx=>Oi (by simpa using hx)) h1;obtain⟨my,h3,rfl⟩:=h2.sound (r:=r);exact h3
   ·exact q2 k hk o' ba X' hc hn cw
theorem DL{f:Nat->AV}(ay:yg nt ops ord){X X':List Nat}(h:∀i,i∈X<->i∈X')(t:Nat):look (TX ops T0 f X) t=look (TX ops T0 f X') t:=by
 by_cases hex:∃j∈X,cV ops j=some t
 ·obtain⟨j,hj,hd⟩:=hex;rw[AG ay.Ah hj hd,AG ay.Ah ((h j).1 hj) hd]
 ·rw[wF λj hj e=>hex ⟨j,hj,e⟩,wF λj hj e=>hex ⟨j,(h j).2 hj,e⟩]
theorem Ee{X X':List Nat}(h:∀i,i∈X<->i∈X'):done es X=done es X':=by
 unfold done;apply Vg;intro e _;have:=h e;by_cases h1:e∈X
 ·have h2:=this.1 h1;simp[h1,h2]
 ·have h2:e∉X':=λx=>h1 (this.2 x);simp[h1,h2]
theorem agl{f:Nat->AV}(ay:yg nt ops ord)(au:∀i∈ord,∀o,ops[i]?=some o->∀X',kH ops X'->i∉X'->(∀j∈cO o,j∈X')->OB lv P r ops Hf T0 es f i o X'){X l:List Nat}(hs:lS ops X l):
  (∀i∈X,i<ops.size)->kH ops X->∀(E:Env)(V:View)(a:Act)(Q:Ex->Act->View->Prop),At E V ⟨TX ops T0 f X,Hf (done es X)⟩ a nt->
   (∀E' V' a' X',Kept E E' V V' a a'->At E' V' ⟨TX ops T0 f X',Hf (done es X')⟩ a' nt->(∀i,i∈X'<->i<ops.size)->Q .normal a' V')->dh lv P r ops Q l a V:=by
 induction hs with
 |nil X h=>
  intro hX hc E V a Q ah hQ;exact hQ E V a X (Kept.refl E V a) ah λi=>⟨hX i,h i⟩
 |cons o ho hn hd lD ih=>
  rename_i X i l;intro hX hc E V a Q ah hQ;have hi:i<ops.size:=(SR.1 ho).1;simp only[dh,ho];have n4:∀k∈i::X,k<ops.size:=λk hk=>(SL.1 hk).elim (λe=>by rw[e];exact hi) (hX k);have bh:=hc.cons ho hd;have hw:Th o (yielded ops a.tmps)=true:=by unfold Th;rw[ay.Bn i o ho]
  rw[if_pos hw];refine .inl ?_;have dj:∀d,o.dst=some d->d<a.tmps.size:=λd e=>by rw[ah.size];exact ay.dst i o d ho e
  have lC:=au i (ay.full i hi) o ho X hc hn hd;unfold OB at lC;by_cases du:i∈es
  ·rw[if_pos du]at lC;have aP:=lC.step (r:=r) (bad:=λ_ _=>False);refine aP E V a _ Q ah.bm ah.tok dj (.inr (ay.ve i o ho)) (λE' V' a' s' hk cM ht e=> ?_) λ_ _ _ _ _ _ _ _ _ h=>h.elim;subst e;rw[wG ho rfl]at ht cM;exact ih n4 bh E' V' a' Q ⟨cM,ht,hk.size.trans ah.size⟩ λbO aR b9 mv aI dc fy=>hQ bO aR b9 mv (hk.trans aI) dc fy
  ·rw[if_neg du]at lC;obtain⟨T,hT,hq⟩:=lC;refine hq E V a _ Q ah.bm (λt av e=>ah.tok t av (hT t av e)) (.inr (ay.ve i o ho)) λE' V' v hle bX eT cM hv=> ?_;have ht:b8 E' ((⟨TX ops T0 f X,Hf (done es X)⟩:AS).put o.dst (f i)).T (a.put o.dst v).tmps:=b8.gN (s:=⟨TX ops T0 f X,Hf (done es X)⟩) (ah.tok.mono hle) dj hv;rw[wG ho rfl]at ht;refine ih n4 bh E' V' (a.put o.dst v) Q ⟨by rw[Iq du];exact cM,ht,(dX _ _ _).trans ah.size⟩ λbO aR b9 mv hk dc fy=>
    hQ bO aR b9 mv ⟨hle.trans hk.le,hk.size.trans (dX _ _ _),hk.defers.trans (put_defers _ _ _),hk.role.trans bX,hk.deaf.trans eT⟩ dc fy
theorem aeP{s:AS}{id:Nat}{Φ:an->AS->Prop}(es ord:List Nat)(pl:List qy)(Hf:List Nat->List aa)(hm:P.follows .mixedOrders=true)(ay:qI nt ops es ord=true)(dl:abg ops es ord=pl)(h0:s.H=Hf [])
  (h:fU lv P Hf ops pl s (Φ .normal) ⟨0⟩):aU lv P r nt (.region id ops true) s Φ:=by
 intro E V a Q ah hQ;have ay:=qI.out ay;obtain⟨vN,_,hlt⟩:=C_ ay.top;have dw:s=⟨TX ops s.T (λ_=> .val undef) [],Hf (done es [])⟩:=by
  have:done es []=[]:=by simp[done]
  rw[this,<- h0];rfl
 subst dl;have h':fU lv P Hf ops (qf (gA ops ord []) es [] ord) ⟨TX ops s.T (λ_=> .val undef) [],Hf (done es [])⟩ (Φ .normal) ⟨0⟩:=by rw[<- dw];exact h
 obtain⟨f,_,q2,q3⟩:=A3 (r:=r) ay ord [] _ ay.top (λi hi=>by cases hi) h';have za:∀i,i∈ord<->i<ops.size:=λi=>⟨hlt i,ay.full i⟩;refine Na λt=> ?_;rw[show VI (P.follows .mixedOrders) ops t=UB .any ops ops.size t (TL ops.size false) [] by unfold VI;rw[hm];simp[Y7]];have binds:∀(A B:List Nat)(X:List Nat),j_ ops X (A++B)=true->True:=λ_ _ _ _=>trivial;have ready:∀(ord X:List Nat),j_ ops X ord=true->∀A i B,ord=A++i::B->∃o,ops[i]?=some o/\∀j∈cO o,j∈A\/j∈X:=by
  intro ord;induction ord with
  |nil=>intro X _ A i B e;cases A<;>cases e
  |cons x l ih=>
   intro X nB A i B e;simp only[j_,Tc,TV,Up,decide_eq_false_iff_not]at nB;obtain⟨⟨h1,h2⟩,h3⟩:=nB;cases A with
   |nil=>
    have e1:x=i:=(by have:=congrArg List.head? e;simpa using this);rw[e1]at h2;cases ho:ops[i]?with
    |none=>rw[ho]at h2;cases h2
    |some o=>
     rw[ho]at h2;exact⟨o,rfl,λj hj=> .inr (by have:=Tw.1 h2 j hj;simpa using this)⟩
   |cons y A=>
    cases e;obtain⟨o,ho,hb⟩:=ih (x::X) h3 A i B rfl;refine⟨o,ho,λj hj=> ?_⟩;rcases hb j hj with h|h
    ·exact .inl (Tb _ h)
    ·rcases SL.1 h with rfl|h
     ·exact .inl (TC ..)
     ·exact .inr h
 have hs:=LF (ops:=ops) (λi o ho j hj=>by
   obtain⟨A,B,e⟩:=List.append_of_mem (ay.full i (SR.1 ho).1);obtain⟨o',ba,hb⟩:=ready ord [] ay.top A i B e;rw[ho]at ba;cases ba;rcases hb j hj with h|h
   ·exact hlt j (by rw[e];exact Tg _ h)
   ·cases h)
  (λX ⟨i,hi,hn⟩=>by
   obtain⟨A,i',B,e,h1,h2⟩:=IU (X:=X) ⟨i,ay.full i hi,hn⟩;obtain⟨o',ba,hb⟩:=ready ord [] ay.top A i' B e;refine⟨i',o',ba,h1,λj hj=> ?_⟩;rcases hb j hj with h|h
   ·exact h2 j h
   ·cases h)
  ops.size t (TL ops.size false) [] ⟨by simp,λi hi=>by simp[hi]⟩ (UF YZ (by simp))
 have sw:At E V ⟨TX ops s.T f [],Hf (done es [])⟩ a nt:=by
  have e:(⟨TX ops s.T f [],Hf (done es [])⟩:AS)=s:=dw.symm;rw[e];exact ah
 refine agl (Hf:=Hf) (es:=es) ay q2 hs (by simp) (λi hi=>by cases hi) E V a Q sw λE' V' a' X' hk aS fy=> ?_;have fA:∀i,i∈X'<->i∈ord.reverse++[]:=λi=>by simp[fy,za]
 refine hQ .normal .normal E' V' a' _ hk ⟨?_,λt x e=> ?_,aS.size⟩ trivial q3
 ·rw[<- Ee fA];exact aS.bm
 ·rw[<- DL ay fA]at e;exact aS.tok t x e
end
open Go.Proofs
theorem F.Nq:ln SC 77=(SN Go.Gg.yl.map):=by kernel_rfl
theorem F.Ny:eG SC 4=(SN (W9 Bool.false)):=by kernel_rfl
theorem F.Nz:eG SC 88=(SN (TD #[(W9 Bool.false),(Zo Option.none),(SG S6 (0)),(SG S6 (0)),(SG S6 (0)),(SG S6 (0)),(SG S6 (0)),(SG S6 (0)),(SG S6 (0)),(SG S6 (0)),(SG S6 (0)),(SG S6 (0)),(SG S6 (0)),(SG S6 (0)),(SG S6 (0)),(SG S6 (0)),(SG S6 (0)),(SG SE (0)),(SG SE (0)),(SG SE (0)),(SG SE (0)),(SG SE (0)),(SG SE (0)),(SG SE (0)),(SG SE (0)),(SG SE (0)),(SG SE (0)),(SG SE (0))])):=by kernel_rfl
theorem F.ak7:ma SC 116=(SN Bool.false):=by kernel_rfl
theorem F.Cu:ma SC 126=(SN Bool.true):=by kernel_rfl
theorem F.Lf:ma SC 136=(SN Bool.false):=by kernel_rfl
theorem F.ak8:ma SC 156=(SN Bool.false):=by kernel_rfl
theorem F.Sg:ma SC 97=(SN Bool.false):=by kernel_rfl
theorem F.f31:SC.funcs[31]?=some Tryz.f31:=by kernel_rfl
theorem F.f71:SC.funcs[71]?=some Tryz.f71:=by kernel_rfl
theorem F.f77:SC.funcs[77]?=some XJ:=by kernel_rfl
theorem F.f91:SC.funcs[91]?=some Tryz.f91:=by kernel_rfl
theorem F.f95:SC.funcs[95]?=some Tryz.f95:=by kernel_rfl
theorem F.f97:SC.funcs[97]?=some ar_:=by kernel_rfl
theorem F.mixed:SC.follows .mixedOrders=true:=by kernel_rfl
inductive dI (lv:Bool)(P:SJ)(r:Option Nat)(nt:Nat):T5->(an->AS->Prop)->T5->(an->AS->Prop)->Prop
 |base {c:T5} {Φ:an->AS->Prop}:dI lv P r nt c Φ c Φ
 |seq {x y h:T5} {Φ Ψ:an->AS->Prop} (i:dI lv P r nt x (an.then (λs=>aU lv P r nt y s Φ) Φ) h Ψ):dI lv P r nt (.seq x y) Φ h Ψ
 |block {id:Nat} {x h:T5} {Φ Ψ:an->AS->Prop} (i:dI lv P r nt x (an.inBlock id Φ) h Ψ):dI lv P r nt (.block id x) Φ h Ψ
section
variable {lv:Bool}{P:SJ}{r:Option Nat}{s:AS}{nt id:Nat}{ops:Array Tv}{c h:T5}{Φ Ψ:an->AS->Prop}
theorem bF{f:TQ}{H:List aa}{args:List AV}{k kp:AV->List aa->Prop}{rs:List UM}(fn:ZP)
  (h:bM H->(∀a∈args,Lt H.length a)->aU lv P none nt c ⟨bk 0 args,H⟩ (tn P rs H.length k kp)) (hf:P.funcs[f]?=some fn:=by kernel_rfl) (hb:fn.body=some c:=by rfl) (hr:fn.results=rs.toArray:=by rfl) (hn:fn.ntmps=nt:=by rfl) (cK:args.length<=nt:=by simp):bc lv P f H args k kp:=ail hf hb hr hn cK h
theorem dI.go(i:dI lv P r nt c Φ h Ψ):∀{s:AS},aU lv P r nt h s Ψ->aU lv P r nt c s Φ:=by
 induction i with
 |base=>exactλh=>h
 |seq _ ih=>exactλk=>gT (ih k)
 |block _ ih=>exactλk=>NP (ih k)
theorem aj(h:ie lv P ops ops.toList s (Ψ .normal) (λpv s=>Ψ (.panic pv) s))(i:dI lv P r nt c Φ (.region id ops false) Ψ:=by repeat first|exact .base|apply dI.seq|apply dI.block)(hd:jL nt ops=true:=by kernel_rfl):aU lv P r nt c s Φ:=i.go (NU hd h)
theorem asd{o:Ti}{x y:T5}(h:ao (s.ev o) λa=>a.asBool λb=>(b=true->aU lv P r nt x s Ψ)/\(b=false->aU lv P r nt y s Ψ))(i:dI lv P r nt c Φ (.cond o x y) Ψ:=by repeat first|exact .base|apply dI.seq|apply dI.block):aU lv P r nt c s Φ:=i.go (NQ h)
theorem aeY(h:Ψ .normal s)(i:dI lv P r nt c Φ .skip Ψ:=by repeat first|exact .base|apply dI.seq|apply dI.block):aU lv P r nt c s Φ:=i.go (NY h)
theorem nS(h:Ψ .ret s)(i:dI lv P r nt c Φ .ret Ψ:=by repeat first|exact .base|apply dI.seq|apply dI.block):aU lv P r nt c s Φ:=i.go (NW h)
theorem asf(h:Ψ (.exit id) s)(i:dI lv P r nt c Φ (.exit id) Ψ:=by repeat first|exact .base|apply dI.seq|apply dI.block):aU lv P r nt c s Φ:=i.go (NR h)
theorem cI{x:T5}(h:aU lv P r nt x s (an.inBlock id Ψ))(i:dI lv P r nt c Φ (.block id x) Ψ:=by repeat first|exact .base|apply dI.seq|apply dI.block):aU lv P r nt c s Φ:=i.go (NP h)
theorem ak{p:Prop}(h:p)(i:dI lv P r nt c Φ (.region id ops false) Ψ:=by repeat first|exact .base|apply dI.seq|apply dI.block)(e:ie lv P ops ops.toList s (Ψ .normal) (λpv s=>Ψ (.panic pv) s)=p:=by conv=>lhs;simp only[seval])(hd:jL nt ops=true:=by kernel_rfl):aU lv P r nt c s Φ:=i.go (NU hd (e.mpr h))
theorem aE{p:Prop}{o:Ti}{x y:T5}(h:p)(i:dI lv P r nt c Φ (.cond o x y) Ψ:=by repeat first|exact .base|apply dI.seq|apply dI.block)(e:(ao (s.ev o) λa=>a.asBool λb=>(b=true->aU lv P r nt x s Ψ)/\(b=false->aU lv P r nt y s Ψ))=p:=by conv=>lhs;simp only[seval]):aU lv P r nt c s Φ:=i.go (NQ (e.mpr h))
theorem aO{p:Prop}(h:p)(i:dI lv P r nt c Φ .skip Ψ:=by repeat first|exact .base|apply dI.seq|apply dI.block)(e:Ψ .normal s=p:=by conv=>lhs;simp only[seval]):aU lv P r nt c s Φ:=i.go (NY (e.mpr h))
theorem a_{p:Prop}(h:p)(i:dI lv P r nt c Φ .ret Ψ:=by repeat first|exact .base|apply dI.seq|apply dI.block)(e:Ψ .ret s=p:=by conv=>lhs;simp only[seval]):aU lv P r nt c s Φ:=i.go (NW (e.mpr h))
theorem b_{p:Prop}(h:p)(i:dI lv P r nt c Φ (.exit id) Ψ:=by repeat first|exact .base|apply dI.seq|apply dI.block)(e:Ψ (.exit id) s=p:=by conv=>lhs;simp only[seval]):aU lv P r nt c s Φ:=i.go (NR (e.mpr h))
theorem eI{Φ Ψ:an->AS->Prop}{c:T5}(p:Nat)(h:mR lv P ops (ops.toList.take p) s (λs'=>ie lv P ops (ops.toList.drop p) s' (Ψ .normal) (λpv s=>Ψ (.panic pv) s)))(i:dI lv P r nt c Φ (.region id ops true) Ψ:=by repeat first|exact .base|apply dI.seq|apply dI.block)(hm:P.follows .mixedOrders=true:=by kernel_rfl)(ay:yF nt p ops=true:=by kernel_rfl):aU lv P r nt c s Φ:=i.go (aeO hm p ay h)
theorem qE{Φ Ψ:an->AS->Prop}{c:T5}(es ord:List Nat)(pl:List qy)(Hf:List Nat->List aa)(h:fU lv P Hf ops pl s (Ψ .normal) ⟨0⟩)(i:dI lv P r nt c Φ (.region id ops true) Ψ:=by repeat first|exact .base|apply dI.seq|apply dI.block)(hm:P.follows .mixedOrders=true:=by kernel_rfl)(ay:qI nt ops es ord=true:=by kernel_rfl)(dl:abg ops es ord=pl:=by kernel_rfl)(h0:s.H=Hf []:=by first|rfl|simp only[seval]):aU lv P r nt c s Φ:=i.go (aeP es ord pl Hf hm ay dl h0 h)
theorem r6(n:Nat)(V:Nat->List (Nat×AV))(Hf:Nat->List aa)(ok:Nat->Prop)(hm:ok 0)
  (h:bM s.H->(∀t a,look s.T t=some a->Lt s.H.length a)->∀m,m<=n->ok m->∀R:AS->Prop,(∀s',(m<n/\ok (m+1)/\tC s.T (V m) (V (m+1)) (Hf (m+1)) s')->R s')->aU lv P r nt c ⟨V m++s.T,Hf m⟩ (an.then R Φ)) (BX:∀m m',(V m).map (·.1)=(V m').map (·.1):=by exactλ_ _=>rfl) (iD:∀p∈V 0,∃b,look s.T p.1=some b/\Wk b p.2:=by(simp only[seval];simp[bA,Wk.refl])) (Bu:Hf 0=s.H:=by rfl) (hl:∀m,m<=n->ok m->(Hf m).length=s.H.length:=by exactλ_ _ _=>rfl):aU lv P r nt (.loop c) s Φ:=gJ n V Hf ok BX iD Bu hl hm h
theorem dD{base Vi Vn T:List (Nat×AV)}{H:List aa}(hk:rS T (Vi++base) Vn:=by exact o_ rfl rfl)(hv:∀p∈Vn,∃b,look T p.1=some b/\Wk b p.2:=by(simp only[seval];simp[bA,Wk.refl])):tC base Vi Vn H ⟨T,H⟩:=aoU hk hv
theorem abx{base Vi Vn T:List (Nat×AV)}{H H':List aa}(ay:bM H)(hg:∃G,H++G=H':=by first|exact⟨_,rfl⟩|exact⟨_,SD ..⟩)(hk:rS T (Vi++base) Vn:=by exact o_ rfl rfl)(hv:∀p∈Vn,∃b,look T p.1=some b/\Wk b p.2:=by(simp only[seval];simp[bA,Wk.refl]))(hlt:∀p∈Vn,Lt H.length p.2:=by simp[eD]):tC base Vi Vn H ⟨T,H'⟩:=by
 obtain⟨G,rfl⟩:=hg;exact abw hk hv ay hlt
theorem cJ{H:List aa}{args:List AV}{k kp:AV->List aa->Prop}{g:TQ}{first cQ:List AV}(hf:bc lv P g H (first++args++cQ) k kp)(hg:qq P g=true:=by kernel_rfl):iQ lv P (.fn (.func g) first cQ) H args k kp:=H2 hg hf
end
theorem aJ{lv:Bool}{P:SJ}{H:List aa}{args:List AV}{k kp:AV->List aa->Prop}{g:TQ}{first cQ:List AV}{t:DF k kp}(hf:bc lv P g H (first++args++cQ) k kp)(hg:qq P g=true:=by kernel_rfl):An lv P (.fn (.func g) first cQ) H args k kp t:=wP (H2 hg hf)
theorem F.q0:jF SC 22 22=(SN (3,(1,(SG SE (0)))))/\jF SC 23 23=(SN (61,(3,(TD #[(SG SE (0)),(SG SE (0)),(SG SE (0))]))))/\jF SC 24 24=(SN (48,(4,(TD #[(SG SE (0)),(SG SE (0)),(SG SE (0)),(SG SE (0))]))))/\jF SC 57 57=(SN (22,(1,(Ur Option.none 0 0))))/\oA SC 136=(SN ((Go.Gg.ig.fields []),(TD #[])))/\oA SC 26=(SN ((Go.Gg.ig.fields [(0,1),(1,1),(2,1),(3,1),(4,1),(5,1)]),(TD #[(SG SE (0)),(SG SE (0)),(SG SE (0)),(Ur Option.none 0 0),(Ur Option.none 0 0),(Ur Option.none 0 0)])))/\oA SC 46=(SN ((Go.Gg.ig.fields [(0,1),(1,1)]),(TD #[(SG SE (0)),(SG SE (0))])))/\oA SC 48=(SN ((Go.Gg.ig.fields [(0,2),(2,2)]),(TD #[(SG SE (0)),(SG SE (0)),(SG SE (0)),(SG SE (0))])))/\oA SC 61=(SN ((Go.Gg.ig.fields [(0,1),(1,2)]),(TD #[(SG SE (0)),(SG SE (0)),(SG SE (0))])))/\oA SC 73=(SN ((Go.Gg.ig.fields [(0,1),(1,1),(2,1)]),(TD #[(Ur Option.none 0 0),(SG SE (0)),(SG TA (0))])))/\oA SC 76=(SN ((Go.Gg.ig.fields [(0,6)]),(TD #[(SG SE (0)),(SG SE (0)),(SG SE (0)),(Ur Option.none 0 0),(Ur Option.none 0 0),(Ur Option.none 0 0)])))/\oA SC 86=(SN ((Go.Gg.ig.fields [(0,4),(4,4),(8,3)]),(TD #[(SG SE (0)),(SG SE (0)),(SG SE (0)),(SG SE (0)),(SG SE (0)),(SG SE (0)),(SG SE (0)),(SG SE (0)),(SG SE (0)),(SG SE (0)),(SG SE (0))])))/\oA SC 88=(SN ((Go.Gg.ig.fields [(0,1),(1,1),(2,4),(6,4),(10,4),(14,3),(17,11)]),(TD #[(W9 Bool.false),(Zo Option.none),(SG S6 (0)),(SG S6 (0)),(SG S6 (0)),(SG S6 (0)),(SG S6 (0)),(SG S6 (0)),(SG S6 (0)),(SG S6 (0)),(SG S6 (0)),(SG S6 (0)),(SG S6 (0)),(SG S6 (0)),(SG S6 (0)),(SG S6 (0)),(SG S6 (0)),(SG SE (0)),(SG SE (0)),(SG SE (0)),(SG SE (0)),(SG SE (0)),(SG SE (0)),(SG SE (0)),(SG SE (0)),(SG SE (0)),(SG SE (0)),(SG SE (0))])))/\oA SC 97=(SN ((Go.Gg.ig.fields [(0,1),(1,1)]),(TD #[(SG SE (0)),(SG SE (0))])))/\Ao SC 3 71=(SN (SN TA))/\Ao SC 71 3=(SN (SN SE)):=by and_intros<;>kernel_rfl
theorem F.q1:eX SC 112 0=(SN 0)/\eX SC 112 1=(SN 1)/\eX SC 112 2=(SN 2)/\eX SC 26 0=(SN 0)/\eX SC 26 1=(SN 1)/\eX SC 26 2=(SN 2)/\eX SC 26 3=(SN 3)/\eX SC 26 4=(SN 4)/\eX SC 26 5=(SN 5)/\eX SC 46 0=(SN 0)/\eX SC 46 1=(SN 1)/\eX SC 48 0=(SN 0)/\eX SC 48 1=(SN 2)/\eX SC 61 0=(SN 0)/\eX SC 61 1=(SN 1)/\eX SC 73 0=(SN 0):=by and_intros<;>kernel_rfl
theorem F.q2:eX SC 73 1=(SN 1)/\eX SC 73 2=(SN 2)/\eX SC 76 0=(SN 0)/\eX SC 86 0=(SN 0)/\eX SC 86 1=(SN 4)/\eX SC 86 2=(SN 8)/\eX SC 88 0=(SN 0)/\eX SC 88 1=(SN 1)/\eX SC 88 2=(SN 2)/\eX SC 88 3=(SN 6)/\eX SC 88 4=(SN 10)/\eX SC 88 5=(SN 14)/\eX SC 88 6=(SN 17)/\eX SC 97 0=(SN 0)/\eX SC 97 1=(SN 1)/\nL SC 22=(SN (Option.none,1)):=by and_intros<;>kernel_rfl
theorem F.q3:nL SC 23=(SN (Option.none,3))/\nL SC 24=(SN (Option.none,4))/\nL SC 57=(SN (Option.none,1))/\nL SC 80=(SN ((SN 4),1))/\nL SC 81=(SN ((SN 3),1))/\nL SC 82=(SN ((SN 4),1))/\nL SC 83=(SN ((SN 4),1))/\nL SC 84=(SN ((SN 3),1))/\wA SC 82=(SN (4,1))/\wA SC 83=(SN (4,1))/\wA SC 84=(SN (3,1))/\ki SC 22=(SN (3,1))/\ki SC 24=(SN (48,4))/\ki SC 82=Option.none/\ki SC 83=Option.none/\ki SC 84=Option.none:=by and_intros<;>kernel_rfl
theorem F.q4:ln SC 22=(SN Go.Gg.yl.slice)/\ln SC 23=(SN Go.Gg.yl.slice)/\ln SC 24=(SN Go.Gg.yl.slice)/\ln SC 57=(SN Go.Gg.yl.slice)/\Ay SC 22=(SN (3,(1,(SG SE (0)))))/\oD SC 77=(SN (83,4))/\qB SC 22=(SN (3,(1,(SG SE (0)))))/\qB SC 23=(SN (61,(3,(TD #[(SG SE (0)),(SG SE (0)),(SG SE (0))]))))/\qB SC 24=(SN (48,(4,(TD #[(SG SE (0)),(SG SE (0)),(SG SE (0)),(SG SE (0))]))))/\qB SC 57=(SN (22,(1,(Ur Option.none 0 0))))/\Ty SC 130=(SN (1,Bool.false))/\Ty SC 132=(SN (1,Bool.false))/\Ty SC 136=(SN (0,Bool.true))/\Ty SC 139=(SN (1,Bool.false))/\Ty SC 157=(SN (1,Bool.false))/\Ty SC 22=(SN (1,Bool.false)):=by and_intros<;>kernel_rfl
theorem F.q5:Ty SC 23=(SN (1,Bool.false))/\Ty SC 24=(SN (1,Bool.false))/\Ty SC 26=(SN (6,Bool.true))/\Ty SC 3=(SN (1,Bool.false))/\Ty SC 4=(SN (1,Bool.false))/\Ty SC 46=(SN (2,Bool.true))/\Ty SC 48=(SN (4,Bool.true))/\Ty SC 61=(SN (3,Bool.true))/\Ty SC 68=(SN (1,Bool.false))/\Ty SC 71=(SN (1,Bool.false))/\Ty SC 76=(SN (6,Bool.true))/\Ty SC 77=(SN (1,Bool.false))/\Ty SC 79=(SN (1,Bool.false))/\Ty SC 81=(SN (3,Bool.true))/\Ty SC 83=(SN (4,Bool.true))/\Ty SC 86=(SN (11,Bool.true)):=by and_intros<;>kernel_rfl
theorem F.q6:Ty SC 88=(SN (28,Bool.true))/\Ty SC 97=(SN (2,Bool.true))/\eG SC 112=(SN (TD #[(SG SE (0)),(SG SE (0)),(W9 Bool.false)]))/\eG SC 116=(SN (TD #[(SG SE (0)),(SG SE (0))]))/\eG SC 136=(SN (TD #[]))/\eG SC 139=(SN (XM Option.none))/\eG SC 147=(SN (TD #[(SG TA (0)),(SG ag' (0))]))/\eG SC 153=(SN (TD #[(SG SE (0)),(SG SE (0))]))/\eG SC 157=(SN YQ)/\eG SC 26=(SN (TD #[(SG SE (0)),(SG SE (0)),(SG SE (0)),(Ur Option.none 0 0),(Ur Option.none 0 0),(Ur Option.none 0 0)]))/\eG SC 3=(SN (SG SE (0)))/\eG SC 46=(SN (TD #[(SG SE (0)),(SG SE (0))]))/\eG SC 48=(SN (TD #[(SG SE (0)),(SG SE (0)),(SG SE (0)),(SG SE (0))]))/\eG SC 61=(SN (TD #[(SG SE (0)),(SG SE (0)),(SG SE (0))]))/\eG SC 68=(SN YQ)/\eG SC 76=(SN (TD #[(SG SE (0)),(SG SE (0)),(SG SE (0)),(Ur Option.none 0 0),(Ur Option.none 0 0),(Ur Option.none 0 0)])):=by and_intros<;>kernel_rfl
theorem F.q7:eG SC 79=(SN (SG S6 (0)))/\eG SC 80=(SN (TD #[(SG S6 (0)),(SG S6 (0)),(SG S6 (0)),(SG S6 (0))]))/\eG SC 81=(SN (TD #[(SG S6 (0)),(SG S6 (0)),(SG S6 (0))]))/\eG SC 83=(SN (TD #[(SG SE (0)),(SG SE (0)),(SG SE (0)),(SG SE (0))]))/\eG SC 86=(SN (TD #[(SG SE (0)),(SG SE (0)),(SG SE (0)),(SG SE (0)),(SG SE (0)),(SG SE (0)),(SG SE (0)),(SG SE (0)),(SG SE (0)),(SG SE (0)),(SG SE (0))]))/\eG SC 97=(SN (TD #[(SG SE (0)),(SG SE (0))])):=by and_intros<;>kernel_rfl
attribute [seval] F.q0 F.q1 F.q2 F.q3 F.q4 F.q5 F.q6 F.q7 F.Nq F.Nz
def isDone (j:Nat)(D:List Nat):Bool:=D.contains j
theorem ak6(j:Nat):isDone j []=false:=by simp[isDone]
theorem ak5(i j:Nat)(D:List Nat):isDone j (i::D)=((j==i)||isDone j D):=by
 by_cases h:j=i<;>simp[isDone,h]
theorem afI(lv:Bool)(P:SJ)(Hf:List Nat->List aa)(T:List (Nat×AV))(o:Tv)(av:AV):BQ lv P Hf T o av []=True:=by rw[BQ]
theorem afH(lv:Bool)(P:SJ)(Hf:List Nat->List aa)(T:List (Nat×AV))(o:Tv)(av:AV)(D D':List Nat)(l:List (List Nat×List Nat)):BQ lv P Hf T o av ((D,D')::l)=((AQ lv P ⟨T,Hf D⟩ o λa=>a=av)/\BQ lv P Hf T o av l):=by rw[BQ]
theorem afd(lv:Bool)(P:SJ)(Hf:List Nat->List aa)(T:List (Nat×AV))(o:Tv)(av:AV):BE lv P Hf T o av []=True:=by rw[BE]
theorem afc(lv:Bool)(P:SJ)(Hf:List Nat->List aa)(T:List (Nat×AV))(o:Tv)(av:AV)(D D':List Nat)(l:List (List Nat×List Nat)):BE lv P Hf T o av ((D,D')::l)=((jT lv P (Hf D') ⟨T,Hf D⟩ o λa H'=>a=av/\H'=Hf D')/\BE lv P Hf T o av l):=by rw[BE]
theorem ae9:type_of% @fU.eq_1:=by intros;rw[fU.eq_1]
theorem afa:type_of% @fU.eq_2:=by intros;rw[fU.eq_2]
theorem ae8:type_of% @fU.eq_3:=by intros;rw[fU.eq_3]
theorem adz:type_of% @jT.eq_1:=by intros;rw[jT.eq_1]
theorem agw(G H:List aa)(k:AV->List aa->Prop)(n m sz:Nat)(elem:TypeId)(l l':List AV):qu G H k n m sz elem l l' .exact=jV G[H.length]? (0<m/\k (.bE H.length 0 (n+m) 0) (H++[.own sz (l++l') elem])) (k (.sl (n+m) (l++l') (.opn H.length)) (H++[.tail (n+m) sz elem])) ⟨0⟩:=by rw[qu]
theorem aiG(X Y:Prop)(t:lR X Y):jV none X Y t=Y:=by rw[jV];simp
theorem aiH(a:Nat)(b:List AV)(c:TypeId)(X Y:Prop)(t:lR X Y):jV (some (.own a b c)) X Y t=X:=by rw[jV]
theorem aiF(b:List AV)(c:TypeId)(X Y:Prop)(t:lR X Y):jV (some (.cells b c)) X Y t=Y:=by rw[jV];simp
theorem aiK(a b:Nat)(c:TypeId)(X Y:Prop)(t:lR X Y):jV (some (.tail a b c)) X Y t=Y:=by rw[jV];simp
theorem aiE(b:Obj)(X Y:Prop)(t:lR X Y):jV (some (.obj b)) X Y t=Y:=by rw[jV];simp
theorem aiJ(a:Nat)(b:List AV)(c:TypeId)(X Y:Prop)(t:lR X Y):jV (some (.part a b c)) X Y t=Y:=by rw[jV];simp
@[congr] theorem asx {x x' : Option aa} {X Y : Prop} {t : lR X Y} (h : x = x') : jV x X Y t = jV x' X Y t := by rw [h]
theorem agx(G H:List aa)(k:AV->List aa->Prop)(n m sz:Nat)(elem:TypeId)(l l':List AV)(i:Nat):qu G H k n m sz elem l l' (.opn i)=((match H[i]?with
   |some (.tail n' ep fY)=>n'=n/\ep=sz/\fY=elem
   |_=>False)/\(∀a∈l',a.leaf=true)/\k (.sl (n+m) (l++l') (.opn i)) (H.set i (.tail (n+m) sz elem))):=by first|(rw[qu];done)|(rw[qu];rfl)
section
variable {lv:Bool}{P:SJ}{s s':AS}
@[congr] theorem arV {G G' : List aa} {o : Tv} {k : AV -> List aa -> Prop} (hG : G = G') (h : s = s') : jT lv P G s o k = jT lv P G' s' o k := by rw [hG, h]
@[congr] theorem asl {Hf : List Nat -> List aa} {ops : Array Tv} {l l' : List qy} {K : AS -> Prop} {t : Aw K} (hl : l = l') (h : s = s') : fU lv P Hf ops l s K t = fU lv P Hf ops l' s' K t := by rw [hl, h]
@[congr] theorem aso {Hf : List Nat -> List aa} {T T' : List (Nat × AV)} {o : Tv} {av my : AV} {l l' : List (List Nat × List Nat)} (h1 : T = T') (h2 : av = my) (h3 : l = l') : BQ lv P Hf T o av l = BQ lv P Hf T' o my l' := by rw [h1, h2, h3]
@[congr] theorem asm {Hf : List Nat -> List aa} {T T' : List (Nat × AV)} {o : Tv} {av my : AV} {l l' : List (List Nat × List Nat)} (h1 : T = T') (h2 : av = my) (h3 : l = l') : BE lv P Hf T o av l = BE lv P Hf T' o my l' := by rw [h1, h2, h3]
@[congr] theorem ass {f f' : AV} {H H' : List aa} {aD tE : List AV} {k : AV -> List aa -> Prop} {t : Ax k} (h1 : f = f') (h2 : H = H') (h3 : aD = tE) : Dv lv P f H aD k t = Dv lv P f' H' tE k t := by rw [h1, h2, h3]
@[congr] theorem ast {f f' : AV} {name : String} {H H' : List aa} {aD tE : List AV} {k : AV -> List aa -> Prop} {t : Ax k} (h1 : f = f') (h2 : H = H') (h3 : aD = tE) : Hu lv P f name H aD k t = Hu lv P f' name H' tE k t := by rw [h1, h2, h3]
@[congr] theorem asr {G G' H H' : List aa} {k : AV -> List aa -> Prop} {n n' m m' sz : Nat} {elem : TypeId} {l l' x x' : List AV} {e e' : End} (hG : G = G') (h0 : H = H') (h1 : n = n') (h2 : m = m') (h3 : l = l') (h4 : x = x') (h5 : e = e') : qu G H k n m sz elem l x e = qu G' H' k n' m' sz elem l' x' e' := by rw [hG, h0, h1, h2, h3, h4, h5]
end
attribute [seval] ak6 ak5 afI afH afd afc ae9 afa ae8 adz agw agx aiG aiH aiF aiK aiE aiJ Bool.true_or Bool.false_or Bool.or_true Bool.or_false cond_true cond_false
def an.stay (Φ:an->AS->Prop):an->AS->Prop
 |.goto _,_=>False
 |e,s=>Φ e s
theorem ap9(Φ:an->AS->Prop)(s:AS):an.stay Φ .normal s=Φ .normal s:=by rw[an.stay];simp
theorem aqb(Φ:an->AS->Prop)(s:AS):an.stay Φ .ret s=Φ .ret s:=by rw[an.stay];simp
theorem ap8(Φ:an->AS->Prop)(i:Nat)(s:AS):an.stay Φ (.exit i) s=Φ (.exit i) s:=by rw[an.stay];simp
theorem aqa(Φ:an->AS->Prop)(a:AV)(s:AS):an.stay Φ (.panic a) s=Φ (.panic a) s:=by rw[an.stay];simp
theorem NX{lv:Bool}{P:SJ}{r:Option Nat}{s:AS}{nt:Nat}{c:T5}{Φ:an->AS->Prop}(h:aU lv P r nt c s (an.stay Φ)):aU lv P r nt (.scope c) s Φ:=by
 refine aeX (λ_ _ _=>False) ⟨0,h.mono λe s hs=> ?_⟩ λ_ _ _ _ _ hf=>hf.elim;cases e<;>first|exact hs|exact hs.elim
@[congr] theorem as3 {s s' : AS} {Φ : an -> AS -> Prop} {e e' : an} (he : e = e') (h : s = s') : an.stay Φ e s = an.stay Φ e' s' := by rw [he, h]
attribute [seval] ap9 aqb ap8 aqa
theorem ak3{α:Type}(n:Nat)(x:α):(if(n:Int)<0 then none else some x)=some x:=by rw[if_neg (by omega)]
theorem afF:(XG==VT)=false:=by decide
theorem afG:(VT==VT)=true:=by decide
theorem aqF{α β:Type}(f:α->β)(xs:List α):(xs.map f).take xs.length=xs.map f:=SW (by simp)
theorem anb(o:VW):(o=o\/o=.neq)=True:=by simp
theorem anc:(VT=.eql\/VT=.neq)=True:=by simp
theorem ala{α:Type}(a b:α):(if false=true then a else b)=b:=by simp
theorem alb{α:Type}(a b:α):(if true=true then a else b)=a:=by simp
theorem afB(s:AS):s.iS none=some none:=by rw[AS.iS]
theorem afC(s:AS)(x:Ti):s.iS (some x)=(s.ev x).bind λa=>a.uY.map some:=by
 rw[AS.iS];cases s.ev x<;>rfl
theorem aey(j:TU)(n:Int):AV.uY (.val (.int j n))=some n:=by rw[AV.uY]
theorem adO(P:SJ)(t:TypeId)(id off:Nat)(l h m:Option Int)(k:AV->Prop):rO P t (.op id off) l h m k=ao (wA P t) λp=>rU id off p.1 p.1 p.2 l h m k:=by rw[rO]
theorem adP(P:SJ)(t:TypeId)(id off n c:Nat)(l h m:Option Int)(k:AV->Prop):rO P t (.bE id off n c) l h m k=ao (ki P t) λp=>rU id off n c p.2 l h m k:=by rw[rO]
theorem adQ(P:SJ)(t:TypeId)(n:Nat)(li:List AV)(e:End)(l h m:Option Int)(k:AV->Prop):rO P t (.sl n li e) l h m k=ao (ki P t) λp=>wE n li e p.2 l h m k:=by rw[rO]
theorem anj:type_of% @rU.eq_1:=by intros;rw[rU.eq_1]
theorem apJ:type_of% @wE.eq_1:=by intros;rw[wE.eq_1]
@[congr] theorem asX {id oo off CO n n' cap cap' sz ep : Nat} {lo CD hi cx mx CI : Option Int} {k : AV -> Prop} (h1 : id = oo) (h2 : off = CO) (h3 : n = n') (h4 : cap = cap') (h5 : sz = ep) (h6 : lo = CD) (h7 : hi = cx) (h8 : mx = CI) : rU id off n cap sz lo hi mx k = rU oo CO n' cap' ep CD cx CI k := by rw [h1, h2, h3, h4, h5, h6, h7, h8]
@[congr] theorem as0 {n n' sz ep : Nat} {l l' : List AV} {e e' : End} {lo CD hi cx mx CI : Option Int} {k : AV -> Prop} (h3 : n = n') (h1 : l = l') (h2 : e = e') (h5 : sz = ep) (h6 : lo = CD) (h7 : hi = cx) (h8 : mx = CI) : wE n l e sz lo hi mx k = wE n' l' e' ep CD cx CI k := by rw [h1, h2, h3, h5, h6, h7, h8]
theorem amH:((1:Nat):Int)=1:=rfl
theorem amI:((2:Nat):Int)=2:=rfl
theorem amJ:((3:Nat):Int)=3:=rfl
theorem amK:((4:Nat):Int)=4:=rfl
theorem amL:((5:Nat):Int)=5:=rfl
theorem amM:((6:Nat):Int)=6:=rfl
theorem aq2(p:Prop):(True\/p)=True:=by simp
theorem anh(p:Prop):(p\/True)=True:=by simp
attribute [seval] amH amI amJ amK amL amM aq2 anh Int.le_refl List.length_map
theorem aep(H L:List aa):(H++L)[H.length+1+1]?=L[2]?:=uW H L 2
theorem aeq(H L:List aa):(H++L)[H.length+1+1+1]?=L[3]?:=uW H L 3
theorem aet(H L:List aa)(x:aa):(H++L).set (H.length+1+1) x=H++L.set 2 x:=uX H L 2 x
theorem aeu(H L:List aa)(x:aa):(H++L).set (H.length+1+1+1) x=H++L.set 3 x:=uX H L 3 x
attribute [seval] aep aeq aet aeu
attribute [seval] afB afC aey adO adP adQ anj apJ Option.getD_none Option.getD_some Int.toNat_zero Nat.sub_zero Option.bind_some Option.map_some Nat.zero_le Option.isSome_none Option.isSome_some Bool.false_eq_true false_implies
attribute [seval] ak3 afF afG aqF anb anc ala alb
section
variable {P:SJ}{α β:Type}
theorem h_(a:α):cr P (pure a) a:=λw es=>by simp only[pure,VC]
theorem lj{x:Sem α}{f:α->Sem β}{a:α}{b:β}(h:cr P x a)(k:cr P (f a) b):cr P (x>>=f) b:=λw es=>by
 show (x.bind f).runT P w es=_;rw[Sem.runT_bind',h w es];exact k w es
theorem aqu{k:SJ->Sem α}{a:α}(h:cr P (k P) a):cr P (.program k) a:=λw es=>by simp only[VC];exact h w es
theorem MR{k:SJ->Sem α}{a:α}(h:cr P (k P) a):cr P (program>>=k) a:=lj (a:=P) (aqu (h_ P)) h
theorem wj{t:TypeId}{d:TypeDesc}{k:TypeDesc->Sem α}{a:α}(h:P.underlying t=some d)(hk:cr P (k d) a):cr P (underlying t>>=k) a:=by
 unfold underlying;refine lj (a:=d) (MR ?_) hk;rw[h];exact h_ d
def yq:TypeDesc->Bool
 |.struct _|.array _ _=>true
 |_=>false
theorem acy{t:TypeId}{d:TypeDesc}{k:Bool->Sem α}{a:α}(h:P.underlying t=some d)(hk:cr P (k (yq d)) a):cr P (isAgg t>>=k) a:=by
 unfold isAgg;refine lj (wj (a:=yq d) h ?_) hk;cases d<;>exact h_ _
theorem MS{t:TypeId}{i:We}{k:Nat->Sem α}{a:α}(h:P.info? t=some i)(hk:cr P (k i.size) a):cr P (sizeOf t>>=k) a:=by
 unfold sizeOf typeInfo;refine lj (lj (a:=i) (MR ?_) (h_ _)) hk;rw[h];exact h_ i
theorem C8{t:TypeId}{d:TypeDesc}{xs:Array SO}{off:Nat}{v:SO}{k:SO->Sem α}{a:α}(h:P.underlying t=some d)(hd:yq d=false)(hv:xs[off]?=some v)(hk:cr P (k v) a):cr P (part t xs off>>=k) a:=by
 unfold part;refine lj (a:=v) (acy h ?_) hk;rw[hd,hv];exact h_ v
theorem acz{t:TypeId}{d:TypeDesc}{i:We}{xs:Array SO}{off:Nat}{k:SO->Sem α}{a:α}(h:P.underlying t=some d)(hd:yq d=true)(hi:P.info? t=some i)(hk:cr P (k (.agg (xs.extract off (off+i.size)))) a):cr P (part t xs off>>=k) a:=by
 unfold part;refine lj (acy h ?_) hk;rw[hd];exact MS hi (h_ _)
theorem acx{t:TypeId}{k0 k:TU}{d:Nat}{x y:Int}(h:P.underlying t=some (.int k0)):cr P (U7 (d+1) t (.int k x) (.int k y)) (x==y):=by
 rw[U7];refine wj h ?_;dsimp only;rw[if_pos rfl];exact h_ _
theorem aqn{t:TypeId}{d:Nat}{x y:Bool}(h:P.underlying t=some .bool):cr P (U7 (d+1) t (.bool x) (.bool y)) (x==y):=by
 rw[U7];exact wj h (h_ _)
theorem acp{ι:Type}{body:ι->Option Bool×Unit->Sem (ForInStep (Option Bool×Unit))}{p:ι->Bool}:∀(l:List ι),(∀i∈l,cr P (body i (none,())) (if p i then .yield (none,())else .done (some false,())))->cr P (forIn l (none,()) body) (if l.all p then(none,())else(some false,()))
 |[],_=>by simpa using h_ (none,())
 |i::l,h=>by
  rw[WX];refine lj (h i (TC ..)) ?_;by_cases hp:p i=true
  ·simp only[hp,if_true,ZL,U8];exact acp l λj hj=>h j (Tb _ hj)
  ·have zk:p i=false:=(by simpa using hp);simp only[zk,TO,if_false,ZL,Xf];exact h_ _
theorem aeh{α:Type}[BEq α][LawfulBEq α]{xs ys:List α}{n:Nat}(hx:xs.length=n)(hy:ys.length=n):((Ua 0 n).all λi=>xs[i]?==ys[i]?)=(xs==ys):=by
 rw[Vk,Tw,beq_iff_eq];constructor
 ·intro h;apply Ym;intro i;by_cases hi:i<n
  ·have:=h i (by simp[XV];omega);simpa using this
  ·rw[Uu (by omega),Uu (by omega)]
 ·rintro rfl i _;simp
theorem aqr{t e:TypeId}{k0 k:TU}{n d:Nat}{i:We}{xs ys:List Int}(ht:P.underlying t=some (.array n e))(he:P.underlying e=some (.int k0))(hi:P.info? e=some i)(hs:i.size=1)(hx:xs.length=n)(hy:ys.length=n):
  cr P (U7 (d+2) t (.agg (xs.map (SG k)).toArray) (.agg (ys.map (SG k)).toArray)) (xs==ys):=by
 rw[U7];refine wj ht ?_;dsimp only;refine MS hi ?_;rw[hs];simp only[Wt,Xq];refine lj (a:=if(xs==ys)then(none,())else(some false,())) ?_ (by cases xs==ys<;>exact h_ _);have hn:(n-0+1-1)/1=n:=by simp
 rw[hn,<- aeh hx hy];refine acp _ λj hj=> ?_;have oS:j<n:=by simp[XV]at hj;omega
 have gx:xs[j]?=some (xs[j]'(by omega)):=SV _;have gy:ys[j]?=some (ys[j]'(by omega)):=SV _;rw[Ya];refine C8 he rfl (v:=.int k (xs[j]'(by omega))) (by simp[gx]) ?_;refine C8 he rfl (v:=.int k (ys[j]'(by omega))) (by simp[gy]) ?_;refine lj (acx he) ?_;rw[gx,gy];by_cases h:xs[j]'(by omega)=ys[j]'(by omega)
 ·rw[h];simp;exact h_ _
 ·have h1:(xs[j]'(by omega)==ys[j]'(by omega))=false:=by simpa using h
  have h2:(some (xs[j]'(by omega))==some (ys[j]'(by omega)))=false:=by simpa using h
  rw[h1,h2];exact h_ _
theorem cr.uniq{x:Sem α}{a b:α}(h:cr P x a)(k:cr P x b):a=b:=by
 have e:=(h default #[]).symm.trans (k default #[]);have e1:=congrArg Prod.fst e;exact(an' e1).1
theorem acu{t e:TypeId}{k0:TU}{n:Nat}{i:We}{xs ys:List Int}(ht:P.underlying t=some (.array n e))(he:P.underlying e=some (.int k0))(hi:P.info? e=some i)(hs:i.size=1)(hx:xs.length=n)(hy:ys.length=n):
  cr P (Xe t (.agg (xs.map (SG .i64)).toArray) (.agg (ys.map (SG .i64)).toArray)) (xs==ys):=aqr (d:=9998) ht he hi hs hx hy
theorem xY(xs:List Int):AV.raw (.agg (xs.map iv))=some (.agg (xs.map (SG .i64)).toArray):=by
 have:∀l:List Int,(l.map iv).mapM AV.zW=some (l.map (SG .i64)):=by
  intro l;induction l with
  |nil=>rfl
  |cons x l ih=>simp only[UU,T8,ih];rfl
 simp only[AV.raw,this];rfl
theorem anS{xs:List Int}{i:Nat}{y:Int}(h:i<xs.length):iw (xs.map iv) i [iv y]=(xs.set i y).map iv:=by
 unfold iw;rw[List.map_set,XK,if_pos (by simpa using h)];simp
theorem we{xs:List Int}{i:Nat}{y:Int}(h:i<xs.length):(xs.map iv).take i++[iv y]++(xs.map iv).drop (i+1)=(xs.set i y).map iv:=anS h
theorem kL{xs:List Int}{i:Nat}{x:Int}(h:xs[i]?=some x):(xs.map iv).drop i=iv x::(xs.drop (i+1)).map iv:=by
 have h1:=eM h;rw[<- ae',TW h1,UU];rw[SV h1]at h;cases h;rfl
end
theorem aac(xs:List Int):(∀a∈xs.map iv,a.leaf=true)=True:=by
 simp only[Tm,eq_iff_iff,iff_true]
 rintro a ⟨x,_,rfl⟩;rfl
attribute [seval] List.append_nil aac
def yf (lv:Bool)(P:SJ)(g:TQ)(args:Array SO)(md:U5)(V:View)(R:U5->View->Prop):Prop:=
 ∀(main:Bool)(J:View->SH->Prop),Closed lv P main J->∀(fr:T9)(cs:List T9),fr.mode=md->(∀nF V',R nF V'->J V' (G {fr with mode:=nF} cs))->J V (G (Frame.enter P g args .deferred) (fr::cs))
def qF:U5->U5
 |.panicking ({recovered:=true, .. }::L1)=>match L1.dropWhile (!·.goexit)with
  |[]=> .returning
  |rest=> .panicking rest
 |m=>m
theorem aad{lv:Bool}{P:SJ}{main:Bool}{J:View->SH->Prop}(C:Closed lv P main J){fr c:T9}{cs:List T9}{f:TQ}{v:SO}{V:View}(h:Leaves P fr f .deferred (.ret v) V)(hJ:J V (G {c with mode:=qF c.mode} cs)):J V (G fr (c::cs)):=by
 obtain⟨rfl,hd,hk,fn,hf,hm,hr⟩:=h;refine C.step _ _ rfl λw hw=> ?_;obtain⟨es,w',V',h1,h2,h3⟩:=hr.runs hw;rcases h3 with⟨x,h3,rfl,rfl⟩|⟨_,_,h⟩
 ·refine⟨G {c with mode:=qF c.mode} cs,w',seen P fr.fn es,V',?_,h1.seen P fr.fn,hJ⟩;simp only[G,stepG,unwind,doReturn,hm,hd,hk,hf,TB,h3,h2,T1];cases Fc:c.mode with
  |run=>simp[qF,<- Fc]
  |returning=>simp[qF,<- Fc]
  |panicking ch=>
   cases ch with
   |nil=>simp[qF,<- Fc]
   |cons p L1=>
    obtain⟨v,rec,ge⟩:=p;cases rec with
    |false=>simp[qF,<- Fc]
    |true=>
     simp only[qF];cases hdw:L1.dropWhile (!·.goexit)with
     |nil=>simp
     |cons x y=>simp
 ·exact h.elim
theorem O8{ρ:Ti->SO}{o:Tv}{cl:Xn}(au:o.op=.call cl)(aX:cl.callee=.builtin .recover)(P:SJ)(w:Tp)(es:Array Uq):(execOp ρ o).runT P w es=(.ok .recover w,es):=by
 unfold execOp;rw[au];dsimp only;unfold resolve;rw[aX];rfl
theorem ao9{P:SJ}{main:Bool}{b c:T9}{a:Act}{k:List WR}{cs:List T9}{w:Tp}{ops:Array Tv}{i:Nat}{rest:List Nat}{o:Tv}{cl:Xn}{v:SO}(ho:ops[i]?=some o)(hg:o.guard=none)(au:o.op=.call cl)(aX:cl.callee=.builtin .recover)(hb:b.kind=.deferred)(hr:b.roundOf=none)
  (hm:c.mode=.panicking [{v,recovered:=false}]):stepG P main (G (on b a (.inRegion ops (i::rest)::k)) (c::cs)) w=.go (G (on b (a.put o.dst v) (.inRegion ops rest::k)) ({c with mode:=.panicking [{v,recovered:=true}]}::cs)) w #[]:=by
 have dY:(on b a (.inRegion ops (i::rest)::k)).finish v=on b (a.put o.dst v) (.inRegion ops rest::k):=by
  rw[zM,ho];rfl
 rw[s_op ho (by unfold Th;rw[hg]) (.inl hr),<- dY];have jP:((on b a (.inRegion ops (i::rest)::k)).kind==U2)=false:=by simp[on,hb]
 simp only[stepG.apply,if_true,O8 au aX,jP,T1,TO,if_false];have h1:(on b a (.inRegion ops (i::rest)::k)).roundOf=none:=hr;have h2:(on b a (.inRegion ops (i::rest)::k)).kind=.deferred:=hb;rw[h1];simp only[tryRecover,h2,hm];simp[seen,G]
theorem apa{P:SJ}{main:Bool}{b c:T9}{a:Act}{k:List WR}{cs:List T9}{w:Tp}{ops:Array Tv}{i:Nat}{rest:List Nat}{o:Tv}{cl:Xn}(ho:ops[i]?=some o)(hg:o.guard=none)(au:o.op=.call cl)(aX:cl.callee=.builtin .recover)(hb:b.kind=.deferred)(hr:b.roundOf=none)
  (hm:c.mode=.returning):stepG P main (G (on b a (.inRegion ops (i::rest)::k)) (c::cs)) w=.go (G (on b (a.put o.dst .nilIface) (.inRegion ops rest::k)) (c::cs)) w #[]:=by
 have dY:(on b a (.inRegion ops (i::rest)::k)).finish .nilIface=on b (a.put o.dst .nilIface) (.inRegion ops rest::k):=by
  rw[zM,ho];rfl
 rw[s_op ho (by unfold Th;rw[hg]) (.inl hr),<- dY];have jP:((on b a (.inRegion ops (i::rest)::k)).kind==U2)=false:=by simp[on,hb]
 simp only[stepG.apply,if_true,O8 au aX,jP,T1,TO,if_false];have h1:(on b a (.inRegion ops (i::rest)::k)).roundOf=none:=hr;have h2:(on b a (.inRegion ops (i::rest)::k)).kind=.deferred:=hb;rw[h1];simp only[tryRecover,h2,hm];simp[seen,G]
def Dw (P:SJ)(fn:ZP)(K:View->Prop):Ex->Act->View->Prop
 |.normal,a,V|.ret,a,V=>a.defers=[]/\∃v,aN P V (results fn a.tmps) (λx V'=>x=v/\V'=V) (λ_ _=>False)/\K V
 |_,_,_=>False
theorem af5{lv:Bool}{P:SJ}{g:TQ}{fn:ZP}{id:Nat}{ops:Array Tv}{c2:T5}{o:Tv}{cl:Xn}{args:Array SO}{md:U5}{v0:SO}{V:View}{R:U5->View->Prop}
  (hf:P.funcs[g]?=some fn) (hb:fn.body=some (.seq (.region id ops false) c2)) (ho:ops[0]?=some o) (hg:o.guard=none) (au:o.op=.call cl) (aX:cl.callee=.builtin .recover)
  (pU:md=.panicking [{v:=v0,recovered:=false}]\/(md=.returning/\v0=.nilIface))
  (h:dh lv P none ops (Ex.then (WP lv P none c2 (Dw P fn (R .returning))) (Dw P fn (R .returning))) (Ua 1 (ops.size-1)) (({tmps:=args++TL (fn.ntmps-args.size) undef,defers:=[]}:Act).put o.dst v0) V):yf lv P g args md V R:=by
 intro main J C fr cs lZ hR;let b:T9:={(default:T9)with fn:=g,kind:=.deferred,roundOf:=none};have ua:Frame.enter P g args .deferred=on b {tmps:=args++TL (fn.ntmps-args.size) undef,defers:=[]} [.code (.seq (.region id ops false) c2)]:=by
  simp[Frame.enter,on,hf,hb,b]
 rw[ua];have aV:0<ops.size:=(SR.1 ho).1;have KC:S0 ops.size=0::Ua 1 (ops.size-1):=by
  rw[Vm];obtain⟨n,hn⟩:∃n,ops.size=n+1:=⟨ops.size-1,by omega⟩;rw[hn,VN];rfl
 refine C.idle rfl (λ_=>abD) (C.idle rfl (λ_=>abC) ?_);rw[KC];have fin:∀(c:T9),qF c.mode=.returning->{c with mode:=qF c.mode}={fr with mode:=.returning}->∀e a' V',Dw P fn (R .returning) e a' V'->uS J b [] (c::cs) e a' V':=by
  intro c hc vB e a' V' q;cases e with
  |normal=>
   obtain⟨hd,v,hs,hr⟩:=q;refine C.idle rfl (λw=>CX rfl) (aad (f:=g) (v:=v) C ⟨rfl,hd,rfl,fn,hf,rfl,hs⟩ ?_);rw[vB];exact hR _ _ hr
  |ret=>
   obtain⟨hd,v,hs,hr⟩:=q;intro k;refine C.idle rfl (λw=>CY rfl) (aad (f:=g) (v:=v) C ⟨rfl,hd,rfl,fn,hf,rfl,hs⟩ ?_);rw[vB];exact hR _ _ hr
  |_=>exact q.elim
 have run:∀(c:T9),qF c.mode=.returning->{c with mode:=qF c.mode}={fr with mode:=.returning}->J V (G (on b (({tmps:=args++TL (fn.ntmps-args.size) undef,defers:=[]}:Act).put o.dst v0) (.inRegion ops (Ua 1 (ops.size-1))::[.code c2])) (c::cs)):=by
  intro c hc vB;refine wp_ops _ _ V h main J C b [.code c2] (c::cs) (by show YK≠U2;decide) rfl λe a' V' q=> ?_;cases e with
  |normal=>exact q main J C b [] (c::cs) (by show YK≠U2;decide) rfl λe b9 aR q'=>fin c hc vB e b9 aR q'
  |ret=>exact fin c hc vB .ret a' V' q
  |panic ch=>exact q.elim
  |exit i=>exact q.elim
  |goto i=>exact q.elim
 rcases pU with pU|⟨pU,hv⟩
 ·refine C.idle rfl (λw=>ao9 ho hg au aX rfl rfl (by rw[lZ,pU])) ?_;exact run {fr with mode:=.panicking [{v:=v0,recovered:=true}]} rfl rfl
 ·refine C.idle rfl (λw=>apa ho hg au aX rfl rfl (by rw[lZ,pU])) ?_;subst hv;have ju:fr.mode=.returning:=by rw[lZ,pU]
  exact run fr (by rw[ju];rfl) (by rw[ju];rfl)
section
variable {lv:Bool}{P:SJ}
theorem MC{g:TQ}{args:Array SO}{V:View}{K:Next->View->Prop}{Kp:SO->View->Prop}(hg:qq P g=true)(h:K (.enter g args) V):aN P V (callFunc g args) K Kp:=by
 unfold callFunc;refine az (qh (cF ?_));unfold qq at hg;split at hg
 ·rename_i fn xn;simp only[Tc,TV]at hg;rw[xn];dsimp only;have xf:fn.body.isNone=false:=by
   have h1:=hg.1;cases hb:fn.body with
   |none=>rw[hb]at h1;cases h1
   |some _=>rfl
  rw[if_neg (by rw[hg.2];simp),if_neg (by rw[xf];simp)];exact aq h
 ·cases hg
theorem AZ{E:Env}{V:View}{H:List aa}{args:List AV}{vs:Array SO}{nt:Nat}(hc:Conc E V H)(hd:cG E args vs)(cK:args.length<=nt):At E V ⟨bk 0 args,H⟩ {tmps:=vs++TL (nt-vs.size) undef,defers:=[]} nt:=by
 have aV:(vs++TL (nt-vs.size) undef).size=nt:=by simp[hd.1];omega
 refine⟨hc,λq a e=> ?_,aV⟩;obtain⟨_,e⟩:=LK args 0 q a e;simp only[ZU]at e;have hq:q<args.length:=(SM.1 e).1;have sM:q<vs.size:=by rw[hd.1];exact hq
 refine⟨by rw[aV];omega,?_⟩;have:=hd.2 q a e;rw[SI,X9 sM];rwa [SI]at this
def ye (E:Env)(c:AV×List AV)(d:UV):Prop:=∃f first cQ fa ca vs,c.1=.fn (.func f) first cQ/\d=⟨.fn (.func f) ca,fa++vs⟩/\cG E first fa/\cG E cQ ca/\cG E c.2 vs
theorem ye.mono{E E':Env}(h:E.Le E'){c:AV×List AV}{d:UV}(k:ye E c d):ye E' c d:=by
 obtain⟨f,first,cQ,fa,ca,vs,h1,h2,h3,h4,h5⟩:=k;exact⟨f,first,cQ,fa,ca,vs,h1,h2,h3.mono h,h4.mono h,h5.mono h⟩
def Nr (E:Env):Option AV->U5->Prop
 |none,md=>md=.returning
 |some pv,md=>∃v,md=.panicking [{v,recovered:=false}]/\ap E pv v
def qt (lv:Bool)(P:SJ)(c:AV×List AV)(H:List aa)(m:Option AV)(kr kp:List aa->Prop):Prop:=
 ∀(E:Env)(V:View)(d:UV)(md:U5),Conc E V H->ye E c d->Nr E m md->aN P V (invoke d.target d.args) (λnx V'=>∃g args,nx=.enter g args/\yf lv P g args md V' λnF aR=>∃E' H',E.Le E'/\aR.role=V.role/\aR.deaf=V.deaf/\Conc E' aR H'/\((nF=.returning/\kr H')\/(nF=md/\m.isSome=true/\kp H'))) (λ_ _=>False)
def Aq (n0:Nat)(kr:List aa->Prop):an->AS->Prop
 |.normal,s|.ret,s=>kr s.H\/∃H' G,s.H=H'++G/\n0<=H'.length/\bM H'/\kr H'
 |_,_=>False
theorem Aq.out{n0:Nat}{E0 E:Env}{V':View}{H:List aa}{kr:List aa->Prop}(h:kr H\/∃H' G,H=H'++G/\n0<=H'.length/\bM H'/\kr H')(hc:Conc E V' H)(hle:E0.Le E)(hn:E0.n=n0):∃E' H',E0.Le E'/\Conc E' V' H'/\kr H':=by
 rcases h with h|⟨H',G,rfl,h1,h2,h3⟩
 ·exact⟨E,H,hle,hc,h⟩
 ·exact⟨{E with n:=H'.length},H',Db h1 (by rw[hc.n];simp) hle hn,hc.trim h2,h3⟩
theorem results_none{fn:ZP}{tmps:Array SO}{V:View}(hr:fn.results=#[]):aN P V (results fn tmps) (λx V'=>x=.tuple #[]/\V'=V) (λ_ _=>False):=by
 unfold results;rw[show fn.results=([]:List UM).toArray from hr,XX];refine az ?_;refine az ?_;rw[Uz];refine aq (aq (aq ⟨?_,rfl⟩));simp
theorem af4{g:TQ}{fn:ZP}{id nt:Nat}{ops:Array Tv}{c2:T5}{o:Tv}{cl:Xn}{first cQ aD:List AV}{H:List aa}{m:Option AV}{kr kp:List aa->Prop}
  (hg:qq P g=true) (hf:P.funcs[g]?=some fn) (hb:fn.body=some (.seq (.region id ops false) c2)) (hr:fn.results=#[]) (hn:fn.ntmps=nt) (ho:ops[0]?=some o) (sD:o.guard=none) (au:o.op=.call cl) (aX:cl.callee=.builtin .recover) (dj:jL nt ops=true) (cK:(first++aD++cQ).length<=nt)
  (h:ie lv P ops (ops.toList.drop 1) ((⟨bk 0 (first++aD++cQ),H⟩:AS).put o.dst (m.getD (.val .nilIface))) (λs'=>aU lv P none nt c2 s' (Aq H.length kr)) (λ_ _=>False)):qt lv P (.fn (.func g) first cQ,aD) H m kr kp:=by
 intro E V d md hc hd pU;obtain⟨f,asu,asq,fa,ca,vs,h1,rfl,h3,h4,h5⟩:=hd;cases h1;unfold invoke;dsimp only;refine MC hg ⟨g,_,rfl,?_⟩;obtain⟨v0,hv,aj3⟩:∃v0,ap E (m.getD (.val .nilIface)) v0/\(md=.panicking [{v:=v0,recovered:=false}]\/(md=.returning/\v0=.nilIface)):=by
  cases m with
  |none=>exact⟨.nilIface,.val _,.inr ⟨pU,rfl⟩⟩
  |some pv=>obtain⟨v,e,hv⟩:=pU;exact⟨v,hv,.inl e⟩
 refine af5 hf hb ho sD au aX aj3 ?_;have ah:=AZ (nt:=nt) hc (A9 (A9 h3 h5) h4) cK;rw[hn];have aV:0<ops.size:=(SR.1 ho).1;have fA:o∈ops:=WZ ho;have aS:At E V ((⟨bk 0 (first++aD++cQ),H⟩:AS).put o.dst (m.getD (.val .nilIface))) (({tmps:=fa++vs++ca++TL (nt-(fa++vs++ca).size) undef,defers:=[]}:Act).put o.dst v0) nt:=
  ⟨by rw[fe];exact ah.bm,ah.tok.gN (λd e=>by rw[ah.size];exact(jL.out dj fA).1 d e) hv,(dX _ _ _).trans ah.size⟩
 refine zN (r:=none) (Φ:=λe s'=>match e with
  |.normal=>aU lv P none nt c2 s' (Aq H.length kr)
  |_=>False) (λo ho d e=>(jL.out dj ho).1 d e) (λ_ _=> .inl rfl) (ops.size-1) 1 _ (by omega) h E V _ _ aS λae e E' V' a' s' hk aja he hΦ=> ?_
 cases ae<;>cases e<;>first
  |exact he.elim
  |exact hΦ.elim
  |skip
 refine hΦ E' V' a' _ aja λae e bO aR b9 dg aI dc j4 sS=> ?_;have fin:(kr dg.H\/∃H' G,dg.H=H'++G/\H.length<=H'.length/\bM H'/\kr H')->Dw P fn (λaR=>∃E' H',E.Le E'/\aR.role=V.role/\aR.deaf=V.deaf/\Conc E' aR H'/\((Yp=.returning/\kr H')\/(Yp=md/\m.isSome=true/\kp H'))) .ret b9 aR:=λsS=>by
  obtain⟨E3,H',q1,q2,q3⟩:=Aq.out (E0:=E) sS dc.bm (hk.le.trans aI.le) hc.n;have bw:b9.defers=[]:=by rw[aI.defers,hk.defers];exact put_defers _ _ _
  exact⟨bw,_,results_none hr,E3,H',q1,aI.role.trans hk.role,aI.deaf.trans hk.deaf,q2,.inl ⟨rfl,q3⟩⟩
 cases ae<;>cases e<;>first
  |exact j4.elim
  |exact sS.elim
  |exact fin sS
theorem OA{g:TQ}{fn:ZP}{id nt:Nat}{ops:Array Tv}{c2:T5}{o:Tv}{l:List Tv}{d0:Option Nat}{cl:Xn}{first cQ aD:List AV}{H:List aa}{m:Option AV}{kr kp:List aa->Prop}
  (hg:qq P g=true) (hf:P.funcs[g]?=some fn) (hb:fn.body=some (.seq (.region id ops false) c2)) (hr:fn.results=#[]) (hn:fn.ntmps=nt) (hl:ops.toList=o::l) (sD:o.guard=none) (aQ:o.dst=d0) (au:o.op=.call cl) (aX:cl.callee=.builtin .recover) (dj:jL nt ops=true) (cK:(first++aD++cQ).length<=nt)
  (h:ie lv P ops l ((⟨bk 0 (first++aD++cQ),H⟩:AS).put d0 (m.getD (.val .nilIface))) (λs'=>aU lv P none nt c2 s' (Aq H.length kr)) (λ_ _=>False)):qt lv P (.fn (.func g) first cQ,aD) H m kr kp:=by
 subst aQ;refine af4 hg hf hb hr hn (o:=o) (cl:=cl) ?_ sD au aX dj cK (by rw[hl];simpa using h);have:ops.toList[0]?=some o:=by rw[hl];rfl
 simpa using this
end
section
variable {lv:Bool}{P:SJ}{r:Option Nat}{s:AS}
theorem Gi{nt:Nat}{all:Array Tv}{Φ:an->AS->Prop}(dj:∀o∈all,∀d,o.dst=some d->d<nt)(nj:r=none):∀(n k:Nat)(s:AS),k+n<=all.size->ie lv P all ((all.toList.drop k).take n) s (Φ .normal) (λpv s=>Φ (.panic pv) s)->
  ∀(E:Env)(V:View)(a:Act)(Q:Ex->Act->View->Prop),At E V s a nt->(∀ae e E' V' a' s',Kept E E' V V' a a'->At E' V' s' a' nt->pt E' ae e->Φ ae s'->Q e a' V')->dh lv P r all Q (Ua k n) a V
 |0,k,s,hk,h,E,V,a,Q,ah,hQ=>by
  rw[ai']at h;exact hQ .normal .normal E V a s (Kept.refl E V a) ah trivial h
 |n+1,k,s,hk,h,E,V,a,Q,ah,hQ=>by
  have hlt:k<all.size:=by omega
  have hd:all.toList.drop k=all[k]::all.toList.drop (k+1):=by
   rw[TW (by simpa using hlt)];simp
  rw[hd,VQ]at h;have fA:all[k]∈all:=XS hlt;have ho:all[k]?=some all[k]:=SK hlt;simp only[VN,dh,ho];have go:∀s:AS,At E V s a nt->ml lv P s all[k] (λs'=>ie lv P all ((all.toList.drop (k+1)).take n) s' (Φ .normal) (λpv s=>Φ (.panic pv) s)) (λpv s=>Φ (.panic pv) s)->wC lv P r all[k] a V (dh lv P r all Q (Ua (k+1) n)) Q:=λs ah h=>by
   refine h.sound (lv:=lv) (r:=r) E V a _ Q ah.bm ah.tok (λd e=>by rw[ah.size];exact dj _ fA d e) (.inl nj) (λE' V' a' s' aI bh l7 hn=> ?_) (λE' V' s' pv v aI bh l7 bi hb=> ?_)
   ·exact Gi dj nj n (k+1) s' (by omega) hn E' V' a' Q ⟨bh,l7,aI.size.trans ah.size⟩ (λae e bO aR b9 dg fN dc he hΦ=>hQ ae e bO aR b9 dg (aI.trans fN) dc he hΦ)
   ·exact hQ (.panic pv) (.panic _) E' V' a s' aI ⟨bh,l7,ah.size⟩ ⟨v,rfl,bi⟩ hb
  simp only[ie]at h;split at h
  ·rename_i hg;have hw:Th all[k] (yielded all a.tmps)=true:=(by unfold Th;rw[hg]);rw[if_pos hw];exact .inl (go s ah h)
  ·rename_i j bU hg;obtain⟨d,gf,h⟩:=h.out;obtain⟨av,h1,h⟩:=h.out;obtain⟨b,rfl,h2,h3⟩:=AX h;have hv:=(ah.tok d _ h1).2;have hy:yielded all a.tmps j=some b:=by
    obtain⟨oj,kz,iW⟩:=Tf.1 gf;generalize hx:a.tmps.getD d undef=x at hv;cases hv;have l5:d<a.tmps.size:=(ah.tok d _ h1).1;rw[SI,SK l5]at hx;simp only[S9]at hx;simp[yielded,kz,iW,SK l5,hx]
   have rq:∀b',b=b'->At E V ⟨(d,.val (.bool b'))::s.T,s.H⟩ a nt:=λb' dB=>by
    subst dB;refine⟨ah.bm,λt x e=> ?_,ah.size⟩;simp only[look]at e;split at e
    ·rename_i e';subst e';cases e;exact ah.tok d _ h1
    ·exact ah.tok t x e
   by_cases hb:b=bU
   ·have hw:Th all[k] (yielded all a.tmps)=true:=(by unfold Th;rw[hg];simp[hy,hb]);rw[if_pos hw];exact .inl (go _ (rq bU hb) (h2 hb))
   ·have hw:¬Th all[k] (yielded all a.tmps)=true:=(by unfold Th;rw[hg];simp[hy,hb]);rw[if_neg hw];have dB:b= !bU:=(by cases b<;>cases bU<;>simp_all);have vo:=h3 dB;have ah:=rq _ dB;exact Gi dj nj n (k+1) ((⟨(d,.val (.bool !bU))::s.T,s.H⟩:AS).put all[k].dst (.val undef)) (by omega) vo E V (a.put all[k].dst undef) Q
     ⟨by rw[fe];exact ah.bm,ah.tok.gN (λd e=>by rw[ah.size];exact dj _ fA d e) (.val undef),by rw[dX];exact ah.size⟩
     (λae e bO aR b9 dg fN dc he hΦ=>hQ ae e bO aR b9 dg ⟨fN.le,fN.size.trans (dX _ _ _),fN.defers.trans (put_defers _ _ _),fN.role,fN.deaf⟩ dc he hΦ)
theorem mu.mono{o:Tv}{a:Act}{N N':Act->View->Prop}{Q Q':Ex->Act->View->Prop}(hN:∀a V,N a V->N' a V)(hQ:∀ch a V,Q (.panic ch) a V->Q' (.panic ch) a V){nx:Next}{V:View}(h:mu lv P r o a N Q nx V):mu lv P r o a N' Q' nx V:=by
 cases nx with
 |value v=>exact hN _ _ h
 |skip=>exact hN _ _ h
 | «defer» d => exact ⟨h.1, hN _ _ h.2⟩
 |enter f args=>
  refine Body.mono (R:=fun
   |.ret v,V'=>N (a.put o.dst v) V'
   |.panic ch,V'=>Q (.panic ch) a V') (R':=fun
   |.ret v,V'=>N' (a.put o.dst v) V'
   |.panic ch,V'=>Q' (.panic ch) a V') h λot V' h=> ?_
  cases ot
  ·exact hN _ _ h
  ·exact hQ _ _ _ h
 |round l f tmps aD b=>
  refine mT.mono (R:=fun
   |.ret v,V'=>N (a.put o.dst v) V'
   |.panic ch,V'=>Q (.panic ch) a V') (R':=fun
   |.ret v,V'=>N' (a.put o.dst v) V'
   |.panic ch,V'=>Q' (.panic ch) a V') h λot V' h=> ?_
  cases ot
  ·exact hN _ _ h
  ·exact hQ _ _ _ h
 |_=>exact h.elim
theorem Aj{ops:Array Tv}{Q:Ex->Act->View->Prop}{l2:List Nat}:∀(l1:List Nat)(a:Act)(V:View),dh lv P r ops (Ex.then (dh lv P r ops Q l2) Q) l1 a V->dh lv P r ops Q (l1++l2) a V
 |[],a,V,h=>h
 |i::l1,a,V,h=>by
  simp only[VA,dh]at h⊢;cases ho:ops[i]?with
  |none=>rw[ho]at h;exact Aj l1 a V h
  |some o=>
   rw[ho]at h;dsimp only at h⊢;split at h
   ·rename_i hw;rw[if_pos hw];rcases h with h|h
    rotate_left
    ·exact .inr (h.mono λa V h=>Aj l1 a V h)
    obtain⟨h1,h2⟩:=h;exact .inl ⟨h1,h2.mono (λnx V' h=>mu.mono (λa V h=>Aj l1 a V h) (λ_ _ _ h=>h) h) λ_ _ h=>h⟩
   ·rename_i hw;rw[if_neg hw];exact Aj l1 _ V h
def wx (E:Env):List (AV×List AV)->List UV->Prop
 |[],[]=>True
 |c::ds,d::l=>ye E c d/\wx E ds l
 |_,_=>False
theorem wx.mono{E E':Env}(h:E.Le E'):∀{ds:List (AV×List AV)}{l:List UV},wx E ds l->wx E' ds l
 |[],[],_=>trivial
 |_::_,_::_,k=>⟨k.1.mono h,wx.mono h k.2⟩
 |[],_::_,k=>k.elim
 |_::_,[],k=>k.elim
structure qw (E E':Env)(V V':View)(a a':Act):Prop where
 le:E.Le E'
 size:a'.tmps.size=a.tmps.size
 role:V'.role=V.role
 deaf:V'.deaf=V.deaf
theorem qw.trans{E E' bO:Env}{V V' aR:View}{a a' b9:Act}(h:qw E E' V V' a a')(k:qw E' bO V' aR a' b9):qw E bO V aR a b9:=⟨h.le.trans k.le,k.size.trans h.size,k.role.trans h.role,k.deaf.trans h.deaf⟩
theorem Kept.d{E E':Env}{V V':View}{a a':Act}(h:Kept E E' V V' a a'):qw E E' V V' a a':=⟨h.le,h.size,h.role,h.deaf⟩
def Al (lv:Bool)(P:SJ)(nt:Nat)(c:T5)(s:AS)(ds:List (AV×List AV))(Φ:an->AS->List (AV×List AV)->Prop):Prop:=
 ∀(E:Env)(V:View)(a:Act)(Q:Ex->Act->View->Prop),At E V s a nt->wx E ds a.defers->(∀ae e E' V' a' s' na,qw E E' V V' a a'->At E' V' s' a' nt->wx E' na a'.defers->pt E' ae e->Φ ae s' na->Q e a' V')->WP lv P none c Q a V
def an.wl (next:AS->List (AV×List AV)->Prop)(Φ:an->AS->List (AV×List AV)->Prop):an->AS->List (AV×List AV)->Prop
 |.normal,s,ds=>next s ds
 |e,s,ds=>Φ e s ds
theorem ae1{nt id n:Nat}{ops:Array Tv}{o:Tv}{c:Xn}{x:Ti}{ds:List (AV×List AV)}{Φ:an->AS->List (AV×List AV)->Prop}(hn:ops.size=n+1)(ho:ops[n]?=some o)(hg:o.guard=none)(au:o.op=.defer c)(aX:c.callee=.value x)
  (dj:(ops.all λo=>o.dst.all (·<nt))=true)
  (h:ie lv P ops (ops.toList.take n) s (λs'=>ao (s'.ev x) λf=>ao (e9 s' c.args.toList) λaD=>(∃g first cQ,f=.fn (.func g) first cQ)/\Φ .normal (s'.put o.dst (.val undef)) ((f,aD)::ds)) (λpv s'=>Φ (.panic pv) s' ds)):Al lv P nt (.region id ops false) s ds Φ:=by
 intro E V a Q ah hd hQ;refine wp_region ?_;have hr:S0 ops.size=Ua 0 n++[n]:=by
  have:=Y4 (s:=0) (m:=n) (n:=1);rw[Vm,hn,<- this];simp
 rw[hr];have QC:∀o∈ops,∀d,o.dst=some d->d<nt:=λo ho d e=>by
  have:=(UD.1 dj) o ho;rw[e]at this;simpa using this
 refine Aj _ _ _ (Gi (r:=none) (Φ:=λe s'=>match e with
  |.normal=>ao (s'.ev x) λf=>ao (e9 s' c.args.toList) λaD=>(∃g first cQ,f=.fn (.func g) first cQ)/\Φ .normal (s'.put o.dst (.val undef)) ((f,aD)::ds)
  |e=>Φ e s' ds) QC rfl n 0 s (by omega) (by simpa using h) E V a _ ah λae e E' V' a' s' hk aS he hΦ=> ?_)
 cases ae<;>cases e<;>first
  |exact he.elim
  |exact hQ _ _ E' V' a' s' ds hk.d aS (by rw[hk.defers];exact hd.mono hk.le) he hΦ
  |skip
 obtain⟨f,h1,hA⟩:=ao.out hΦ;obtain⟨aD,h2,⟨g,first,cQ,rfl⟩,hB⟩:=hA.out;simp only[Ex.then,dh,ho];rw[if_pos (by unfold Th;rw[hg])];refine .inl ⟨.inl rfl,?_⟩;unfold execOp;rw[au];dsimp only;unfold resolve;rw[aX];dsimp only;have bw:=ap.ev aS.tok h1;generalize cm:a'.eval x=cv at bw;cases bw with
 |fn dF fP q1 q2=>
  rename_i fa ca;unfold U0;refine az (aq (aq ?_));refine⟨rfl,?_⟩;have fA:o∈ops:=WZ ho;have e:c.args.map a'.eval=(c.args.toList.map a'.eval).toArray:=by apply Vz;simp
  refine hQ .normal .normal E' V' _ (s'.put o.dst (.val undef)) ((.fn (.func g) first cQ,aD)::ds) ⟨hk.le,(dX _ _ _).trans hk.size,hk.role,hk.deaf⟩ ⟨by rw[fe];exact aS.bm,aS.tok.gN (a:={a' with defers:=⟨.fn (.func g) ca,fa++c.args.map a'.eval⟩::a'.defers}) (λd e=>by rw[aS.size];exact QC o fA d e) (.val _),(dX _ _ _).trans aS.size⟩ ?_ trivial hB;rw[put_defers];refine⟨⟨g,first,cQ,fa,ca,_,rfl,rfl,⟨dF,q1⟩,⟨fP,q2⟩,?_⟩,by rw[hk.defers];exact hd.mono hk.le⟩;rw[e];exact yJ aS.tok h2
theorem N1{nt id n:Nat}{ops:Array Tv}{o:Tv}{c:Xn}{x:Ti}{ds:List (AV×List AV)}{Φ:an->AS->List (AV×List AV)->Prop}(hn:ops.size=n+1)(ho:ops[n]?=some o)(hg:o.guard=none)(aQ:o.dst=none)(au:o.op=.defer c)(aX:c.callee=.value x)
  (dj:(ops.all λo=>o.dst.all (·<nt))=true)
  (h:ie lv P ops (ops.toList.take n) s (λs'=>ao (s'.ev x) λf=>ao (e9 s' c.args.toList) λaD=>(∃g first cQ,f=.fn (.func g) first cQ)/\Φ .normal s' ((f,aD)::ds)) (λpv s'=>Φ (.panic pv) s' ds)):Al lv P nt (.region id ops false) s ds Φ:=by
 refine ae1 hn ho hg au aX dj ?_;rw[aQ];exact h
end
section
variable {lv:Bool}{P:SJ}
theorem abv{rs:List UM}{fn:ZP}{n nt:Nat}{k kp:AV->List aa->Prop}{E E':Env}{V V':View}{s':AS}{a':Act}(hr:fn.results=rs.toArray)(ah:At E' V' s' a' nt)(hle:E.Le E')(hn:E.n=n)(bX:V'.role=V.role)(eT:V'.deaf=V.deaf)(hΦ:ao (gO P s' rs) λl=>cD n s'.H (iN l) k):
  ∃v,aN P V' (results fn a'.tmps) (λx aR=>x=v/\aR=V') (λ_ _=>False)/\gI E V k kp (.ret v) V':=by
 obtain⟨l,h1,h2⟩:=hΦ.out;have gn:∃v,ap E' (iN l) v/\aN P V' (results fn a'.tmps) (λx aR=>x=v/\aR=V') (λ_ _=>False):=by
  obtain⟨vs,hl,lJ,xy⟩:=Gz ah rs l h1;refine⟨if h:vs.length=1 then vs[0]else .tuple vs.toArray,?_,?_⟩
  ·match l,vs,hl,lJ with
   |[x],[v],_,lJ=>exact lJ 0 x rfl
   |[],[],_,lJ=>exact .aK rfl (by simp)
   |x::y::l,v::w::vs,hl,lJ=>exact .aK (by simpa using hl) (λi z hz=>by simpa[SI,SF]using lJ i z hz)
  ·unfold results;rw[hr,XX];refine az ?_;refine az (xy ?_);refine aq (aq ⟨?_,rfl⟩);simp
 obtain⟨v,bi,p7⟩:=gn;obtain⟨b,bO,H',q1,q2,q3,q4⟩:=wU h2 ah.bm bi hle hn;exact⟨v,p7,b,bO,H',q1,bX,eT,q2,q3,q4⟩
def yj (lv:Bool)(P:SJ)(rs:List UM)(n:Nat)(k kp:AV->List aa->Prop):an->AS->List (AV×List AV)->Prop
 |.normal,s,[]|.ret,s,[]=>ao (gO P s rs) λl=>cD n s.H (iN l) k
 |.panic pv,s,[]=>cD n s.H pv kp
 |.normal,s,[c]|.ret,s,[c]=>qt lv P c s.H none (λH'=>ao (gO P ⟨s.T,H'⟩ rs) λl=>cD n H' (iN l) k) (λ_=>False)
 |.panic pv,s,[c]=>qt lv P c s.H (some pv) (λH'=>ao (gO P ⟨s.T,H'⟩ rs) λl=>cD n H' (iN l) k) (λH'=>cD n H' pv kp)
 |_,_,_=>False
theorem yf.mono{g:TQ}{args:Array SO}{md:U5}{V:View}{R R':U5->View->Prop}(h:yf lv P g args md V R)(hr:∀m V,R m V->R' m V):yf lv P g args md V R':=λmain J C fr cs hm hR=>h main J C fr cs hm λnF V' r=>hR nF V' (hr _ _ r)
@[congr] theorem ash {nt : Nat} {c : T5} {s s' : AS} {ds na : List (AV × List AV)} {Φ : an -> AS -> List (AV × List AV) -> Prop} (h : s = s') (hd : ds = na) : Al lv P nt c s ds Φ = Al lv P nt c s' na Φ := by rw [h, hd]
theorem aqG(K:AS->List (AV×List AV)->Prop)(Φ:an->AS->List (AV×List AV)->Prop)(s:AS)(ds:List (AV×List AV)):an.wl K Φ .normal s ds=K s ds:=by rw[an.wl]
theorem aqI(K:AS->List (AV×List AV)->Prop)(Φ:an->AS->List (AV×List AV)->Prop)(s:AS)(ds:List (AV×List AV)):an.wl K Φ .ret s ds=Φ .ret s ds:=by rw[an.wl];simp
theorem aqH(K:AS->List (AV×List AV)->Prop)(Φ:an->AS->List (AV×List AV)->Prop)(a:AV)(s:AS)(ds:List (AV×List AV)):an.wl K Φ (.panic a) s ds=Φ (.panic a) s ds:=by rw[an.wl];simp
@[congr] theorem as4 {K : AS -> List (AV × List AV) -> Prop} {Φ : an -> AS -> List (AV × List AV) -> Prop} {e e' : an} {s s' : AS} {ds na : List (AV × List AV)} (he : e = e') (h : s = s') (hd : ds = na) : an.wl K Φ e s ds = an.wl K Φ e' s' na := by rw [he, h, hd]
@[congr] theorem asv {rs : List UM} {n : Nat} {k kp : AV -> List aa -> Prop} {e e' : an} {s s' : AS} {ds na : List (AV × List AV)} (he : e = e') (h : s = s') (hd : ds = na) : yj lv P rs n k kp e s ds = yj lv P rs n k kp e' s' na := by rw [he, h, hd]
theorem aio(rs:List UM)(n:Nat)(k kp:AV->List aa->Prop)(s:AS):yj lv P rs n k kp .ret s []=ao (gO P s rs) λl=>cD n s.H (iN l) k:=by rw[yj]
theorem ain(rs:List UM)(n:Nat)(k kp:AV->List aa->Prop)(s:AS)(pv:AV):yj lv P rs n k kp (.panic pv) s []=cD n s.H pv kp:=by rw[yj]
attribute [seval] aqG aqI aqH aio ain
end
section
variable {P:SJ}
theorem acs{ι:Type}{body:ι->PUnit->Sem (ForInStep PUnit)}:∀(l:List ι),(∀i∈l,cr P (body i ⟨⟩) (.yield ⟨⟩))->cr P (forIn l ⟨⟩ body) ⟨⟩
 |[],_=>by simpa using h_ PUnit.unit
 |i::l,h=>by
  rw[WX];exact lj (h i (TC ..)) (acs l λj hj=>h j (Tb _ hj))
theorem aqs{t:TypeId}{k0 k:TU}{d:Nat}{b:Bool}{x:Int}(h:P.underlying t=some (.int k0)):cr P (U_ b (d+1) t (.int k x)) ():=by
 rw[U_];exact wj h (h_ _)
theorem acr{t e:TypeId}{k0 k:TU}{n d:Nat}{i:We}{b:Bool}{xs:List Int}(ht:P.underlying t=some (.array n e))(he:P.underlying e=some (.int k0))(hi:P.info? e=some i)(hs:i.size=1)(hx:xs.length=n):
  cr P (U_ b (d+2) t (.agg (xs.map (SG k)).toArray)) ():=by
 rw[U_];refine wj ht ?_;dsimp only;simp only[Wt,Xq];refine lj (a:=⟨⟩) ?_ (h_ _);refine acs _ λj hj=> ?_;have hn:(n-0+1-1)/1=n:=by simp
 have oS:j<n:=by rw[hn]at hj;simp[XV]at hj;omega
 have gx:xs[j]?=some (xs[j]'(by omega)):=SV _;refine MS hi ?_;rw[hs,Ya];refine C8 he rfl (v:=.int k (xs[j]'(by omega))) (by simp[gx]) ?_;exact lj (aqs he) (h_ _)
def eo (x:List Int×Nat):Wh:={key:=.agg (x.1.map (SG .i64)).toArray,val:=.bool true,born:=x.2}
def pF (x:List Int):List (List Int×Nat)->Nat->Option (Nat×SO)
 |[],_=>none
 |y::ts,i=>if x==y.1 then some (i,.bool true)else pF x ts (i+1)
theorem acv{t e:TypeId}{k0:TU}{n:Nat}{i:We}{x:List Int}(ht:P.underlying t=some (.array n e))(he:P.underlying e=some (.int k0))(hi:P.info? e=some i)(hs:i.size=1)(hx:x.length=n):∀(ts:List (List Int×Nat))(j:Nat),(∀y∈ts,y.1.length=n)->
  cr P (XE t (.agg (x.map (SG .i64)).toArray) (ts.map eo) j) (pF x ts j)
 |[],j,_=>by rw[List.map_nil,XE,pF];exact h_ _
 |y::ts,j,h=>by
  rw[UU,XE,pF];refine lj (acu ht he hi hs hx (h y (TC ..))) ?_;by_cases vU:(x==y.1)=true
  ·rw[if_pos vU,if_pos vU];exact h_ _
  ·rw[if_neg vU,if_neg vU];exact acv ht he hi hs hx ts (j+1) λz hz=>h z (Tb _ hz)
theorem acw{t e:TypeId}{k0:TU}{n:Nat}{i:We}{x:List Int}(ht:P.underlying t=some (.array n e))(he:P.underlying e=some (.int k0))(hi:P.info? e=some i)(hs:i.size=1)(hx:x.length=n){ts:List (List Int×Nat)}(h:∀y∈ts,y.1.length=n):
  cr P (VK t (.agg (x.map (SG .i64)).toArray) (ts.map eo)) (pF x ts 0):=by
 unfold VK;refine wj ht ?_;cases ts with
 |nil=>exact h_ _
 |cons y ts=>
  have e1:Instr.findNow (.array n e) (.agg (x.map (SG .i64)).toArray) ((y::ts).map eo) 0=none:=rfl;rw[e1];exact acv ht he hi hs hx (y::ts) 0 h
theorem Po{x:List Int}:∀{ts:List (List Int×Nat)}{j i:Nat}{v:SO},pF x ts j=some (i,v)->∃b,j<=i/\ts[i-j]?=some (x,b)/\v=.bool true
 |y::ts,j,i,v,h=>by
  rw[pF]at h;split at h
  ·rename_i vU;cases h;obtain⟨y1,b⟩:=y;have:x=y1:=(by simpa using vU);subst this;exact⟨b,SP _,by simp,rfl⟩
  ·obtain⟨b,h1,h2,h3⟩:=Po h;refine⟨b,by omega,?_,h3⟩;have:i-j=(i-(j+1))+1:=(by omega);rw[this,UJ];exact h2
theorem Pn{x:List Int}:∀{ts:List (List Int×Nat)}{j:Nat},pF x ts j=none->∀y∈ts,y.1≠x
 |y::ts,j,h,z,hz=>by
  rw[pF]at h;split at h
  ·cases h
  ·rename_i vU;rcases SL.1 hz with rfl|hz
   ·intro e;exact vU (by simp[e])
   ·exact Pn h z hz
end
theorem apf(xs:List Int):Wy 10000 (.agg (xs.map (SG .i64)).toArray) (.agg (xs.map (SG .i64)).toArray)=true:=by
 show Wy (9999+1) _ _=true;rw[Wy];simp only[beq_self_eq_true,U8,Tw]
 rintro⟨a,b⟩ h
 have:a=b/\a∈xs.map (SG .i64):=by
  have key:∀l:List SO,(a,b)∈l.zip l->a=b/\a∈l:=by
   intro l;induction l with
   |nil=>intro h;cases h
   |cons x l ih=>
    intro h;rw[List.zip_cons_cons]at h;rcases SL.1 h with h|h
    ·cases h;exact⟨rfl,TC ..⟩
    ·exact⟨(ih h).1,Tb _ (ih h).2⟩
  exact key _ h
 obtain⟨rfl,hm⟩:=this;obtain⟨x,_,rfl⟩:=Tm.1 hm;simp[Wy]
theorem abl(ts:List (List Int×Nat))(ck:Nat)(x:List Int):wb (ts.map eo).toArray ck (.agg (x.map (SG .i64)).toArray) (.bool true) none=.map ((ts++[(x,ck)]).map eo).toArray (ck+1):=by
 simp[wb,eo]
theorem anW{ts:List (List Int×Nat)}{ck i b:Nat}{x:List Int}{v:SO}(h:ts[i]?=some (x,b)):wb (ts.map eo).toArray ck (.agg (x.map (SG .i64)).toArray) (.bool true) (some (i,v))=.map (ts.map eo).toArray ck:=by
 simp only[wb];congr 1;apply Array.ext_getElem?;intro j;rw[Wd];by_cases hj:i=j
 ·subst hj;rw[if_pos rfl];simp[h,eo]
 ·rw[if_neg hj]
theorem am5(xs:List Int):AV.of (.agg (xs.map (SG .i64)).toArray)=.agg (xs.map iv):=by
 simp only[AV.of,XW];congr 1
theorem Oc(ts:List (List Int×Nat))(ck:Nat)(h:∀y∈ts,y.2<ck):((ts.map eo).toArray.all (λe=>decide (e.born>=ck))=false\/(ts.map eo).toArray.isEmpty=true):=by
 cases ts with
 |nil=>right;rfl
 |cons y ts=>
  left;have:=h y (TC ..);simp[eo];omega
theorem CK{α β:Type}(f:α->β):∀{l:List α},(l.map f).Nodup->l.Nodup
 |[],_=>WJ
 |x::l,h=>by
  rw[UU,VO]at h;exact VO.2 ⟨λhm=>h.1 (Tm.2 ⟨x,hm,rfl⟩),CK f h.2⟩
theorem abG{ts vs:List (List Int×Nat)}(hv:(vs.map (·.2)).Nodup)(ht:(ts.map (·.2)).Nodup)(lG:∀y∈vs,y∈ts)(fy:∀y∈ts,y.2∈vs.map (·.2)):vs.Perm ts:=by
 have xF:vs.Nodup:=CK _ hv;have l7:ts.Nodup:=CK _ ht;refine(List.perm_ext_iff_of_nodup xF l7).2 λy=>⟨lG y,λhy=> ?_⟩;obtain⟨z,hz,e⟩:=Tm.1 (fy y hy);have K3:=lG z hz;have:∀(l:List (List Int×Nat)),(l.map (·.2)).Nodup->z∈l->y∈l->z=y:=by
  intro l;induction l with
  |nil=>intro _ h;cases h
  |cons x l ih=>
   intro hn h1 h2;rw[UU,VO]at hn;rcases SL.1 h1 with e1|I9
   ·rcases SL.1 h2 with e2|yO
    ·rw[e1,e2]
    ·exact absurd (show x.2∈l.map (·.2)from Tm.2 ⟨y,yO,by rw[<- e1];exact e.symm⟩) hn.1
   ·rcases SL.1 h2 with e2|yO
    ·exact absurd (show x.2∈l.map (·.2)from Tm.2 ⟨z,I9,by rw[<- e2];exact e⟩) hn.1
    ·exact ih hn.2 I9 yO
 rw[<- this ts ht K3 hy];exact hz
theorem Pq{y:List Int×Nat}:∀{ts:List (List Int×Nat)},(ts.map (·.2)).Nodup->y∈ts->(ts.map eo).toArray.find? (λe=>e.born==y.2)=some (eo y):=by
 intro ts hn hy;rw[List.find?_toArray];induction ts with
 |nil=>cases hy
 |cons z ts ih=>
  rw[UU,VO]at hn;rw[UU];by_cases h:z.2=y.2
  ·rw[List.find?_cons_of_pos (by simp[eo,h])];rcases SL.1 hy with e|o5
   ·rw[e]
   ·exact absurd (show z.2∈ts.map (·.2)from Tm.2 ⟨y,o5,h.symm⟩) hn.1
  ·rw[List.find?_cons_of_neg (by simp[eo,h])];rcases SL.1 hy with e|o5
   ·exact absurd (by rw[e]) h
   ·exact ih hn.2 o5
theorem aaY(y:List Int×Nat):AV.of (eo y).key=.agg (y.1.map iv):=am5 y.1
section
variable {lv:Bool}{P:SJ}
theorem apk{l:Nat}{r:ap_}{V:View}(ho:V.own l=some (.loop r))(hs:r.state=.ready)(hc:V.role.chan≠some l):aN P V (do XF l;pure Next.skip) (λnx V'=>nx=.skip/\V'=V.upd l (.loop {r with state:=.busy})) (λ_ _=>False):=by
 unfold XF WG;refine az (az (az ?_));unfold getObj;refine nJ ho rfl rfl hc (cF ?_);dsimp only;refine aq ?_;refine az ?_;unfold setObj;refine x8 ho rfl rfl hc (cF ?_);rw[hs];exact aq (aq ⟨rfl,rfl⟩)
theorem apo{l:Nat}{r:ap_}{V:View}(o6:Option T5)(ho:V.own l=some (.loop r))(hc:V.role.chan≠some l):aN P V (W2 l o6) (λv V'=>v=.bool o6.isNone/\V'=V.upd l (.loop {r with state:=if o6.isNone then .ready else .done,pending:=o6})) (λ_ _=>False):=by
 unfold W2 WG;refine az (az ?_);unfold getObj;refine nJ ho rfl rfl hc (cF ?_);dsimp only;refine aq ?_;refine az ?_;unfold setObj;refine x8 ho rfl rfl hc (cF ?_);exact aq ⟨rfl,rfl⟩
theorem apn{l:Nat}{r:ap_}{V:View}(ho:V.own l=some (.loop r))(hs:r.state≠ .busy)(hc:V.role.chan≠some l):aN P V (ZI l) (λv V'=>v=r.pending/\V'=V.upd l (.loop {r with state:=.exhausted})) (λ_ _=>False):=by
 unfold ZI WG;refine az (az ?_);unfold getObj;refine nJ ho rfl rfl hc (cF ?_);dsimp only;refine aq ?_;have:(r.state==apT)=false:=by simpa using hs
 rw[if_neg (by rw[this];simp)];refine az ?_;unfold setObj;refine x8 ho rfl rfl hc (cF ?_);exact aq ⟨rfl,rfl⟩
theorem apq{fn:TQ}{tmps:Array SO}{ps:Array Tmp}{bJ body:T5}{V:View}:aN P V (WU fn tmps ps bJ body none) (λx V1=>∃d l,V.fresh d/\(V.upd d (.deferred (some []))).fresh l/\x=(l,[{target:=.collected d,args:=#[]}])/\
  V1=(V.upd d (.deferred (some []))).upd l (.loop {state:=.ready,pending:=none,fn,tmps,params:=ps,assign:=bJ,body,defers:=d})) (λ_ _=>False):=by
 unfold WU;dsimp only;refine az ?_;unfold newObj;refine ov λd hd=>cF ?_;refine az (aq ?_);dsimp only;refine az (ov λl hl=>cF (aq ?_));exact⟨d,l,hd,hl,rfl,rfl⟩
theorem MG{d:Nat}{V:View}(ho:V.own d=some (.deferred (some [])))(hc:V.role.chan≠some d):aN P V (Y1 d) (λv V'=>v=[]/\V'=V.upd d (.deferred none)) (λ_ _=>False):=by
 unfold Y1;refine az ?_;unfold getObj;refine nJ ho rfl rfl hc (cF ?_);dsimp only;refine az ?_;unfold setObj;refine x8 ho rfl rfl hc (cF ?_);exact aq ⟨rfl,rfl⟩
def adl (l:Nat)(R:Out->View->Prop):Ex->Act->View->Prop
 |.normal,_,V=>∃r,V.own l=some (.loop r)/\V.role.chan≠some l/\R (.ret (.bool true)) (V.upd l (.loop {r with state:=.ready,pending:=none}))
 |.ret,_,V=>∃r,V.own l=some (.loop r)/\V.role.chan≠some l/\R (.ret (.bool false)) (V.upd l (.loop {r with state:=.done,pending:=some .ret}))
 |.exit i,_,V=>∃r,V.own l=some (.loop r)/\V.role.chan≠some l/\R (.ret (.bool false)) (V.upd l (.loop {r with state:=.done,pending:=some (.exit i)}))
 |.goto i,_,V=>∃r,V.own l=some (.loop r)/\V.role.chan≠some l/\R (.ret (.bool false)) (V.upd l (.loop {r with state:=.done,pending:=some (.goto i)}))
 |.panic ch,a,V=>a.defers=[]/\R (.panic ch) V
def adj (lv:Bool)(P:SJ)(l:Nat)(body:T5)(R:Out->View->Prop):Ex->Act->View->Prop
 |.normal,a,V=>∃r,V.own l=some (.loop r)/\V.role.chan≠some l/\r.state=.ready/\WP lv P (some l) body (adl l R) a (V.upd l (.loop {r with state:=.busy}))
 |_,_,_=>False
theorem ao0{l f:Nat}{tmps:Array SO}{bJ body:T5}{V:View}{R:Out->View->Prop}(h:WP lv P (some l) bJ (adj lv P l body R) {tmps,defers:=[]} V):mT lv P (W6 l f tmps bJ body .normal) V R:=by
 intro main J C c cs h1 h2;let b:T9:={(default:T9)with fn:=f,kind:=.normal,roundOf:=some l};have akK:W6 l f tmps bJ body .normal=on b {tmps,defers:=[]} [.code bJ,.beginRound,.code body]:=rfl;rw[akK];have leave:∀(a:Act)(V':View)(r:ap_)(o6:Option T5)(todo:List WR),V'.own l=some (.loop r)->V'.role.chan≠some l->R (.ret (.bool o6.isNone)) (V'.upd l (.loop {r with state:=if o6.isNone then .ready else .done,pending:=o6}))->
   (∀w,stepG P main (G (on b a todo) (c::cs)) w=T1 (seen P b.fn ((W2 l o6).runT P w #[]).2) (match((W2 l o6).runT P w #[]).1 with
    |.ok v w=>doReturn P main (on b a todo) (c::cs) none v w
    | .halt _ w => .ended (.stuck "range over a function: no such loop" ((on b a todo).pos P)) w)) -> J V' (G (on b a todo) (c :: cs)) := by
  intro a V' r o6 todo ho eS hR aP;refine C.step _ _ rfl λw fq=> ?_;obtain⟨es,w',aR,k1,k2,k3⟩:=(apo (P:=P) o6 ho eS).runs fq;rcases k3 with⟨v,k3,rfl,rfl⟩|⟨_,_,hx⟩
  ·refine⟨G (c.finish (.bool o6.isNone)) cs,w',seen P b.fn es,_,?_,k1.seen P b.fn,h1 _ _ hR⟩;rw[aP w];simp[TB,k3,k2,doReturn,T1,on,b,G]
  ·exact hx.elim
 refine h main J C b [.beginRound,.code body] (c::cs) (by show Y3≠U2;decide) rfl λe a' V' q=> ?_;cases e with
 |normal=>
  obtain⟨r,ho,eS,hs,hw⟩:=q;refine C.step _ _ rfl λw fq=> ?_;obtain⟨es,w',aR,k1,k2,k3⟩:=(apk (P:=P) ho hs eS).runs fq;rcases k3 with⟨nx,k3,rfl,rfl⟩|⟨_,_,hx⟩
  ·refine⟨G (on b a' [.code body]) (c::cs),w',seen P b.fn es,_,?_,k1.seen P b.fn,?_⟩
   ·have:stepG P main (G (on b a' [.beginRound,.code body]) (c::cs)) w=stepG.apply P true (on b a' [.beginRound,.code body]) (c::cs) none (do XF l;pure Next.skip) w:=by
     simp[G,stepG,Ud,on,b]
    rw[this];have jP:((on b a' [.beginRound,.code body]).kind==U2)=false:=(by simp[on,b]);simp only[stepG.apply,TB,if_true,k3,k2,jP,T1];rfl
   ·refine hw main J C b [] (c::cs) (by show Y3≠U2;decide) rfl λe b9 aR q=> ?_;cases e with
    |normal=>
     obtain⟨r',ba,ni,hR⟩:=q;refine leave b9 aR r' none [] ba ni hR λw=> ?_;simp[G,stepG,Ud,on,b];rfl
    |ret=>
     obtain⟨r',ba,ni,hR⟩:=q;intro k;refine leave b9 aR r' (some .ret) _ ba ni hR λw=> ?_;simp[G,stepG,Ud,on,b];rfl
    |exit i=>
     obtain⟨r',ba,ni,hR⟩:=q;refine .inr ⟨rfl,λk2 cE=> ?_⟩;refine leave b9 aR r' (some (.exit i)) _ ba ni hR λw=> ?_;simp[G,stepG,Ud,on,b,cE];rfl
    |goto i=>
     obtain⟨r',ba,ni,hR⟩:=q;refine .inr ⟨rfl,λk2 cE=> ?_⟩;refine leave b9 aR r' (some (.goto i)) _ ba ni hR λw=> ?_;simp[G,stepG,Ud,on,b,cE];rfl
    |panic ch=>
     obtain⟨hd,hR⟩:=q;intro todo akX;refine C.idle rfl (λw=> ?_) (h2 _ _ hR);have aji:ZQ P {on b b9 todo with mode:=.panicking ch}=false:=by
      unfold ZQ
      match todo,akX with
      |.call .. ::_,h=>cases h
      |[],_=>split<;>simp_all[on]
      |x::k,_=>cases x<;>(split<;>simp_all[on,aaF])
     have bw:({on b b9 todo with mode:=.panicking ch}:T9).defers=[]:=hd;simp only[G,stepG,unwind,bw,aji];simp
  ·exact hx.elim
 |_=>exact q.elim
def mark (a:Act)(d:Nat):Act:={a with defers:={target:=.collected d,args:=#[]}::a.defers}
def wD (l:Nat)(Q:Ex->Act->View->Prop)(a:Act):Out->View->Prop
 |.ret _,V=>∃r,V.own l=some (.loop r)/\V.role.chan≠some l/\r.state≠ .busy/\(match r.pending with
  |none=>Q .normal a (V.upd l (.loop {r with state:=.exhausted}))
  |some .ret=>Q .ret a (V.upd l (.loop {r with state:=.exhausted}))
  |some (.exit i)=>Q (.exit i) a (V.upd l (.loop {r with state:=.exhausted}))
  |some (.goto i)=>Q (.goto i) a (V.upd l (.loop {r with state:=.exhausted}))
  |_=>False)
 |.panic ch,V=>Q (.panic ch) a V
abbrev DK (l d:Nat)(Q:Ex->Act->View->Prop)(a:Act):Out->View->Prop:=wD l Q (mark a d)
theorem abr{rr:Option Nat}{f:Ti}{ps:Array Tmp}{bJ body:T5}{Q:Ex->Act->View->Prop}{a a1:Act}{V1:View}{l:Nat}{main:Bool}{J:View->SH->Prop}(C:Closed lv P main J){b:T9}{k:List WR}{cs:List T9}(hb:b.kind≠ .early)(hr:b.roundOf=rr)(hL:∀e a' V',Q e a' V'->uS J b k cs e a' V'){w w1:Tp}{es:Array Uq}{V:View}
  (h:aN P V1 (do let dd<- U0 (a.eval f) #[.func (.yield l) #[] #[]];invoke dd.target dd.args) (λnx V'=>Nx lv P (wD l Q a1) nx V') (λv V'=>wD l Q a1 (.panic [{v,recovered:=false}]) V'))
  (s1:da V w V1 w1 (fC es)) (aP:stepG P main (G (on b a (.code (.rangeFunc f ps bJ body)::k)) cs) w=T1 (seen P b.fn es) (stepG.apply P true (on b a1 (.inRangeFunc l::k)) cs none (do let dd<- U0 (a.eval f) #[.func (.yield l) #[] #[]];invoke dd.target dd.args) w1)):
  ∃g' w' es V',stepG P main (G (on b a (.code (.rangeFunc f ps bJ body)::k)) cs) w=.go g' w' es/\da V w V' w' es/\J V' g':=by
 have fin:∀(v:SO)(V':View),wD l Q a1 (.ret v) V'->J V' (G (on b a1 (.endRangeFunc l::k)) cs):=by
  intro v V' ⟨r,ho,eS,hs,hq⟩;refine C.step _ _ rfl λw fq=> ?_;obtain⟨es,w',aR,k1,k2,k3⟩:=(apn (P:=P) ho hs eS).runs fq;rcases k3 with⟨x,k3,rfl,rfl⟩|⟨_,_,hx⟩
  ·refine⟨G (on b a1 ((r.pending.map Item.code).toList++k)) cs,w',seen P b.fn es,_,?_,k1.seen P b.fn,?_⟩
   ·simp[G,stepG,Ud,on,TB,k3,k2,T1]
   ·generalize r.pending=pe at hq⊢
    match pe,hq with
    |none,hq=>exact hL _ _ _ hq
    |some .ret,hq=>exact hL _ _ _ hq _
    |some (.exit i),hq=>exact Sn C (hL _ _ _ hq)
    |some (.goto i),hq=>exact ali C (hL _ _ _ hq)
  ·exact hx.elim
 obtain⟨nb,w2,V2,t1,t2,t3⟩:=h.runs s1.sat;have jP:((on b a1 (.inRangeFunc l::k)).kind==U2)=false:=by simpa[on]using hb
 rw[aP];rcases t3 with⟨nx,t3,hU⟩|⟨v,t3,hU⟩
 ·cases nx with
  |value v=>exact⟨_,w2,seen P b.fn es++seen P b.fn nb,V2,by simp only[stepG.apply,TB,if_true,t3,t2,jP,T1];rfl,(s1.seen P _).trans (t1.seen P _),fin v _ hU⟩
  |skip=>exact⟨_,w2,seen P b.fn es++seen P b.fn nb,V2,by simp only[stepG.apply,TB,if_true,t3,t2,jP,T1];rfl,(s1.seen P _).trans (t1.seen P _),fin undef _ hU⟩
  |enter g args=>
   refine⟨G (Frame.enter P g args .normal) (on b a1 (.inRangeFunc l::k)::cs),w2,seen P b.fn es++seen P b.fn nb,V2,by simp only[stepG.apply,TB,if_true,t3,t2,jP,T1];rfl,(s1.seen P _).trans (t1.seen P _),?_⟩;refine Body.runs hU main J C _ cs (λv aR hR=> ?_) (λch aR hR=> ?_)
   ·exact fin v _ hR
   ·exact hL _ _ _ hR _ rfl
  |round l2 f2 aqU as2 b2=>
   refine⟨G (W6 l2 f2 aqU as2 b2 .normal) (on b a1 (.inRangeFunc l::k)::cs),w2,seen P b.fn es++seen P b.fn nb,V2,by simp only[stepG.apply,TB,if_true,t3,t2,jP,T1];rfl,(s1.seen P _).trans (t1.seen P _),?_⟩;refine hU main J C _ cs (λv aR hR=> ?_) (λch aR hR=> ?_)
   ·exact fin v _ hR
   ·exact hL _ _ _ hR _ rfl
  |_=>exact hU.elim
 ·exact⟨_,w2,seen P b.fn es++seen P b.fn nb,V2,by simp only[stepG.apply,TB,if_true,t3,t2,jP,T1];rfl,(s1.seen P _).trans (t1.seen P _),hL _ _ _ hU _ rfl⟩
theorem ac3{f:Ti}{ps:Array Tmp}{bJ body:T5}{Q:Ex->Act->View->Prop}{a:Act}{V:View}
  (h:∀(fn d l:Nat),V.fresh d->(V.upd d (.deferred (some []))).fresh l->aN P ((V.upd d (.deferred (some []))).upd l (.loop {state:=.ready,pending:=none,fn,tmps:=a.tmps,params:=ps,assign:=bJ,body,defers:=d}))
   (do let dd<- U0 (a.eval f) #[.func (.yield l) #[] #[]];invoke dd.target dd.args) (λnx V'=>Nx lv P (DK l d Q a) nx V') (λv V'=>DK l d Q a (.panic [{v,recovered:=false}]) V')):WP lv P none (.rangeFunc f ps bJ body) Q a V:=by
 intro main J C b k cs hb hr hL;refine C.step _ _ rfl λw fq=> ?_;obtain⟨es,w1,V1,s1,s2,s3⟩:=(apq (P:=P) (fn:=b.fn) (tmps:=a.tmps) (ps:=ps) (bJ:=bJ) (body:=body)).runs fq;rcases s3 with⟨x,s3,d,l,hd,hl,rfl,rfl⟩|⟨_,_,hx⟩
 ·refine abr C hb hr hL (h b.fn d l hd hl) s1 ?_;have cm:∀(todo:List WR)(x:Ti),(on b (mark a d) todo).eval x=a.eval x:=λtodo x=>by rw[Gh];cases x<;>rfl
  have e:=cm (.inRangeFunc l::k) f;have e2:=cm (.inRangeFunc l::k) (.const (.func (.yield l) #[] #[]));simp only[on,mark]at e e2;simp[G,stepG,Ud,on,TB,s3,s2,hr,mark,resolve];rw[hr]at e;rw[e];rfl
 ·exact hx.elim
theorem apr{fn:TQ}{tmps:Array SO}{ps:Array Tmp}{bJ body:T5}{V:View}{l0:Nat}{r0:ap_}(ho:V.own l0=some (.loop r0))(hc:V.role.chan≠some l0):aN P V (WU fn tmps ps bJ body (some l0)) (λx V1=>∃l,V.fresh l/\x=(l,[])/\
  V1=V.upd l (.loop {state:=.ready,pending:=none,fn,tmps,params:=ps,assign:=bJ,body,defers:=r0.defers})) (λ_ _=>False):=by
 unfold WU WG;dsimp only;refine az (az ?_);unfold getObj;refine nJ ho rfl rfl hc (cF ?_);dsimp only;refine aq (az (aq ?_));dsimp only;refine az ?_;unfold newObj;refine ov λl hl=>cF (aq ?_);exact⟨l,hl,rfl,rfl⟩
theorem ary{f:Ti}{ps:Array Tmp}{bJ body:T5}{Q:Ex->Act->View->Prop}{a:Act}{V:View}{l0:Nat}{r0:ap_}(ho:V.own l0=some (.loop r0))(hc:V.role.chan≠some l0)
  (h:∀(fn l:Nat),V.fresh l->aN P (V.upd l (.loop {state:=.ready,pending:=none,fn,tmps:=a.tmps,params:=ps,assign:=bJ,body,defers:=r0.defers}))
   (do let dd<- U0 (a.eval f) #[.func (.yield l) #[] #[]];invoke dd.target dd.args) (λnx V'=>Nx lv P (wD l Q a) nx V') (λv V'=>wD l Q a (.panic [{v,recovered:=false}]) V')):WP lv P (some l0) (.rangeFunc f ps bJ body) Q a V:=by
 intro main J C b k cs hb hr hL;refine C.step _ _ rfl λw fq=> ?_;obtain⟨es,w1,V1,s1,s2,s3⟩:=(apr (P:=P) (fn:=b.fn) (tmps:=a.tmps) (ps:=ps) (bJ:=bJ) (body:=body) ho hc).runs fq;rcases s3 with⟨x,s3,l,hl,rfl,rfl⟩|⟨_,_,hx⟩
 ·refine abr C hb hr hL (h b.fn l hl) s1 ?_;have e:=Gh b a (.inRangeFunc l::k) f;simp only[on]at e;simp[G,stepG,Ud,on,TB,s3,s2,hr,resolve];rw[hr]at e;rw[e];rfl
 ·exact hx.elim
theorem Conc.x_{E:Env}{V:View}{H:List aa}(hc:Conc E V H){id r fn nt df:Nat}{st:Z5}{pe:Option T5}{T:List (Nat×AV)}{ps:Array Tmp}{bJ body:T5}(hk:H[id]?=some (.loop r st pe fn T nt ps bJ body df)):
  E.blk id=r/\V.role.chan≠some r/\∃tmps,V.own r=some (.loop {state:=st,pending:=pe,fn,tmps,params:=ps,assign:=bJ,body,defers:=E.blk df})/\tmps.size=nt/\b8 E T tmps/\
   ∀st' wa,Conc E (V.upd r (.loop {state:=st',pending:=wa,fn,tmps,params:=ps,assign:=bJ,body,defers:=E.blk df})) (H.set id (.loop r st' wa fn T nt ps bJ body df)):=by
 obtain⟨⟨tmps,p1,p2,p3⟩,p4,p5,p6⟩:=hc.obj id _ hk;have eS:=(hc.ja hk (b:=E.blk id) rfl).2;subst p6;refine⟨rfl,eS,tmps,p1,p2,p3,λst' wa=> ?_⟩;refine hc.iz id (.loop (E.blk id) st' wa fn T nt ps bJ body df) (Env.Le.refl E) hc.I (by simpa using hc.n) lf rfl (λ_ _ _=>rfl) (λb z hb hz=>⟨?_,λ_=>rfl⟩) ⟨⟨tmps,by simp[View.upd],p2,p3⟩,p4,p5,rfl⟩ (λb h=> .inl ⟨_,hk,h⟩);have:b≠E.blk id:=λe=>hb _ hk (by rw[e];rfl);simpa[View.upd,this]using hz
theorem Conc.C1{E:Env}{V:View}{H:List aa}(hc:Conc E V H){id:Nat}(x:aa)(hk:H[id]?=some x)(y:Obj){b:Nat}(hb:bK E id x=some b):Conc E (V.upd b y) (H.set id .gone):=by
 refine hc.iz id .gone (Env.Le.refl E) hc.I (by simpa using hc.n) lf rfl (λ_ _ _=>rfl) (λb' z dB hz=>⟨?_,λ_=>rfl⟩) trivial (λb h=>by cases h);have:b'≠b:=λe=>dB _ hk (by rw[e];exact hb);simpa[View.upd,this]using hz
def rM:List Nat->List AV->List (Nat×AV)->List (Nat×AV)
 |t::ts,a::aD,T=>rM ts aD ((t,a)::T)
 |_,_,T=>T
theorem ac8{E:Env}{nt:Nat}:∀(ts:List Nat)(aD:List AV)(vs:List SO)(T:List (Nat×AV))(tmps:Array SO),vs.length=aD.length->(∀(i:Nat) a,aD[i]?=some a->ap E a (vs.getD i undef))->(∀t∈ts,t<nt)->tmps.size=nt->b8 E T tmps->
  b8 E (rM ts aD T) ((ts.zip vs).foldl (λtmps (x:Nat×SO)=>tmps.setIfInBounds x.1 x.2) tmps)/\((ts.zip vs).foldl (λtmps (x:Nat×SO)=>tmps.setIfInBounds x.1 x.2) tmps).size=nt
 |[],aD,vs,T,tmps,_,_,_,hs,hT=>by cases aD<;>cases vs<;>exact⟨hT,hs⟩
 |t::ts,[],[],T,tmps,_,_,_,hs,hT=>⟨hT,hs⟩
 |t::ts,[],_::_,T,tmps,h,_,_,hs,hT=>by cases h
 |t::ts,_::_,[],T,tmps,h,_,_,hs,hT=>by cases h
 |t::ts,a::aD,v::vs,T,tmps,hl,hd,ht,hs,hT=>by
  have h0:ap E a v:=by simpa using hd 0 a rfl
  have h1:t<tmps.size:=by rw[hs];exact ht t (by simp)
  exact ac8 ts aD vs ((t,a)::T) (tmps.setIfInBounds t v) (by simpa using hl) (λi x hx=>by simpa using hd (i+1) x (by simpa using hx)) (λx hx=>ht x (by simp[hx])) (by simpa using hs) (hT.put h1 h0)
def oF (id n:Nat)(k:AV->List aa->Prop)(st':Z5)(wa:Option T5)(b:Bool)(s:AS):Prop:=∃r st pe fn T nt ps bJ body df,s.H[id]?=some (.loop r st pe fn T nt ps bJ body df)/\cD n (s.H.set id (.loop r st' wa fn T nt ps bJ body df)) (.val (.bool b)) k
def adk (id n:Nat)(k kp:AV->List aa->Prop):an->AS->Prop
 |.normal,s=>oF id n k .ready none true s
 |.ret,s=>oF id n k .done (some .ret) false s
 |.exit i,s=>oF id n k .done (some (.exit i)) false s
 |.goto i,s=>oF id n k .done (some (.goto i)) false s
 |.panic pv,s=>cD n s.H pv kp
def tz (lv:Bool)(P:SJ)(l nt id n:Nat)(body:T5)(k kp:AV->List aa->Prop):an->AS->Prop
 |.normal,s=>∃pe fn T jb ps bJ fg df,s.H[id]?=some (.loop l .ready pe fn T jb ps bJ fg df)/\aU lv P (some l) nt body ⟨s.T,s.H.set id (.loop l .busy pe fn T jb ps bJ fg df)⟩ (adk id n k kp)
 |_,_=>False
theorem vc{l id fn nt df:Nat}{pe:Option T5}{T:List (Nat×AV)}{ps:Array Tmp}{bJ body:T5}{H:List aa}{args:List AV}{k kp:AV->List aa->Prop}(bR:H[id]?=some (.loop l .ready pe fn T nt ps bJ body df))(hlen:args.length=ps.size)(pY:ps.all (·<nt)=true)
  (h:bM H->(∀a∈args,Lt H.length a)->aU lv P (some l) nt bJ ⟨rM ps.toList args T,H⟩ (tz lv P l nt id H.length body k kp)):iQ lv P (.fn (.yield l) [] []) H args k kp:=by
 intro E V cv vs hc hd oQ;cases hd with
 |fn dF fP h1 h2=>
  rename_i fa ca;have e1:fa=#[]:=by apply Vz;simpa using dF
  subst e1;have hlt:∀a∈args,Lt H.length a:=λa ha=>by
   obtain⟨i,hi⟩:=pc ha;rw[<- hc.n];exact(oQ.2 i a hi).lt
  obtain⟨hb,eS,tmps,ho,aV,hT,_⟩:=hc.x_ bR;unfold U0;refine az (aq ?_);unfold invoke;dsimp only;unfold Instr.yield WG;refine az (az ?_);unfold getObj;refine nJ ho rfl rfl eS (cF ?_);dsimp only;refine aq ?_;have lJ:(#[]++vs).size=ps.size:=by simp[oQ.1,hlen]
  rw[if_neg (by simp[oQ.1,hlen])];refine aq ?_;show mT lv P _ V (gI E V k kp);have hz:=ac8 (nt:=nt) ps.toList args vs.toList T tmps (by simpa using oQ.1) (λi a e=>by
   have:=oQ.2 i a e;simpa[SI,SF]using this) (λt ht=>by
    have:=(UD.1 pY) t (by simpa using ht);simpa using this) aV hT
  have agy:(ps.zip (#[]++vs)).foldl (λtmps (x:Nat×SO)=>tmps.setIfInBounds x.1 x.2) tmps=(ps.toList.zip vs.toList).foldl (λtmps (x:Nat×SO)=>tmps.setIfInBounds x.1 x.2) tmps:=by
   rw[<- Array.foldl_toList,Array.toList_zip];simp
  have agz:Array.foldl (λtmps x=>match x with|(t,a)=>tmps.setIfInBounds t a) tmps (ps.zip (#[]++vs))=(ps.toList.zip vs.toList).foldl (λtmps (x:Nat×SO)=>tmps.setIfInBounds x.1 x.2) tmps:=agy;rw[agz];refine ao0 ?_;refine h hc.ay hlt E V _ _ ⟨hc,hz.1,hz.2⟩ λae e E' V' a' s' hk aS he hΦ=> ?_;cases ae<;>cases e<;>first
   |exact he.elim
   |exact hΦ.elim
   |skip
  obtain⟨wa,fw,T',jb,gq,fW,fg,fX,ajO,hw⟩:=hΦ;obtain⟨dB,ni,qn,ba,KM,sv,zq⟩:=aS.bm.x_ ajO;refine⟨_,ba,ni,rfl,?_⟩;refine hw E' _ a' _ ⟨zq .busy wa,aS.tok,aS.size⟩ λae e bO aR b9 dg cE dc BP FK=> ?_;have fin:∀(st':Z5)(Gs:Option T5)(b:Bool),(∃r st pe fn T nt ps bJ body df,dg.H[id]?=some (.loop r st pe fn T nt ps bJ body df)/\cD H.length (dg.H.set id (.loop r st' Gs fn T nt ps bJ body df)) (.val (.bool b)) k)->
    ∃r,aR.own l=some (.loop r)/\aR.role.chan≠some l/\gI E V k kp (.ret (.bool b)) (aR.upd l (.loop {r with state:=st',pending:=Gs})):=by
   intro st' Gs b ⟨r,st,pe3,fn3,T3,nt3,Ms,asc,asn,df3,ajP,vF⟩;obtain⟨EH,ajm,as9,Ko,asQ,hT3,akO⟩:=dc.bm.x_ ajP;have hlt:id<E.n:=(by rw[hc.n];exact(SM.1 bR).1);have hle:E.Le bO:=hk.le.trans cE.le;have hr:r=l:=(by rw[<- EH,<- hb];exact hle.blk id hlt);subst hr;obtain⟨x,E4,H4,q1,q2,q3,q4⟩:=wU vF (akO st' Gs) (.val _) hle hc.n;exact⟨_,Ko,ajm,x,E4,H4,q1,cE.role.trans hk.role,cE.deaf.trans hk.deaf,q2,q3,q4⟩
  cases ae<;>cases e<;>first
   |exact BP.elim
   |exact fin .ready none true FK
   |exact fin .done (some .ret) false FK
   |(have e:_=_:=BP
     subst e;exact fin .done _ false FK)
   |skip
  obtain⟨v,ajl,bi⟩:=BP;subst ajl;obtain⟨x,E4,H4,q1,q2,q3,q4⟩:=wU FK dc.bm bi (hk.le.trans cE.le) hc.n;refine⟨by rw[cE.defers,hk.defers],x,v,E4,H4,rfl,q1,cE.role.trans hk.role,cE.deaf.trans hk.deaf,q2,q3,q4⟩
def Marks (E:Env)(ms:List Nat)(l:List UV):Prop:=l=ms.map (λi=>({target:=.collected (E.blk i),args:=#[]}:UV))/\∀i∈ms,i<E.n
theorem Marks.mono{E E':Env}(h:E.Le E'){ms:List Nat}{l:List UV}(k:Marks E ms l):Marks E' ms l:=
 ⟨by rw[k.1];exact Vy λi hi=>by rw[h.blk i (k.2 i hi)],λi hi=>Td (k.2 i hi) h.n⟩
def mm (lv:Bool)(P:SJ)(nt:Nat)(c:T5)(s:AS)(ms:List Nat)(Φ:an->AS->List Nat->Prop):Prop:=
 ∀(E:Env)(V:View)(a:Act)(Q:Ex->Act->View->Prop),At E V s a nt->Marks E ms a.defers->(∀ae e E' V' a' s' cz,qw E E' V V' a a'->At E' V' s' a' nt->Marks E' cz a'.defers->pt E' ae e->Φ ae s' cz->Q e a' V')->WP lv P none c Q a V
variable {s:AS}{ms:List Nat}{nt:Nat}
theorem HS{c:T5}{Φ:an->AS->List Nat->Prop}(h:aU lv P none nt c s λe s'=>Φ e s' ms):mm lv P nt c s ms Φ:=λE V a Q ah hd hQ=>
 h E V a Q ah λae e E' V' a' s' hk aS he hΦ=>hQ ae e E' V' a' s' ms hk.d aS (by rw[hk.defers];exact hd.mono hk.le) he hΦ
def an.rI (next:AS->List Nat->Prop)(Φ:an->AS->List Nat->Prop):an->AS->List Nat->Prop
 |.normal,s,ms=>next s ms
 |e,s,ms=>Φ e s ms
theorem HT{x y:T5}{Φ:an->AS->List Nat->Prop}(h:mm lv P nt x s ms (an.rI (λs' cz=>mm lv P nt y s' cz Φ) Φ)):mm lv P nt (.seq x y) s ms Φ:=by
 intro E V a Q ah hd hQ;refine wp_seq (h E V a _ ah hd λae e E' V' a' s' cz hk aS cw he hΦ=> ?_);cases ae<;>cases e<;>first
  |exact he.elim
  |exact hΦ E' V' a' Q aS cw λae e bO aR b9 dg CH aI dc y8 j4 sS=>hQ ae e bO aR b9 dg CH (hk.trans aI) dc y8 j4 sS
  |exact hQ _ _ E' V' a' s' cz hk aS cw he hΦ
theorem mY{x y:T5}{Φ:an->AS->List Nat->Prop}(h:aU lv P none nt x s (an.then (λs'=>mm lv P nt y s' ms Φ) λe s'=>Φ e s' ms)):mm lv P nt (.seq x y) s ms Φ:=by
 refine HT (HS (h.mono λe s' hs=> ?_));cases e<;>exact hs
def rV (Φ:an->AS->List Nat->Prop)(s:AS)(ms:List Nat):Option T5->Prop
 |none=>Φ .normal s ms
 |some .ret=>Φ .ret s ms
 |some (.exit i)=>Φ (.exit i) s ms
 |some (.goto i)=>Φ (.goto i) s ms
 |_=>False
theorem ae3{f:Ti}{ps:Array Tmp}{bJ body:T5}{fv:AV}{Φ:an->AS->List Nat->Prop}(hf:s.ev f=some fv)
  (h:∀l fn:Nat,iQ lv P fv (s.H++[.obj (.deferred (some [])),.loop l .ready none fn s.T nt ps bJ body s.H.length]) [.fn (.yield l) [] []]
   (λ_ H'=>∃st pe fw T' jb gq fW fg fX,H'[s.H.length+1]?=some (.loop l st pe fw T' jb gq fW fg fX)/\st≠ .busy/\rV Φ ⟨s.T,H'.set (s.H.length+1) .gone⟩ (s.H.length::ms) pe)
   (λpv H'=>Φ (.panic pv) ⟨s.T,H'⟩ (s.H.length::ms))):mm lv P nt (.rangeFunc f ps bJ body) s ms Φ:=by
 intro E V a Q ah hm hQ;refine ac3 λfn d l hd hl=> ?_;have hc:=ah.bm;have di:Conc (E.add d V.ab) (V.upd d (.deferred (some []))) (s.H++[.obj (.deferred (some []))]):=by
  refine hc.add hd _ ⟨?_,rfl,rfl,λo=> ?_⟩ (λb e=> ?_)
  ·rw[Env.dJ];simp[View.upd]
  ·rw[Env.dJ];exact hd.2 o
  ·simp only[bK,Env.dJ,Tl]at e;exact e.symm
 have BZ:E.Le (E.add d V.ab):=E.qb d (λb o v h=>by rw[<- hc.I];exact h);have BG:(E.add d V.ab).blk s.H.length=d:=by rw[<- hc.n];exact E.dJ d _
 let E1:=E.add d V.ab;let V1:=V.upd d (.deferred (some []));have oW:E1.n=s.H.length+1:=by rw[di.n];simp
 have pQ:E1.Le (E1.add l V1.ab):=E1.qb l (λb o v h=>by rw[<- di.I];exact h);have cM:Conc (E1.add l V1.ab) (V1.upd l (.loop {state:=.ready,pending:=none,fn,tmps:=a.tmps,params:=ps,assign:=bJ,body,defers:=d})) ((s.H++[.obj (.deferred (some []))])++[.loop l .ready none fn s.T nt ps bJ body s.H.length]):=by
  refine di.add hl _ ⟨⟨a.tmps,?_,ah.size,(ah.tok.mono BZ).mono pQ⟩,?_,λo=> ?_,?_⟩ (λb e=> ?_)
  ·have e:(E1.add l V1.ab).blk s.H.length=d:=(by rw[pQ.blk s.H.length (by rw[oW];omega)];exact BG);rw[e,Env.dJ];simp[View.upd]
  ·show s.H.length<E1.n+1;omega
  ·rw[Env.dJ];exact hl.2 o
  ·exact Env.dJ _ _ _
  ·simp only[bK,Env.dJ,Tl]at e;exact e.symm
 have hle:E.Le (E1.add l V1.ab):=BZ.trans pQ;have cL:(E1.add l V1.ab).blk (s.H.length+1)=l:=by rw[<- oW];exact E1.dJ l _
 have Jw:(E1.add l V1.ab).blk s.H.length=d:=by rw[pQ.blk s.H.length (by rw[oW];omega)];exact BG
 rw[SD]at cM;have qX:∀E',(E1.add l V1.ab).Le E'->Marks E' (s.H.length::ms) (mark a d).defers:=λE' hE=>by
  refine Marks.mono hE ⟨?_,λi hi=> ?_⟩
  ·have:=(hm.mono hle).1;simp only[mark,UU,Jw];rw[<- this]
  ·rcases SL.1 hi with rfl|hi
   ·show _<E1.n+1;omega
   ·exact Td (hm.2 i hi) hle.n
 have bw:=ap.ev ah.tok hf;have BI:=h l fn (E1.add l V1.ab) (V1.upd l (.loop {state:=.ready,pending:=none,fn,tmps:=a.tmps,params:=ps,assign:=bJ,body,defers:=d})) (a.eval f) #[.func (.yield l) #[] #[]] cM (bw.mono hle) ⟨rfl,λi x hx=>by
  match i,hx with
  |0,hx=>cases hx;exact .fn rfl rfl (by simp) (by simp)⟩
 have key:∀o V',gI (E1.add l V1.ab) (V1.upd l (.loop {state:=.ready,pending:=none,fn,tmps:=a.tmps,params:=ps,assign:=bJ,body,defers:=d}))
   (λ_ H'=>∃st pe fw T' jb gq fW fg fX,H'[s.H.length+1]?=some (.loop l st pe fw T' jb gq fW fg fX)/\st≠ .busy/\rV Φ ⟨s.T,H'.set (s.H.length+1) .gone⟩ (s.H.length::ms) pe)
   (λpv H'=>Φ (.panic pv) ⟨s.T,H'⟩ (s.H.length::ms)) o V'->DK l d Q a o V':=by
  intro o V' hr;cases o with
  |ret v=>
   obtain⟨av,E',H',hE,bX,eT,_,bh,st,pe,fw,T',jb,gq,fW,fg,fX,bR,aP,hp⟩:=hr;obtain⟨dB,ni,qn,ba,KM,sv,zq⟩:=bh.x_ bR;refine⟨_,ba,ni,aP,?_⟩;have hg:Conc E' (V'.upd l (.loop {state:=.exhausted,pending:=pe,fn:=fw,tmps:=qn,params:=gq,assign:=fW,body:=fg,defers:=E'.blk fX})) (H'.set (s.H.length+1) .gone):=bh.C1 _ bR _ (by simp only[bK,dB]);have aS:At E' (V'.upd l (.loop {state:=.exhausted,pending:=pe,fn:=fw,tmps:=qn,params:=gq,assign:=fW,body:=fg,defers:=E'.blk fX})) ⟨s.T,H'.set (s.H.length+1) .gone⟩ (mark a d) nt:=⟨hg,ah.tok.mono (hle.trans hE),ah.size⟩;have ek:qw E E' V (V'.upd l (.loop {state:=.exhausted,pending:=pe,fn:=fw,tmps:=qn,params:=gq,assign:=fW,body:=fg,defers:=E'.blk fX})) a (mark a d):=⟨hle.trans hE,rfl,bX,eT⟩;dsimp only
   match pe,hp,aS,ek with
   |none,hp,aS,ek=>exact hQ .normal .normal E' _ _ _ _ ek aS (qX E' hE) trivial hp
   |some .ret,hp,aS,ek=>exact hQ .ret .ret E' _ _ _ _ ek aS (qX E' hE) trivial hp
   |some (.exit i),hp,aS,ek=>exact hQ (.exit i) (.exit i) E' _ _ _ _ ek aS (qX E' hE) rfl hp
   |some (.goto i),hp,aS,ek=>exact hQ (.goto i) (.goto i) E' _ _ _ _ ek aS (qX E' hE) rfl hp
  |panic ch=>
   obtain⟨pv,v,E',H',rfl,hE,bX,eT,bi,bh,hp⟩:=hr;exact hQ (.panic pv) (.panic _) E' V' (mark a d) ⟨s.T,H'⟩ _ ⟨hle.trans hE,rfl,bX,eT⟩ ⟨bh,ah.tok.mono (hle.trans hE),ah.size⟩ (qX E' hE) ⟨v,rfl,bi⟩ hp
 exact BI.mono (λnx V' hn=>Nx.mono key hn) (λv V' hr=>key _ _ hr)
def tx (Φ:an->AS->Prop)(s:AS):Option T5->Prop
 |none=>Φ .normal s
 |some .ret=>Φ .ret s
 |some (.exit i)=>Φ (.exit i) s
 |some (.goto i)=>Φ (.goto i) s
 |_=>False
theorem aeU{f:Ti}{ps:Array Tmp}{bJ body:T5}{fv:AV}{Φ:an->AS->Prop}{l0 FM I2 LV df:Nat}{MN:Z5}{L9:Option T5}{T0:List (Nat×AV)}{Mr:Array Tmp}{HM HZ:T5}(hf:s.ev f=some fv)(h0:s.H[FM]?=some (.loop l0 MN L9 I2 T0 LV Mr HM HZ df))
  (h:∀l fn:Nat,iQ lv P fv (s.H++[.loop l .ready none fn s.T nt ps bJ body df]) [.fn (.yield l) [] []]
   (λ_ H'=>∃st pe fw T' jb gq fW fg fX,H'[s.H.length]?=some (.loop l st pe fw T' jb gq fW fg fX)/\st≠ .busy/\tx Φ ⟨s.T,H'.set s.H.length .gone⟩ pe)
   (λpv H'=>Φ (.panic pv) ⟨s.T,H'⟩)):aU lv P (some l0) nt (.rangeFunc f ps bJ body) s Φ:=by
 intro E V a Q ah hQ;have hc:=ah.bm;obtain⟨sx,ajk,as8,ho0,KN,hT0,_⟩:=hc.x_ h0;obtain⟨_,bw,_⟩:=hc.obj FM _ h0;refine ary ho0 ajk λfn l hl=> ?_;have hle:E.Le (E.add l V.ab):=E.qb l (λb o v h=>by rw[<- hc.I];exact h);have cL:(E.add l V.ab).blk s.H.length=l:=by rw[<- hc.n];exact E.dJ l _
 have cM:Conc (E.add l V.ab) (V.upd l (.loop {state:=.ready,pending:=none,fn,tmps:=a.tmps,params:=ps,assign:=bJ,body,defers:=E.blk df})) (s.H++[.loop l .ready none fn s.T nt ps bJ body df]):=by
  refine hc.add hl _ ⟨⟨a.tmps,?_,ah.size,ah.tok.mono hle⟩,?_,λo=> ?_,?_⟩ (λb e=> ?_)
  ·rw[Env.dJ,hle.blk df bw];simp[View.upd]
  ·show df<E.n+1;omega
  ·rw[Env.dJ];exact hl.2 o
  ·exact Env.dJ _ _ _
  ·simp only[bK,Env.dJ,Tl]at e;exact e.symm
 have ajD:=ap.ev ah.tok hf;have BI:=h l fn (E.add l V.ab) (V.upd l (.loop {state:=.ready,pending:=none,fn,tmps:=a.tmps,params:=ps,assign:=bJ,body,defers:=E.blk df})) (a.eval f) #[.func (.yield l) #[] #[]] cM (ajD.mono hle) ⟨rfl,λi x hx=>by
  match i,hx with
  |0,hx=>cases hx;exact .fn rfl rfl (by simp) (by simp)⟩
 have key:∀o V',gI (E.add l V.ab) (V.upd l (.loop {state:=.ready,pending:=none,fn,tmps:=a.tmps,params:=ps,assign:=bJ,body,defers:=E.blk df}))
   (λ_ H'=>∃st pe fw T' jb gq fW fg fX,H'[s.H.length]?=some (.loop l st pe fw T' jb gq fW fg fX)/\st≠ .busy/\tx Φ ⟨s.T,H'.set s.H.length .gone⟩ pe)
   (λpv H'=>Φ (.panic pv) ⟨s.T,H'⟩) o V'->wD l Q a o V':=by
  intro o V' hr;cases o with
  |ret v=>
   obtain⟨av,E',H',hE,bX,eT,_,bh,st,pe,fw,T',jb,gq,fW,fg,fX,bR,aP,hp⟩:=hr;obtain⟨dB,ni,qn,ba,KM,sv,zq⟩:=bh.x_ bR;refine⟨_,ba,ni,aP,?_⟩;have hg:Conc E' (V'.upd l (.loop {state:=.exhausted,pending:=pe,fn:=fw,tmps:=qn,params:=gq,assign:=fW,body:=fg,defers:=E'.blk fX})) (H'.set s.H.length .gone):=bh.C1 _ bR _ (by simp only[bK,dB]);have aS:At E' (V'.upd l (.loop {state:=.exhausted,pending:=pe,fn:=fw,tmps:=qn,params:=gq,assign:=fW,body:=fg,defers:=E'.blk fX})) ⟨s.T,H'.set s.H.length .gone⟩ a nt:=⟨hg,ah.tok.mono (hle.trans hE),ah.size⟩;have ek:Kept E E' V (V'.upd l (.loop {state:=.exhausted,pending:=pe,fn:=fw,tmps:=qn,params:=gq,assign:=fW,body:=fg,defers:=E'.blk fX})) a a:=⟨hle.trans hE,rfl,rfl,bX,eT⟩;dsimp only
   match pe,hp,aS,ek with
   |none,hp,aS,ek=>exact hQ .normal .normal E' _ _ _ ek aS trivial hp
   |some .ret,hp,aS,ek=>exact hQ .ret .ret E' _ _ _ ek aS trivial hp
   |some (.exit i),hp,aS,ek=>exact hQ (.exit i) (.exit i) E' _ _ _ ek aS rfl hp
   |some (.goto i),hp,aS,ek=>exact hQ (.goto i) (.goto i) E' _ _ _ ek aS rfl hp
  |panic ch=>
   obtain⟨pv,v,E',H',rfl,hE,bX,eT,bi,bh,hp⟩:=hr;exact hQ (.panic pv) (.panic _) E' V' a ⟨s.T,H'⟩ ⟨hle.trans hE,rfl,rfl,bX,eT⟩ ⟨bh,ah.tok.mono (hle.trans hE),ah.size⟩ ⟨v,rfl,bi⟩ hp
 exact BI.mono (λnx V' hn=>Nx.mono key hn) (λv V' hr=>key _ _ hr)
def wI (P:SJ)(fn:ZP)(R:Out->View->Prop):List UV->U5->Array SO->View->Prop
 |[],.returning,tmps,V=>∃v,aN P V (results fn tmps) (λx V'=>x=v/\V'=V) (λ_ _=>False)/\R (.ret v) V
 |[],.panicking ch,_,V=>R (.panic ch) V
 |d::ds,md,tmps,V=>(md matches .run)=false/\∃b,d={target:=.collected b,args:=#[]}/\V.own b=some (.deferred (some []))/\V.role.chan≠some b/\wI P fn R ds md tmps (V.upd b (.deferred none))
 |[],.run,_,_=>False
theorem GZ{f:TQ}{fn:ZP}{kd:Xb}{R:Out->View->Prop}(hf:P.funcs[f]?=some fn){main:Bool}{J:View->SH->Prop}(C:Closed lv P main J){cs:List T9}(hR:∀o V' Bg,R o V'->Leaves P Bg f kd o V'->J V' (G Bg cs)):∀(ds:List UV)(md:U5)(V:View)(fr:T9),fr.fn=f->fr.kind=kd->fr.mode=md->fr.defers=ds->wI P fn R ds md fr.tmps V->J V (G fr cs)
 |[],.returning,V,fr,h1,h2,h3,h4,h=>by
  obtain⟨v,hs,hr⟩:=h;exact hR _ _ _ hr ⟨h1,h4,h2,fn,hf,h3,hs⟩
 |[],.panicking ch,V,fr,h1,h2,h3,h4,h=>hR _ _ _ h ⟨h1,h4,h2,fn,hf,h3⟩
 |[],.run,_,_,_,_,_,_,h=>h.elim
 |d::ds,md,V,fr,h1,h2,h3,h4,h=>by
  obtain⟨hm,b,rfl,ho,eS,hu⟩:=h;refine C.step _ _ rfl λw hw=> ?_;obtain⟨es,w',V',k1,k2,k3⟩:=(MG (P:=P) ho eS).runs hw;rcases k3 with⟨x,k3,rfl,rfl⟩|⟨_,_,hx⟩
  ·refine⟨G {fr with defers:=ds} cs,w',seen P fr.fn es,_,?_,k1.seen P fr.fn,?_⟩
   ·have e:∀main,stepG P main (G fr cs) w=unwind P main fr cs none w:=λmain=>by
     cases md with
     |run=>cases hm
     |returning=>simp[G,stepG,h3]
     |panicking ch=>simp[G,stepG,h3]
    rw[e];simp only[unwind,h4];simp[TB,k3,k2,T1,G]
   ·exact GZ hf C hR ds md _ {fr with defers:=ds} h1 h2 h3 rfl hu
  ·exact hx.elim
def ade (P:SJ)(fn:ZP)(R:Out->View->Prop):Ex->Act->View->Prop
 |.normal,a,V|.ret,a,V=>wI P fn R a.defers .returning a.tmps V
 |.panic ch,a,V=>wI P fn R a.defers (.panicking ch) a.tmps V
 |_,_,_=>False
theorem afD{f:TQ}{fn:ZP}{c:T5}{args:Array SO}{kd:Xb}{V:View}{R:Out->View->Prop}(hk:kd≠ .early)(hf:P.funcs[f]?=some fn)(hb:fn.body=some c)
  (h:WP lv P none c (ade P fn R) {tmps:=args++TL (fn.ntmps-args.size) undef,defers:=[]} V):Body lv P f args kd V R:=by
 intro main J C cs hR;let b:T9:={(default:T9)with fn:=f,kind:=kd,roundOf:=none};have ua:Frame.enter P f args kd=on b {tmps:=args++TL (fn.ntmps-args.size) undef,defers:=[]} [.code c]:=by
  simp[Frame.enter,on,hf,hb,b]
 rw[ua];refine h main J C b [] cs hk rfl λe a' V' q=> ?_;cases e with
 |normal=>exact C.idle rfl (λw=>CX rfl) (GZ hf C hR _ _ _ _ rfl rfl rfl rfl q)
 |ret=>intro k;exact C.idle rfl (λw=>CY rfl) (GZ hf C hR _ _ _ _ rfl rfl rfl rfl q)
 |panic ch=>intro todo _;exact GZ hf C hR _ _ _ _ rfl rfl rfl rfl q
 |exit id=>exact q.elim
 |goto l=>exact q.elim
def iC:List Nat->List aa->Option (List aa)
 |[],H=>some H
 |i::ms,H=>match H[i]?with
  |some (.obj (.deferred (some [])))=>iC ms (H.set i .gone)
  |_=>none
def rR (P:SJ)(rs:List UM)(n:Nat)(k kp:AV->List aa->Prop):an->AS->List Nat->Prop
 |.normal,s,ms|.ret,s,ms=>ao (iC ms s.H) λH'=>ao (gO P ⟨s.T,H'⟩ rs) λl=>cD n H' (iN l) k
 |.panic pv,s,ms=>ao (iC ms s.H) λH'=>cD n H' pv kp
 |_,_,_=>False
theorem M3{fn:ZP}{R:Out->View->Prop}{tmps:Array SO}{md:U5}(hm:(md matches .run)=false):∀(ms:List Nat)(H H':List aa)(E:Env)(V:View)(l:List UV),iC ms H=some H'->Conc E V H->Marks E ms l->(∀V',V'.role=V.role->V'.deaf=V.deaf->Conc E V' H'->wI P fn R [] md tmps V')->wI P fn R l md tmps V
 |[],H,H',E,V,l,hg,hc,qY,hk=>by
  cases hg;have:l=[]:=qY.1;subst this;exact hk V rfl rfl hc
 |i::ms,H,H',E,V,l,hg,hc,qY,hk=>by
  simp only[iC]at hg;split at hg
  ·rename_i hi;obtain⟨e,hlt⟩:=qY;simp only[UU]at e;subst e;obtain⟨p1,p2,p3,p4⟩:=hc.obj i _ hi;exact⟨hm,_,rfl,p1,(hc.ja hi rfl).2,M3 hm ms _ H' E _ _ hg (hc.C1 _ hi _ rfl) ⟨rfl,λj hj=>hlt j (by simp[hj])⟩ λV' h1 h2 h3=>hk V' h1 h2 h3⟩
  ·cases hg
theorem Pz{f:TQ}{fn:ZP}{c:T5}{rs:List UM}{nt:Nat}{H:List aa}{args:List AV}{k kp:AV->List aa->Prop}(hf:P.funcs[f]?=some fn)(hb:fn.body=some c)(hr:fn.results=rs.toArray)(hn:fn.ntmps=nt)(cK:args.length<=nt)
  (h:bM H->(∀a∈args,Lt H.length a)->mm lv P nt c ⟨bk 0 args,H⟩ [] (rR P rs H.length k kp)):bc lv P f H args k kp:=by
 intro E V vs hc hd;have hlt:∀a∈args,Lt H.length a:=λa ha=>by
  obtain⟨i,hi⟩:=pc ha;rw[<- hc.n];exact(hd.2 i a hi).lt
 have ah:=AZ (nt:=nt) hc hd cK;refine afD (by simp) hf hb ?_;rw[hn];refine h hc.ay hlt E V _ _ ah ⟨rfl,by simp⟩ λae e E' V' a' s' cz hk aS fO he hΦ=> ?_;have fin:rR P rs H.length k kp .ret s' cz->wI P fn (gI E V k kp) a'.defers .returning a'.tmps V':=λhΦ=>by
  obtain⟨H',hg,hΦ⟩:=ao.out hΦ;exact M3 rfl cz _ H' E' V' _ hg aS.bm fO λaR h1 h2 h3=>abv (s':=⟨s'.T,H'⟩) (a':=a') hr ⟨h3,aS.tok,aS.size⟩ hk.le hc.n (h1.trans hk.role) (h2.trans hk.deaf) hΦ
 cases ae<;>cases e<;>first
  |exact he.elim
  |exact fin hΦ
  |exact hΦ.elim
  |skip
 rename_i pv ch;obtain⟨v,eS,bi⟩:∃v,ch=[{v,recovered:=false}]/\ap E' pv v:=he;subst eS;obtain⟨H',hg,hΦ⟩:=ao.out hΦ;refine M3 rfl cz _ H' E' V' _ hg aS.bm fO λaR h1 h2 h3=> ?_;obtain⟨b,bO,tp,r1,r2,r3,r4⟩:=wU hΦ h3 bi hk.le hc.n;exact⟨b,v,bO,tp,rfl,r1,h1.trans hk.role,h2.trans hk.deaf,r2,r3,r4⟩
end
def Env.frame (E:Env)(f:Nat->Option Obj):Env:={E with fr:=f}
theorem ap.frame{E:Env}{a:AV}{v:SO}(h:ap E a v)(f:Nat->Option Obj):ap (E.frame f) a v:=by
 induction h with
 |val x=>exact .val x
 |agg hs _ ih=>exact .agg hs ih
 |aK hs _ ih=>exact .aK hs ih
 |sl b o cap g hc he h1 _ ih=>exact .sl b o cap g hc (by cases j4:‹End›<;>(subst j4;exact he)) h1 ih
 |nil he=>exact .nil (by cases j4:‹End›<;>(subst j4;exact he))
 |bE hi dP=>exact .bE (E:=E.frame f) hi dP
 |rp b o g h1 _ ih=>exact .rp b o g h1 ih
 |op hi=>exact .op (E:=E.frame f) hi
 |fn dF fP _ _ mI ld=>exact .fn dF fP mI ld
 |cX _ ih=>exact .cX ih
 |mp hi=>exact .mp (E:=E.frame f) hi
theorem cG.frame{E:Env}{l:List AV}{cs:Array SO}(h:cG E l cs)(f:Nat->Option Obj):cG (E.frame f) l cs:=⟨h.1,λi a e=>(h.2 i a e).frame f⟩
theorem jU.frame{E:Env}{l:List AV}{cs:Array SO}(h:jU E l cs)(f:Nat->Option Obj):jU (E.frame f) l cs:=⟨h.1,λi a e=>(h.2 i a e).frame f⟩
theorem b8.frame{E:Env}{T:List (Nat×AV)}{tmps:Array SO}(h:b8 E T tmps)(f:Nat->Option Obj):b8 (E.frame f) T tmps:=λt a e=>⟨(h t a e).1,(h t a e).2.frame f⟩
theorem u7(E:Env)(f:Nat->Option Obj)(k:Nat)(x:aa):bK (E.frame f) k x=bK E k x:=by cases x<;>rfl
theorem fH.frame{E:Env}{V:View}{k:Nat}{x:aa}(h:fH E V k x)(f:Nat->Option Obj):fH (E.frame f) V k x:=by
 cases x with
 |cells l el=>obtain⟨⟨cs,h1,h2⟩,h3⟩:=h;exact⟨⟨cs,h1,h2.frame f⟩,h3⟩
 |part p l el=>obtain⟨⟨cs,h1,h2,h4⟩,h3⟩:=h;exact⟨⟨cs,h1,h2.frame f,h4⟩,h3⟩
 |own sz l el=>obtain⟨⟨cs,h1,h2,h4⟩,h3⟩:=h;exact⟨⟨cs,h1,h2.frame f,h4⟩,h3⟩
 |tail n sz el=>exact h
 |obj x=>exact h
 |iter=>exact h
 |loop=>obtain⟨⟨tmps,h1,h2,h3⟩,h4,h5⟩:=h;exact⟨⟨tmps,h1,h2,h3.frame f⟩,h4,h5⟩
 |gone=>trivial
 |main=>exact h
theorem Conc.xZ{E:Env}{V V':View}{H:List aa}(h:Conc E V H)(f:Nat->Option Obj)(hI:V'.ab=V.ab)
  (ho:∀b x k y,H[k]?=some y->bK E k y=some b->V.own b=some x->V'.own b=some x)
  (hg:∀g,V'.role.group=some g->V'.own g≠none/\(∀o,V'.ab g o=none)/\∀(k:Nat) x,H[k]?=some x->bK E k x≠some g)
  (hc:∀g,V'.role.chan=some g->V'.own g≠none/\(∀o,V'.ab g o=none)/\∀(k:Nat) x,H[k]?=some x->bK E k x≠some g)
  (ht:E.main=true->V'.role=.plain/\V'.deaf=0) (hf:∀b y,f b=some y->V'.own b=some y/\(∀o,V'.ab b o=none)/\∀(k:Nat) x,H[k]?=some x->bK E k x≠some b):Conc (E.frame f) V' H:=by
 have hlt:∀(k:Nat) y,H[k]?=some y->k<E.n:=λk y e=>by rw[h.n];exact(SM.1 e).1
 refine⟨by rw[hI];exact h.I,h.n,λk x e=>fH.frame ((h.obj k x e).mono (Env.Le.refl E) (hlt k x e) rfl (λb y hb hy=>ho b y k x e hb hy) (λb _ o=>by rw[hI])) f,λi j x y b h1 h2 h3 h4=> ?_,λg e=> ?_,λg e=> ?_,ht,λb y e=> ?_⟩
 ·rw[u7]at h3 h4;exact h.inj i j x y b h1 h2 h3 h4
 ·obtain⟨a,b,c⟩:=hg g e;exact⟨a,b,λk x e=>by rw[u7];exact c k x e⟩
 ·obtain⟨a,b,c⟩:=hc g e;exact⟨a,b,λk x e=>by rw[u7];exact c k x e⟩
 ·obtain⟨a,b',c⟩:=hf b y e;exact⟨a,b',λk x e=>by rw[u7];exact c k x e⟩
theorem Conc.CL{E:Env}{V:View}{H:List aa}(h:Conc E V H){b:Nat}{x:Obj}(hb:E.fr b=some x){k:Nat}{y:aa}(hk:H[k]?=some y){b':Nat}(dB:bK E k y=some b'):b'≠b:=λe=>by subst e;exact(h.fr _ x hb).2.2 k y hk dB
theorem Conc.aiC{E:Env}{V:View}{H:List aa}(h:Conc E V H){b:Nat}{x:Obj}(hb:E.fr b=some x)(y:Obj):Conc (E.frame λb'=>if b'=b then some y else E.fr b') (V.upd b y) H:=by
 obtain⟨p1,p2,p3⟩:=h.fr b x hb;refine h.xZ _ rfl (λb' z k w hk ku hz=> ?_) (λg hg=> ?_) (λg hg=> ?_) h.top (λb' z hz=> ?_)
 ·have:b'≠b:=h.CL hb hk ku;simpa[View.upd,this]using hz
 ·obtain⟨q1,q2,q3⟩:=h.group g hg;refine⟨?_,q2,q3⟩;simp only[View.upd];split
  ·simp
  ·exact q1
 ·obtain⟨q1,q2,q3⟩:=h.chan g hg;refine⟨?_,q2,q3⟩;simp only[View.upd];split
  ·simp
  ·exact q1
 ·by_cases e:b'=b
  ·subst e;rw[if_pos rfl]at hz;cases hz;exact⟨by simp[View.upd],p2,p3⟩
  ·rw[if_neg e]at hz;obtain⟨q1,q2,q3⟩:=h.fr b' z hz;exact⟨by simpa[View.upd,e]using q1,q2,q3⟩
theorem Conc.aiA{E:Env}{V:View}{H:List aa}(h:Conc E V H){b:Nat}(hb:V.fresh b)(y:Obj):Conc (E.frame λb'=>if b'=b then some y else E.fr b') (V.upd b y) H:=by
 have aG:∀(k:Nat) x,H[k]?=some x->bK E k x≠some b:=λk x hk e=>by
  obtain⟨z,hz⟩:=(h.obj k x hk).A1 e;rw[hb.1]at hz;cases hz
 refine h.xZ _ rfl (λb' z k w hk ku hz=> ?_) (λg hg=> ?_) (λg hg=> ?_) h.top (λb' z hz=> ?_)
 ·have:b'≠b:=λe=>by subst e;exact aG k w hk ku
  simpa[View.upd,this]using hz
 ·obtain⟨q1,q2,q3⟩:=h.group g hg;refine⟨?_,q2,q3⟩;simp only[View.upd];split
  ·simp
  ·exact q1
 ·obtain⟨q1,q2,q3⟩:=h.chan g hg;refine⟨?_,q2,q3⟩;simp only[View.upd];split
  ·simp
  ·exact q1
 ·by_cases e:b'=b
  ·subst e;rw[if_pos rfl]at hz;cases hz;exact⟨by simp[View.upd],hb.2,aG⟩
  ·rw[if_neg e]at hz;obtain⟨q1,q2,q3⟩:=h.fr b' z hz;exact⟨by simpa[View.upd,e]using q1,q2,q3⟩
theorem Conc.aiB{E:Env}{V:View}{H:List aa}(h:Conc E V H){id:Nat}{l:List AV}{el:TypeId}(hk:H[id]?=some (.cells l el)):∃cs,cG E l cs/\V.own (E.blk id)=some (.cells cs el (0,0))/\(∀o,V.ab (E.blk id) o=none)/\
  Conc (E.frame λb'=>if b'=E.blk id then some (.cells cs el (0,0))else E.fr b') V (H.set id .gone):=by
 obtain⟨⟨cs,h1,h2⟩,h3⟩:=h.obj id _ hk;refine⟨cs,h2,h1,h3,?_⟩;have hg:Conc E V (H.set id .gone):=by
  refine h.iz id .gone (Env.Le.refl E) h.I (by simpa using h.n) lf rfl (λ_ _ _=>rfl) (λb y _ hy=>⟨hy,λ_=>rfl⟩) trivial (λb e=>by cases e)
 have aG:∀(k:Nat) x,(H.set id .gone)[k]?=some x->bK E k x≠some (E.blk id):=λk x hx e=>by
  rcases lf k x hx with⟨rfl,rfl⟩|⟨aG,hx⟩
  ·cases e
  ·exact aG (h.inj k id x _ _ hx hk e rfl)
 refine hg.xZ _ rfl (λ_ _ _ _ _ _ hz=>hz) hg.group hg.chan h.top (λb' z hz=> ?_);by_cases e:b'=E.blk id
 ·subst e;rw[if_pos rfl]at hz;cases hz;exact⟨h1,h3,aG⟩
 ·rw[if_neg e]at hz;exact hg.fr b' z hz
theorem Conc.Gw{E:Env}{V:View}{H:List aa}(h:Conc E V H){id:Nat}{l:List AV}{el:TypeId}(hk:H[id]?=some (.cells l el))(p:Nat)(hp:p<=l.length):∃V',dT V V'/\V'.own=V.own/\V'.role=V.role/\V'.deaf=V.deaf/\E.Le {E with I:=V'.ab}/\Conc {E with I:=V'.ab} V' (H.set id (.part p l el))/\
  ap {E with I:=V'.ab} (.rp (l.take p)) (.pointer (some ⟨E.blk id,0,none⟩)):=by
 obtain⟨⟨cs,h1,h2⟩,h3⟩:=h.obj id _ hk;let V':=V.eE (E.blk id) cs λo=>decide (o<p);have kV:∀b o,b≠E.blk id->V'.ab b o=V.ab b o:=λb o hb=>by simp[V',View.eE,hb]
 have cN:∀o,o<p->V'.ab (E.blk id) o=cs[o]?:=λo ho=>by simp[V',View.eE,ho]
 have akk:∀o,p<=o->V'.ab (E.blk id) o=none:=λo ho=>by simp[V',View.eE,Nat.not_lt.2 ho,h3]
 have hle:E.Le {E with I:=V'.ab}:=⟨λb o v e=>by
  rw[h.I]at e;have hb:b≠E.blk id:=λhb=>by subst hb;rw[h3]at e;cases e
  show V'.ab b o=some v;rw[kV b o hb];exact e,SP _,λ_ _=>rfl,λ_ _=>SP _,λ_ _ _ _=>rfl,rfl,rfl⟩
 refine⟨V',w6 h1 (λo _=>h3 o),rfl,rfl,rfl,hle,?_,?_⟩
 ·refine h.iz (E':={E with I:=V'.ab}) id (.part p l el) hle rfl (by simpa using h.n) lf rfl (λ_ _ _=>rfl) (λb y hb hy=>⟨hy,λo=>kV b o λe=>hb _ hk (by rw[e];rfl)⟩) ⟨⟨cs,h1,(h2.mono hle).p,cN⟩,akk⟩ (λb e=> .inl ⟨_,hk,e⟩)
 ·refine .rp (E.blk id) 0 (λi=>cs.getD i undef) (λi hi=> ?_) λi x hx=> ?_
  ·have cx:i<p:=(by simp at hi;omega);rw[Wp];show V'.ab (E.blk id) i=_;rw[cN i cx];have:i<cs.size:=(by have:=h2.1;omega);simp[SI,SK this]
  ·rw[Uc]at hx;split at hx
   ·exact(h2.2 i x hx).mono hle
   ·cases hx
theorem Conc.alV{E:Env}{V V':View}{H:List aa}(h:Conc E V H)(ho:V'.own=V.own)(kV:∀b o v,V.ab b o=some v->V'.ab b o=some v)(gX:∀b o,V.own b≠none->V.ab b o=none->V'.ab b o=none)
  (hg:V'.role.group=none) (hc:V'.role.chan=none) (ht:E.main=true->V'.role=.plain/\V'.deaf=0):E.Le {E with I:=V'.ab}/\Conc {E with I:=V'.ab} V' H:=by
 have hle:E.Le {E with I:=V'.ab}:=⟨λb o v e=>by rw[h.I]at e;exact kV b o v e,SP _,λ_ _=>rfl,λ_ _=>SP _,λ_ _ _ _=>rfl,rfl,rfl⟩;have hlt:∀(k:Nat) y,H[k]?=some y->k<E.n:=λk y e=>by rw[h.n];exact(SM.1 e).1
 have key:∀b o,V.own b≠none->V'.ab b o=V.ab b o:=λb o hb=>by
  cases e:V.ab b o with
  |none=>exact gX b o hb e
  |some v=>exact kV b o v e
 refine⟨hle,rfl,h.n,λk x e=>(h.obj k x e).mono hle (hlt k x e) rfl (λb y _ hy=>by rw[ho];exact hy) (λb hb o=> ?_),h.inj,λg e=>(by rw[hg]at e;cases e),λg e=>(by rw[hc]at e;cases e),ht,λb y e=> ?_⟩
 ·obtain⟨y,hy⟩:=(h.obj k x e).A1 hb;exact key b o (by rw[hy];simp)
 ·obtain⟨q1,q2,q3⟩:=h.fr b y e;exact⟨by rw[ho];exact q1,λo=>by rw[key b o (by rw[q1];simp)];exact q2 o,q3⟩
section
variable {lv:Bool}{P:SJ}{nt id:Nat}{ops:Array Tv}{s:AS}{E:Env}{V:View}{a:Act}{Q:Ex->Act->View->Prop}{K:AS->Prop}
theorem G7(n m:Nat)(hn:ops.size=n+m)(dj:jL nt ops=true)(ah:At E V s a nt)(h:ie lv P ops (ops.toList.take n) s K (λ_ _=>False))
  (hk:∀E' V' a' s',Kept E E' V V' a a'->At E' V' s' a' nt->K s'->dh lv P none ops Q (Ua n m) a' V'):WP lv P none (.region id ops false) Q a V:=by
 refine wp_region ?_;have hr:S0 ops.size=Ua 0 n++Ua n m:=by
  have:=Y4 (s:=0) (m:=n) (n:=m);rw[Vm,hn,<- this];simp
 rw[hr];refine Aj _ _ _ (Gi (r:=none) (Φ:=λe s'=>match e with
  |.normal=>K s'
  |_=>False) (λo ho d e=>(jL.out dj ho).1 d e) rfl n 0 s (by omega) (by simpa using h) E V a _ ah λae e E' V' a' s' aI aS he hΦ=> ?_)
 cases ae<;>cases e<;>first
  |exact he.elim
  |exact hΦ.elim
  |exact hk E' V' a' s' aI aS hΦ
theorem Nc{n:Nat}{o:Tv}(ho:ops[n]?=some o)(hg:o.guard=none)(h:uU lv P o a V λa' V'=>Q .normal a' V'):dh lv P none ops Q (Ua n 1) a V:=by
 simp only[List.range'_one,dh,ho];rw[if_pos (by unfold Th;rw[hg])];exact .inr h
end
section
variable {lv main:Bool}{P:SJ}{J:View->SH->Prop}
theorem acV(C:Closed lv P main J){V:View}{fr:T9}{cs:List T9}{g:TQ}{ca aD:Array SO}{ds:List UV}(hd:fr.defers=⟨.fn (.func g) ca,aD⟩::ds)(hm:(fr.mode matches .run)=false)(hg:qq P g=true)
  (h:J V (G (Frame.enter P g (aD++ca) .deferred) ({fr with defers:=ds}::cs))):J V (G fr cs):=by
 refine C.step _ _ rfl λw hw=> ?_;have hs:aN P V (invoke (.fn (.func g) ca) aD) (λnx V'=>nx=.enter g (aD++ca)/\V'=V) (λ_ _=>False):=by
  unfold invoke;exact MC hg ⟨rfl,rfl⟩
 obtain⟨es,w',V',k1,k2,k3⟩:=hs.runs hw;rcases k3 with⟨nx,k3,rfl,rfl⟩|⟨_,_,h⟩
 ·refine⟨G (Frame.enter P g (aD++ca) .deferred) ({fr with defers:=ds}::cs),w',seen P fr.fn es,V',?_,k1.seen P fr.fn,h⟩;have e:stepG P main (G fr cs) w=unwind P main fr cs none w:=by
   obtain⟨fn,tmps,todo,defers,mode,kind,ro⟩:=fr;cases mode with
   |run=>cases hm
   |returning=>simp[G,stepG]
   |panicking ch=>simp[G,stepG]
  rw[e];simp only[unwind,hd];simp[callDeferred,TB,k3,k2,T1,G]
 ·exact h.elim
theorem agE(C:Closed lv P main J){f:TQ}{fn:ZP}{c:T5}{args:Array SO}{kd:Xb}{V:View}{cs:List T9}{Q:Act->View->Prop}(hk:kd≠ .early)(hf:P.funcs[f]?=some fn)(hb:fn.body=some c)
  (h:WP lv P none c (λe a V=>(match e with|.normal|.ret=>True|_=>False)/\Q a V) {tmps:=args++TL (fn.ntmps-args.size) undef,defers:=[]} V)
  (hQ:∀a V todo,Q a V->J V (G {fn:=f,tmps:=a.tmps,todo,defers:=a.defers,mode:=.returning,kind:=kd,roundOf:=none} cs)):J V (G (Frame.enter P f args kd) cs):=by
 let b:T9:={(default:T9)with fn:=f,kind:=kd,roundOf:=none};have ua:Frame.enter P f args kd=on b {tmps:=args++TL (fn.ntmps-args.size) undef,defers:=[]} [.code c]:=by
  simp[Frame.enter,on,hf,hb,b]
 rw[ua];refine h main J C b [] cs hk rfl λe a' V' q=> ?_;cases e with
 |normal=>exact C.idle rfl (λw=>CX rfl) (hQ a' V' [] q.2)
 |ret=>intro k;exact C.idle rfl (λw=>CY rfl) (hQ a' V' (.code .ret::k) q.2)
 |panic ch=>exact q.1.elim
 |exit id=>exact q.1.elim
 |goto l=>exact q.1.elim
end
def Env.ff (E:Env)(m:Bool):Env:={E with main:=m}
theorem ap.ff{E:Env}{a:AV}{v:SO}(h:ap E a v)(m:Bool):ap (E.ff m) a v:=by
 induction h with
 |val x=>exact .val x
 |agg hs _ ih=>exact .agg hs ih
 |aK hs _ ih=>exact .aK hs ih
 |sl b o cap g hc he h1 _ ih=>exact .sl b o cap g hc (by cases j4:‹End›<;>(subst j4;exact he)) h1 ih
 |nil he=>exact .nil (by cases j4:‹End›<;>(subst j4;exact he))
 |bE hi dP=>exact .bE (E:=E.ff m) hi dP
 |rp b o g h1 _ ih=>exact .rp b o g h1 ih
 |op hi=>exact .op (E:=E.ff m) hi
 |fn dF fP _ _ mI ld=>exact .fn dF fP mI ld
 |cX _ ih=>exact .cX ih
 |mp hi=>exact .mp (E:=E.ff m) hi
theorem cG.ff{E:Env}{l:List AV}{cs:Array SO}(h:cG E l cs)(m:Bool):cG (E.ff m) l cs:=⟨h.1,λi a e=>(h.2 i a e).ff m⟩
theorem jU.ff{E:Env}{l:List AV}{cs:Array SO}(h:jU E l cs)(m:Bool):jU (E.ff m) l cs:=⟨h.1,λi a e=>(h.2 i a e).ff m⟩
theorem b8.ff{E:Env}{T:List (Nat×AV)}{tmps:Array SO}(h:b8 E T tmps)(m:Bool):b8 (E.ff m) T tmps:=λt a e=>⟨(h t a e).1,(h t a e).2.ff m⟩
theorem u9(E:Env)(m:Bool)(k:Nat)(x:aa):bK (E.ff m) k x=bK E k x:=by cases x<;>rfl
theorem fH.ff{E:Env}{V:View}{k:Nat}{x:aa}(h:fH E V k x)(m:Bool)(hm:x=.main->m=true):fH (E.ff m) V k x:=by
 cases x with
 |cells l el=>obtain⟨⟨cs,h1,h2⟩,h3⟩:=h;exact⟨⟨cs,h1,h2.ff m⟩,h3⟩
 |part p l el=>obtain⟨⟨cs,h1,h2,h4⟩,h3⟩:=h;exact⟨⟨cs,h1,h2.ff m,h4⟩,h3⟩
 |own sz l el=>obtain⟨⟨cs,h1,h2,h4⟩,h3⟩:=h;exact⟨⟨cs,h1,h2.ff m,h4⟩,h3⟩
 |tail n sz el=>exact h
 |obj x=>exact h
 |iter=>exact h
 |loop=>obtain⟨⟨tmps,h1,h2,h3⟩,h4,h5⟩:=h;exact⟨⟨tmps,h1,h2,h3.ff m⟩,h4,h5⟩
 |gone=>trivial
 |main=>exact hm rfl
def strip:aa->aa
 |.main=> .gone
 |x=>x
theorem tG(E:Env)(k:Nat)(x:aa):bK E k (strip x)=bK E k x:=by cases x<;>rfl
theorem Conc.af6{E:Env}{V:View}{H:List aa}(h:Conc E V H):Conc (E.ff false) V (H.map strip):=by
 have get:∀(k:Nat) y,(H.map strip)[k]?=some y->∃x,H[k]?=some x/\strip x=y:=λk y e=>by
  rw[To]at e;obtain⟨x,e1,e2⟩:=Tq.1 e;exact⟨x,e1,e2⟩
 refine⟨h.I,by rw[Tn];exact h.n,λk y e=> ?_,λi j x y b h1 h2 h3 h4=> ?_,λg hg=> ?_,λg hg=> ?_,(λe=>by cases e),λb y e=> ?_⟩
 ·obtain⟨x,hx,rfl⟩:=get k y e;have lC:=h.obj k x hx;cases x<;>first
   |exact fH.ff lC false (λe=>by cases e)
   |exact True.intro
 ·obtain⟨x',hx,rfl⟩:=get i x h1;obtain⟨y',hy,rfl⟩:=get j y h2;rw[u9,tG]at h3 h4;exact h.inj i j x' y' b hx hy h3 h4
 ·obtain⟨a,b,c⟩:=h.group g hg;exact⟨a,b,λk y e=>by obtain⟨x,hx,rfl⟩:=get k y e;rw[u9,tG];exact c k x hx⟩
 ·obtain⟨a,b,c⟩:=h.chan g hg;exact⟨a,b,λk y e=>by obtain⟨x,hx,rfl⟩:=get k y e;rw[u9,tG];exact c k x hx⟩
 ·obtain⟨a,b',c⟩:=h.fr b y e;exact⟨a,b',λk y e=>by obtain⟨x,hx,rfl⟩:=get k y e;rw[u9,tG];exact c k x hx⟩
theorem Conc.aoH{E:Env}{V:View}{H:List aa}(h:Conc E V (H.map strip))(m:Bool)(f:Nat->Option Obj)(hm:∀(k:Nat),H[k]?=some aa.main->m=true)(ht:m=true->V.role=.plain/\V.deaf=0)(hf:∀b y,f b=some y->E.fr b=some y):Conc ((E.ff m).frame f) V H:=by
 have get:∀(k:Nat) x,H[k]?=some x->(H.map strip)[k]?=some (strip x):=λk x e=>by rw[To,e];rfl
 refine⟨h.I,h.n.trans (by rw[Tn]),λk x e=>fH.frame ?_ f,λi j x y b h1 h2 h3 h4=> ?_,λg hg=> ?_,λg hg=> ?_,ht,λb y e=> ?_⟩
 ·have lC:=h.obj k _ (get k x e);cases x<;>first
   |exact fH.ff lC m (λe=>by cases e)
   |exact hm k e
 ·rw[u7,u9]at h3 h4;exact h.inj i j _ _ b (get i x h1) (get j y h2) (by rw[tG];exact h3) (by rw[tG];exact h4)
 ·obtain⟨a,b,c⟩:=h.group g hg;exact⟨a,b,λk x e=>by rw[u7,u9,<- tG];exact c k _ (get k x e)⟩
 ·obtain⟨a,b,c⟩:=h.chan g hg;exact⟨a,b,λk x e=>by rw[u7,u9,<- tG];exact c k _ (get k x e)⟩
 ·obtain⟨a,b',c⟩:=h.fr b y (hf b y e);exact⟨a,b',λk x e=>by rw[u7,u9,<- tG];exact c k _ (get k x e)⟩
section
variable {lv:Bool}{P:SJ}{nt id:Nat}{ops:Array Tv}{s:AS}{E:Env}{V:View}{a:Act}{Q:Ex->Act->View->Prop}{N:Act->View->Prop}{o:Tv}
theorem ac4(ho:ops[0]?=some o)(hg:o.guard=none)(h:AB lv P none o a V (dh lv P none ops Q (Ua 1 (ops.size-1))) Q):WP lv P none (.region id ops false) Q a V:=by
 refine wp_region ?_;have aV:0<ops.size:=(SR.1 ho).1;have KC:S0 ops.size=0::Ua 1 (ops.size-1):=by
  rw[Vm];obtain⟨n,hn⟩:∃n,ops.size=n+1:=⟨ops.size-1,by omega⟩;rw[hn,VN];rfl
 rw[KC];simp only[dh,ho];rw[if_pos (by unfold Th;rw[hg])];exact h
theorem arA{k n:Nat}(ho:ops[k]?=some o)(hg:o.guard=none)(h:AB lv P none o a V (dh lv P none ops Q (Ua (k+1) n)) Q):dh lv P none ops Q (Ua k (n+1)) a V:=by
 rw[VN];simp only[dh,ho];rw[if_pos (by unfold Th;rw[hg])];exact h
theorem arB{k:Nat}(h:Q .normal a V):dh lv P none ops Q (Ua k 0) a V:=h
theorem Nd{k n:Nat}(s3:AS)(hk:k+n=ops.size)(dj:jL nt ops=true)(ah:At E V s a nt)(h:ie lv P ops (ops.toList.drop k) s (λs'=>s'.Sub s3) (λ_ _=>False))(hQ:∀E' V' a',Kept E E' V V' a a'->At E' V' s3 a' nt->Q .normal a' V'):dh lv P none ops Q (Ua k n) a V:=by
 refine zN (r:=none) (Φ:=λe s'=>match e with
  |.normal=>s'.Sub s3
  |_=>False) (λo ho d e=>(jL.out dj ho).1 d e) (λ_ _=> .inl rfl) n k s hk h E V a Q ah λae e E' V' a' s' aI aS he hΦ=> ?_
 cases ae<;>cases e<;>first
  |exact he.elim
  |exact hΦ.elim
  |exact hQ E' V' a' aI (aS.sub hΦ)
theorem ane{c:Xn}{f:TQ}(au:o.op=.call c)(aX:c.callee=.value (.func f))(hf:qq P f=true)(h:Body lv P f (c.args.map a.eval) .normal V (fun
  |.ret v,V'=>N (a.put o.dst v) V'
  |.panic _,_=>False)):AB lv P none o a V N Q:=by
 refine .inl ⟨.inl rfl,?_⟩;unfold execOp;rw[au];dsimp only;unfold resolve;rw[aX];dsimp only;have e:a.eval (.func f)=.func (.func f) #[] #[]:=rfl;rw[e];unfold U0;refine az (aq ?_);unfold invoke;dsimp only;refine MC hf ?_;have e2:#[]++c.args.map a.eval++#[]=c.args.map a.eval:=by simp
 rw[e2];exact h.mono λo V' hx=>by
  cases o with
  |ret v=>exact hx
  |panic ch=>exact hx.elim
theorem anf{t el:TypeId}{d:ChanDir}{i:We}(au:o.op=.makeChan t (.const (.int .i64 0)))(h1:P.underlying t=some (.chan d el))(h2:P.info? el=some i)(h:∀c,V.fresh c->N (a.put o.dst (.chan (some c))) (V.upd c (.chan 0 #[] false 0 0 false))):AB lv P none o a V N Q:=by
 refine .inl ⟨.inl rfl,?_⟩;unfold execOp;rw[au];dsimp only;have e:a.eval (.const (.int .i64 0))=.int .i64 0:=rfl;rw[e];unfold Instr.makeChan;refine az (az ?_);unfold asInt;refine aq ?_;refine ec h1 ?_;dsimp only;refine x9 h2 ?_;rw[if_neg (by simp[IntKind.max,as',as_])];refine az ?_;unfold newObj;exact ov λc hf=>cF (aq (aq (h c hf)))
end
theorem arz{lv:Bool}{P:SJ}{r:Option Nat}{code:T5}{Q:Ex->Act->View->Prop}{a:Act}{V:View}{c Wg:Nat}(sG:lv=true)(hr:V.role=.plain)(aG:c≠Wg)(hc:V.own c=some (.chan 0 #[] false 0 0 false)) (hW:V.own Wg≠none) (nZ:∀o,V.ab Wg o=none)
  (h:WP lv P r code Q a {V with role:=.fork c Wg []}):WP lv P r code Q a V:=λmain J C b k cs hb bX hL=>
 (C.more sG).start _ _ c Wg hr aG hc hW nZ (h main J C b k cs hb bX hL)
structure Env.Lo (E E':Env):Prop where
 I:∀b o v,E.I b o=some v->E'.I b o=some v
 n:E.n<=E'.n
 blk:∀k,k<E.n->E'.blk k=E.blk k
 fu:∀k,k<E.n->E.fu k<=E'.fu k
 room:∀k v,k<E.n->v<=E.fu k->E'.room k v=E.room k v
theorem Env.Le.lo{E E':Env}(h:E.Le E'):E.Lo E':=⟨h.I,h.n,h.blk,h.fu,h.room⟩
theorem Env.Lo.refl(E:Env):E.Lo E:=(Env.Le.refl E).lo
theorem Env.Lo.trans{E E' bO:Env}(h:E.Lo E')(k:E'.Lo bO):E.Lo bO:=
 ⟨λb o v e=>k.I b o v (h.I b o v e),UF h.n k.n,λi hi=>(k.blk i (Td hi h.n)).trans (h.blk i hi),λi hi=>UF (h.fu i hi) (k.fu i (Td hi h.n)),
  λi v hi hv=>(k.room i v (Td hi h.n) (UF hv (h.fu i hi))).trans (h.room i v hi hv)⟩
theorem Env.Lo.le{E E':Env}(h:E.Lo E'):E.Le ((E'.ff E.main).frame E.fr):=⟨h.I,h.n,h.blk,h.fu,h.room,rfl,rfl⟩
theorem ap.lo{E E':Env}(h:E.Lo E'){a:AV}{v:SO}(d:ap E a v):ap E' a v:=by
 have:=((d.mono h.le).ff E'.main).frame E'.fr;exact this
theorem Env.F1(E:Env)(f:Nat->Option Obj):E.Lo (E.frame f):=⟨λ_ _ _ h=>h,SP _,λ_ _=>rfl,λ_ _=>SP _,λ_ _ _ _=>rfl⟩
theorem Env.amc(E:Env)(m:Bool):E.Lo (E.ff m):=⟨λ_ _ _ h=>h,SP _,λ_ _=>rfl,λ_ _=>SP _,λ_ _ _ _=>rfl⟩
theorem Env.Lo.cut{E E':Env}(h:E.Lo E'){n:Nat}(hn:E.n<=n):E.Lo {E' with n:=n}:=⟨h.I,hn,h.blk,h.fu,h.room⟩
def Env.bare (E:Env):Env:=((({E with n:=0}:Env).ff false).frame λ_=>none)
theorem ap.bare{E:Env}{a:AV}{v:SO}(h:ap E a v)(hl:Lt 0 a):ap E.bare a v:=((h.trim hl).ff false).frame _
theorem afW{E:Env}{I:cq}{ro:mS}(hI:E.I=I)(hg:ro.group=none)(hc:ro.chan=none):Conc E.bare {ab:=I,own:=λ_=>none,deaf:=0,role:=ro} []:=
 ⟨hI,rfl,λk x e=>(by cases e),λi j x y b h1=>(by cases h1),λg e=>(by rw[hg]at e;cases e),λg e=>(by rw[hc]at e;cases e),λe=>(by cases e),λb y e=>(by cases e)⟩
theorem At.arm{E:Env}{V:View}{s:AS}{a:Act}{nt t id off:Nat}(h:At E V s a nt)(hl:look s.T t=some (.op id off)):a.eval (.tmp t)=.pointer (some ⟨E.blk id,off,none⟩):=by
 have hd:=(h.tok t _ hl).2;show a.tmps.getD t undef=_;generalize a.tmps.getD t undef=v at hd;cases hd;rfl
section
variable {lv:Bool}{P:SJ}{s:AS}{ms:List Nat}{nt:Nat}
def an.pC (id:Nat)(Φ:an->AS->List Nat->Prop):an->AS->List Nat->Prop
 |.exit i,s,ms=>if i=id then Φ .normal s ms else Φ (.exit i) s ms
 |e,s,ms=>Φ e s ms
theorem ae2{id:Nat}{c:T5}{Φ:an->AS->List Nat->Prop}(h:mm lv P nt c s ms (an.pC id Φ)):mm lv P nt (.block id c) s ms Φ:=by
 intro E V a Q ah hd hQ;refine wp_block (h E V a _ ah hd λae e E' V' a' s' cz hk aS cw he hΦ=> ?_);cases ae<;>cases e<;>first
  |exact he.elim
  |skip
 ·exact hQ .normal .normal E' V' a' s' cz hk aS cw trivial hΦ
 ·rename_i i j;have e:i=j:=he;subst e;by_cases bR:i=id
  ·simp only[Ex.inBlock,bR,if_true];simp only[an.pC,bR,if_true]at hΦ;exact hQ .normal _ E' V' a' s' cz hk aS cw trivial hΦ
  ·simp only[Ex.inBlock,bR,if_false];simp only[an.pC,bR,if_false]at hΦ;exact hQ (.exit i) _ E' V' a' s' cz hk aS cw rfl hΦ
 ·exact hQ _ _ E' V' a' s' cz hk aS cw he hΦ
 ·exact hQ _ _ E' V' a' s' cz hk aS cw he hΦ
 ·exact hQ _ _ E' V' a' s' cz hk aS cw he hΦ
def an.uK (Φ:an->AS->List Nat->Prop):an->AS->List Nat->Prop
 |.goto _,_,_=>False
 |e,s,ms=>Φ e s ms
theorem ae5{c:T5}{Φ:an->AS->List Nat->Prop}(h:mm lv P nt c s ms (an.uK Φ)):mm lv P nt (.scope c) s ms Φ:=by
 intro E V a Q ah hd hQ;refine ac5 (λ_ _ _ _=>False) ⟨0,h E V a _ ah hd λae e E' V' a' s' cz hk aS cw he hΦ=> ?_⟩ λ_ _ _ _ _ _ hf=>hf.elim;cases ae<;>cases e<;>first
  |exact he.elim
  |exact hΦ.elim
  |exact hQ _ _ E' V' a' s' cz hk aS cw he hΦ
theorem afq(id:Nat)(Φ:an->AS->List Nat->Prop)(s:AS)(ms:List Nat):an.pC id Φ .normal s ms=Φ .normal s ms:=by rw[an.pC];simp
theorem ap5(Φ:an->AS->List Nat->Prop)(s:AS)(ms:List Nat):an.uK Φ .normal s ms=Φ .normal s ms:=by rw[an.uK];simp
theorem ap7(Φ:an->AS->List Nat->Prop)(s:AS)(ms:List Nat):an.uK Φ .ret s ms=Φ .ret s ms:=by rw[an.uK];simp
theorem aqJ(K:AS->List Nat->Prop)(Φ:an->AS->List Nat->Prop)(s:AS)(ms:List Nat):an.rI K Φ .normal s ms=K s ms:=by rw[an.rI]
theorem aqL(K:AS->List Nat->Prop)(Φ:an->AS->List Nat->Prop)(s:AS)(ms:List Nat):an.rI K Φ .ret s ms=Φ .ret s ms:=by rw[an.rI];simp
@[congr] theorem asi {c : T5} {s s' : AS} {ms cz : List Nat} {Φ : an -> AS -> List Nat -> Prop} (h : s = s') (hd : ms = cz) : mm lv P nt c s ms Φ = mm lv P nt c s' cz Φ := by rw [h, hd]
@[congr] theorem as5 {K : AS -> List Nat -> Prop} {Φ : an -> AS -> List Nat -> Prop} {e e' : an} {s s' : AS} {ms cz : List Nat} (he : e = e') (h : s = s') (hd : ms = cz) : an.rI K Φ e s ms = an.rI K Φ e' s' cz := by rw [he, h, hd]
@[congr] theorem as1 {Φ : an -> AS -> List Nat -> Prop} {e e' : an} {s s' : AS} {ms cz : List Nat} (he : e = e') (h : s = s') (hd : ms = cz) : an.uK Φ e s ms = an.uK Φ e' s' cz := by rw [he, h, hd]
@[congr] theorem asw {rs : List UM} {n : Nat} {k kp : AV -> List aa -> Prop} {e e' : an} {s s' : AS} {ms cz : List Nat} (he : e = e') (h : s = s') (hd : ms = cz) : rR P rs n k kp e s ms = rR P rs n k kp e' s' cz := by rw [he, h, hd]
theorem air(rs:List UM)(n:Nat)(k kp:AV->List aa->Prop)(s:AS)(ms:List Nat):rR P rs n k kp .ret s ms=ao (iC ms s.H) λH'=>ao (gO P ⟨s.T,H'⟩ rs) λl=>cD n H' (iN l) k:=by rw[rR]
theorem yN(H:List aa):iC [] H=some H:=by rw[iC]
theorem yM{i:Nat}{ms:List Nat}{H:List aa}(h:H[i]?=some (.obj (.deferred (some [])))):iC (i::ms) H=iC ms (H.set i .gone):=by rw[iC];rw[h]
attribute [seval] afq ap5 ap7 aqJ aqL air yN
end
section
variable {lv:Bool}{P:SJ}{r:Option Nat}{s:AS}
theorem OI{E:Env}{I:cq}(hI:∀b o v,E.I b o=some v->I b o=some v){n:Nat}{l:List AV}{v:SO}(h:ap E (.sl n l .exact) v):∃a,ap (E.tok I (a,n) n) (.sl n l (.opn E.n)) v:=by
 cases h with
 |sl b o cap f dP he q1 q2=>
  have EL:cap=n:=he;subst EL;refine⟨some ⟨b,o,none⟩,?_⟩;have hle:=E.LC (I:=I) hI (some ⟨b,o,none⟩,cap) cap;exact .sl b o cap f dP ⟨by simp[Env.tok],by simp[Env.tok],by simp[Env.tok]⟩ (λi hi=>hle.I _ _ _ (q1 i hi)) (λi x hx=>(q2 i x hx).mono hle)
 |nil he=>exact⟨_,.nil ⟨by simp[Env.tok],by simp[Env.tok],by simp[Env.tok];rfl⟩⟩
theorem u6{nt t n sz:Nat}{c:T5}{l:List AV}{el:TypeId}{Φ:an->AS->Prop}(ht:look s.T t=some (.sl n l .exact))(h:aU lv P r nt c ⟨(t,.sl n l (.opn s.H.length))::s.T,s.H++[.tail n sz el]⟩ Φ):aU lv P r nt c s Φ:=λE V a Q ah hQ=>by
 obtain⟨hlt,hd⟩:=ah.tok t _ ht;obtain⟨ad,cw⟩:=OI (I:=V.ab) (λb o v h=>by rw[<- ah.bm.I];exact h) hd;obtain⟨hc,hle⟩:=ah.bm.MV (n:=n) sz el ad;refine h _ V a Q ⟨hc,λt' x hx=> ?_,ah.size⟩ λae e E' V' a' s' hk=>hQ ae e E' V' a' s' ((⟨hle,rfl,rfl,rfl,rfl⟩:Kept E _ V V a a).trans hk);simp only[look]at hx;split at hx
 ·rename_i e;subst e;cases hx;rw[<- ah.bm.n];exact⟨hlt,cw⟩
 ·exact⟨(ah.tok t' x hx).1,(ah.tok t' x hx).2.mono hle⟩
theorem OJ{E:Env}{l:List AV}{cs:Array SO}{j:Nat}{a b:AV}(h:cG E l cs)(hj:l[j]?=some a)(hb:∀v,ap E a v->ap E b v):cG E (l.set j b) cs:=by
 refine⟨by rw[TF];exact h.1,λi x hx=> ?_⟩;by_cases e:i=j
 ·subst e;rw[W5 (SM.1 hj).1]at hx;cases hx;exact hb _ (h.2 i a hj)
 ·rw[T6 (Ne.symm e)]at hx;exact h.2 i x hx
theorem HR{nt id j n sz:Nat}{c:T5}{l l':List AV}{el fY:TypeId}{Φ:an->AS->Prop}(bR:s.H[id]?=some (.cells l el))(hj:l[j]?=some (.sl n l' .exact))(h:aU lv P r nt c ⟨s.T,s.H.set id (.cells (l.set j (.sl n l' (.opn s.H.length))) el)++[aa.tail n sz fY]⟩ Φ):aU lv P r nt c s Φ:=λE V a Q ah hQ=>by
 have hc:=ah.bm;obtain⟨⟨cs,gX,hd⟩,kV⟩:=hc.obj id _ bR;obtain⟨ad,cw⟩:=OI (I:=V.ab) (λb o v h=>by rw[<- hc.I];exact h) (hd.2 j _ hj);obtain⟨bh,hle⟩:=hc.MV (n:=n) sz fY ad;have hlt:=(SM.1 bR).1;have hn:(E.tok V.ab (ad,n) n).n=s.H.length+1:=by simp[Env.tok,hc.n]
 have e:s.H.set id (.cells (l.set j (.sl n l' (.opn s.H.length))) el)++[aa.tail n sz fY]=(s.H++[aa.tail n sz fY]).set id (.cells (l.set j (.sl n l' (.opn s.H.length))) el):=(Ww _ _ hlt).symm;rw[e]at h;have EP:cG (E.tok V.ab (ad,n) n) (l.set j (.sl n l' (.opn s.H.length))) cs:=by
  have h0:=hd.mono hle;refine⟨by rw[TF];exact h0.1,λi x hx=> ?_⟩;by_cases ei:i=j
  ·subst ei;rw[W5 (SM.1 hj).1]at hx;cases hx;rw[<- hc.n];exact cw
  ·rw[T6 (Ne.symm ei)]at hx;exact h0.2 i x hx
 have hb:(E.tok V.ab (ad,n) n).blk id=E.blk id:=hle.blk id (by rw[hc.n];exact hlt);have cM:Conc (E.tok V.ab (ad,n) n) V ((s.H++[aa.tail n sz fY]).set id (.cells (l.set j (.sl n l' (.opn s.H.length))) el)):=by
  have cW:(s.H++[aa.tail n sz fY])[id]?=some (.cells l el):=by rw[SZ hlt];exact bR
  refine bh.iz id _ (Env.Le.refl _) bh.I (by rw[bh.n,TF]) lf rfl (λ_ _ _=>rfl) (λb y _ hy=>⟨hy,λ_=>rfl⟩) ⟨⟨cs,by rw[hb];exact gX,EP⟩,λo=>by rw[hb];exact kV o⟩ (λb dB=> .inl ⟨_,cW,dB⟩)
 refine h _ V a Q ⟨cM,ah.tok.mono hle,ah.size⟩ λae e E' V' a' s' hk=>hQ ae e E' V' a' s' ((⟨hle,rfl,rfl,rfl,rfl⟩:Kept E _ V V a a).trans hk)
theorem ae0{nt id j:Nat}{c:T5}{l:List AV}{x y:AV}{el:TypeId}{Φ:an->AS->Prop}(bR:s.H[id]?=some (.cells l el))(hj:l[j]?=some x)(hw:Wk x y)(h:aU lv P r nt c ⟨s.T,s.H.set id (.cells (l.set j y) el)⟩ Φ):aU lv P r nt c s Φ:=λE V a Q ah hQ=>by
 have hc:=ah.bm;obtain⟨⟨cs,gX,hd⟩,kV⟩:=hc.obj id _ bR;have cM:Conc E V (s.H.set id (.cells (l.set j y) el)):=
  hc.iz id _ (Env.Le.refl _) hc.I (by rw[hc.n,TF]) lf rfl (λ_ _ _=>rfl) (λb y _ hy=>⟨hy,λ_=>rfl⟩) ⟨⟨cs,gX,OJ hd hj (hw E)⟩,kV⟩ (λb dB=> .inl ⟨_,bR,dB⟩)
 exact h E V a Q ⟨cM,ah.tok,ah.size⟩ hQ
end
structure wB (X Y Z:Prop):Type where
 n:Nat
def UG (a:AV)(bU:Bool)(X Y Z:Prop)(_t:wB X Y Z):Prop:=(∃b,a=.val (.bool b)/\(b=bU->X)/\(b= !bU->Y))\/(a=.val undef/\Z)
theorem GY{b bU:Bool}{X Y Z:Prop}{t:wB X Y Z}:UG (.val (.bool b)) bU X Y Z t=((b=bU->X)/\(b= !bU->Y)):=by
 unfold UG;refine propext ⟨λh=> ?_,λh=> .inl ⟨b,rfl,h⟩⟩;rcases h with⟨b',e,h⟩|⟨e,_⟩
 ·cases e;exact h
 ·cases e
theorem arf(X Y Z:Prop)(t:wB X Y Z):UG (.val (.bool true)) true X Y Z t=X:=by rw[GY];simp
theorem are(X Y Z:Prop)(t:wB X Y Z):UG (.val (.bool true)) false X Y Z t=Y:=by rw[GY];simp
theorem ard(X Y Z:Prop)(t:wB X Y Z):UG (.val (.bool false)) true X Y Z t=Y:=by rw[GY];simp
theorem arc(X Y Z:Prop)(t:wB X Y Z):UG (.val (.bool false)) false X Y Z t=X:=by rw[GY];simp
theorem arh(bU:Bool)(X Y Z:Prop)(t:wB X Y Z):UG (.val undef) bU X Y Z t=Z:=by
 unfold UG;refine propext ⟨λh=> ?_,λh=> .inr ⟨rfl,h⟩⟩;rcases h with⟨b',e,_⟩|⟨_,h⟩
 ·cases e
 ·exact h
section
variable (lv:Bool)(P:SJ)
def nP (all:Array Tv):List Tv->AS->(AS->Prop)->(AV->AS->Prop)->Prop
 |[],s,next,_=>next s
 |o::rest,s,next,bad=>match o.guard with
  |none=>ml lv P s o (λs'=>nP all rest s' next bad) bad
  |some (j,bU)=>ao ((all[j]?).bind (·.dst)) λd=>ao (look s.T d) λa=>UG a bU (ml lv P ⟨(d,.val (.bool bU))::s.T,s.H⟩ o (λs'=>nP all rest s' next bad) bad) (nP all rest ((⟨(d,.val (.bool !bU))::s.T,s.H⟩:AS).put o.dst (.val undef)) next bad) (nP all rest (s.put o.dst (.val undef)) next bad) ⟨0⟩
end
theorem arb:type_of% @nP.eq_1:=by intros;rw[nP.eq_1]
theorem ara:type_of% @nP.eq_2:=by intros;rw[nP.eq_2]
@[congr] theorem ata {lv : Bool} {P : SJ} {s s' : AS} {all : Array Tv} {l : List Tv} {next : AS -> Prop} {bad : AV -> AS -> Prop} (h : s = s') : nP lv P all l s next bad = nP lv P all l s' next bad := by rw [h]
attribute [seval] arb ara arf are ard arc arh
section
variable {lv:Bool}{P:SJ}{r:Option Nat}{s:AS}
theorem G0{nt:Nat}{all:Array Tv}{Φ:an->AS->Prop}(dj:∀o∈all,∀d,o.dst=some d->d<nt)(nj:∀o∈all,r=none\/l_ o.op=false):∀(n k:Nat)(s:AS),k+n=all.size->nP lv P all (all.toList.drop k) s (Φ .normal) (λpv s=>Φ (.panic pv) s)->
  ∀(E:Env)(V:View)(a:Act)(Q:Ex->Act->View->Prop),At E V s a nt->(∀ae e E' V' a' s',Kept E E' V V' a a'->At E' V' s' a' nt->pt E' ae e->Φ ae s'->Q e a' V')->dh lv P r all Q (Ua k n) a V
 |0,k,s,hk,h,E,V,a,Q,ah,hQ=>by
  have:all.toList.drop k=[]:=by simp;omega
  rw[this]at h;exact hQ .normal .normal E V a s (Kept.refl E V a) ah trivial h
 |n+1,k,s,hk,h,E,V,a,Q,ah,hQ=>by
  have hlt:k<all.size:=by omega
  have hd:all.toList.drop k=all[k]::all.toList.drop (k+1):=by
   rw[TW (by simpa using hlt)];simp
  rw[hd]at h;have fA:all[k]∈all:=XS hlt;have ho:all[k]?=some all[k]:=SK hlt;simp only[VN,dh,ho];have go:∀s:AS,At E V s a nt->ml lv P s all[k] (λs'=>nP lv P all (all.toList.drop (k+1)) s' (Φ .normal) (λpv s=>Φ (.panic pv) s)) (λpv s=>Φ (.panic pv) s)->wC lv P r all[k] a V (dh lv P r all Q (Ua (k+1) n)) Q:=λs ah h=>by
   refine h.sound (lv:=lv) (r:=r) E V a _ Q ah.bm ah.tok (λd e=>by rw[ah.size];exact dj _ fA d e) (nj _ fA) (λE' V' a' s' aI bh l7 hn=> ?_) (λE' V' s' pv v aI bh l7 bi hb=> ?_)
   ·exact G0 dj nj n (k+1) s' (by omega) hn E' V' a' Q ⟨bh,l7,aI.size.trans ah.size⟩ (λae e bO aR b9 dg fN dc he hΦ=>hQ ae e bO aR b9 dg (aI.trans fN) dc he hΦ)
   ·exact hQ (.panic pv) (.panic _) E' V' a s' aI ⟨bh,l7,ah.size⟩ ⟨v,rfl,bi⟩ hb
  simp only[nP]at h;split at h
  ·rename_i hg;have hw:Th all[k] (yielded all a.tmps)=true:=(by unfold Th;rw[hg]);rw[if_pos hw];exact .inl (go s ah h)
  ·rename_i j bU hg;obtain⟨d,gf,h⟩:=h.out;obtain⟨av,h1,h⟩:=h.out;rcases h with⟨b,rfl,h2,h3⟩|⟨rfl,h3⟩
   case inr=>
    have hv:=(ah.tok d _ h1).2;have hy:yielded all a.tmps j≠some bU:=by
     obtain⟨oj,kz,iW⟩:=Tf.1 gf;generalize hx:a.tmps.getD d undef=x at hv;cases hv;have l5:d<a.tmps.size:=(ah.tok d _ h1).1;rw[SI,SK l5]at hx;simp only[S9]at hx;simp[yielded,kz,iW,SK l5,hx,undef]
    have hw:¬Th all[k] (yielded all a.tmps)=true:=by
     unfold Th;rw[hg];intro h;exact hy (by simpa using h)
    rw[if_neg hw];exact G0 dj nj n (k+1) (s.put all[k].dst (.val undef)) (by omega) h3 E V (a.put all[k].dst undef) Q
     ⟨by rw[fe];exact ah.bm,ah.tok.gN (λd e=>by rw[ah.size];exact dj _ fA d e) (.val undef),by rw[dX];exact ah.size⟩
     (λae e bO aR b9 dg fN dc he hΦ=>hQ ae e bO aR b9 dg ⟨fN.le,fN.size.trans (dX _ _ _),fN.defers.trans (put_defers _ _ _),fN.role,fN.deaf⟩ dc he hΦ)
   have hv:=(ah.tok d _ h1).2;have hy:yielded all a.tmps j=some b:=by
    obtain⟨oj,kz,iW⟩:=Tf.1 gf;generalize hx:a.tmps.getD d undef=x at hv;cases hv;have l5:d<a.tmps.size:=(ah.tok d _ h1).1;rw[SI,SK l5]at hx;simp only[S9]at hx;simp[yielded,kz,iW,SK l5,hx]
   have rq:∀b',b=b'->At E V ⟨(d,.val (.bool b'))::s.T,s.H⟩ a nt:=λb' dB=>by
    subst dB;refine⟨ah.bm,λt x e=> ?_,ah.size⟩;simp only[look]at e;split at e
    ·rename_i e';subst e';cases e;exact ah.tok d _ h1
    ·exact ah.tok t x e
   by_cases hb:b=bU
   ·have hw:Th all[k] (yielded all a.tmps)=true:=(by unfold Th;rw[hg];simp[hy,hb]);rw[if_pos hw];exact .inl (go _ (rq bU hb) (h2 hb))
   ·have hw:¬Th all[k] (yielded all a.tmps)=true:=(by unfold Th;rw[hg];simp[hy,hb]);rw[if_neg hw];have dB:b= !bU:=(by cases b<;>cases bU<;>simp_all);have vo:=h3 dB;have ah:=rq _ dB;exact G0 dj nj n (k+1) ((⟨(d,.val (.bool !bU))::s.T,s.H⟩:AS).put all[k].dst (.val undef)) (by omega) vo E V (a.put all[k].dst undef) Q
     ⟨by rw[fe];exact ah.bm,ah.tok.gN (λd e=>by rw[ah.size];exact dj _ fA d e) (.val undef),by rw[dX];exact ah.size⟩
     (λae e bO aR b9 dg fN dc he hΦ=>hQ ae e bO aR b9 dg ⟨fN.le,fN.size.trans (dX _ _ _),fN.defers.trans (put_defers _ _ _),fN.role,fN.deaf⟩ dc he hΦ)
theorem aeW{nt id:Nat}{ops:Array Tv}{Φ:an->AS->Prop}(hd:jL nt ops=true)(h:nP lv P ops ops.toList s (Φ .normal) (λpv s=>Φ (.panic pv) s)):aU lv P r nt (.region id ops false) s Φ:=by
 intro E V a Q ah hQ;refine wp_region ?_;rw[Vm];exact G0 (Φ:=Φ) (λo ho d e=>(jL.out hd ho).1 d e) (λo ho=> .inr (jL.out hd ho).2) ops.size 0 s (by omega) (by simpa using h) E V a Q ah hQ
end
section
variable (lv:Bool)(P:SJ)
def rW (all:Array Tv):List Tv->AS->(AS->Prop)->Prop
 |[],s,K=>K s
 |o::rest,s,K=>match o.guard with
  |none=>AQ lv P s o λav=>rW all rest (s.put o.dst av) K
  |some (j,bU)=>ao ((all[j]?).bind (·.dst)) λd=>ao (look s.T d) λa=>UG a bU (AQ lv P ⟨(d,.val (.bool bU))::s.T,s.H⟩ o λav=>rW all rest ((⟨(d,.val (.bool bU))::s.T,s.H⟩:AS).put o.dst av) K) (rW all rest ((⟨(d,.val (.bool !bU))::s.T,s.H⟩:AS).put o.dst (.val undef)) K) (rW all rest (s.put o.dst (.val undef)) K) ⟨0⟩
end
theorem aoA:type_of% @rW.eq_1:=by intros;rw[rW.eq_1]
theorem aoz:type_of% @rW.eq_2:=by intros;rw[rW.eq_2]
@[congr] theorem asZ {lv : Bool} {P : SJ} {s s' : AS} {all : Array Tv} {l l' : List Tv} {K : AS -> Prop} (hl : l = l') (h : s = s') : rW lv P all l s K = rW lv P all l' s' K := by rw [hl, h]
attribute [seval] aoA aoz
section
variable {lv:Bool}{P:SJ}{r:Option Nat}{s:AS}{ops:Array Tv}{nt p:Nat}
end
section
variable {P:SJ}
def Dx (P:SJ)(d:Nat)(t:TypeId):Prop:=(∃u,P.underlying t=some u/\yq u=false)/\∀x y:Int,cr P (U7 d t (.int .i64 x) (.int .i64 y)) (x==y)
def Dy (P:SJ)(d:Nat)(t:TypeId)(n:Nat):Prop:=(∃u,P.underlying t=some u/\yq u=true)/\(∃i,P.info? t=some i/\i.size=n)/\∀xs ys:List Int,xs.length=n->ys.length=n->cr P (U7 d t (.agg (xs.map (SG .i64)).toArray) (.agg (ys.map (SG .i64)).toArray)) (xs==ys)
inductive rQ (P:SJ)(d:Nat):Nat->List YS->Nat->Prop
 |nil (o:Nat):rQ P d o [] o
 | one {o n : Nat} {f : YS} {fs : List YS} (hn : f.name ≠ "_") (ho : f.offset = o) (h : Dx P d f.type) (t : rQ P d (o + 1) fs n) : rQ P d o (f :: fs) n
 | sub {o m n : Nat} {f : YS} {fs : List YS} (hn : f.name ≠ "_") (ho : f.offset = o) (h : Dy P d f.type m) (t : rQ P d (o + m) fs n) : rQ P d o (f :: fs) n
theorem rQ.le{d o n:Nat}{fs:List YS}(h:rQ P d o fs n):o<=n:=by
 induction h with
 |nil=>exact SP _
 |one _ _ _ _ ih=>omega
 |sub _ _ _ _ ih=>omega
theorem O9(xs:List Int)(o m:Nat):(xs.map (SG .i64)).toArray.extract o (o+m)=(((xs.drop o).take m).map (SG .i64)).toArray:=by
 simp[List.extract_eq_take_drop,VS,ae']
theorem aqo {d n N : Nat} {xs ys : List Int} {body : YS -> Option Bool × Unit -> Sem (ForInStep (Option Bool × Unit))} (hx : xs.length = N) (hy : ys.length = N) (hb : ∀ f s, body f s = (if f.name ≠ "_" then (do
   let a<- part f.type (xs.map (SG .i64)).toArray f.offset;let b<- part f.type (ys.map (SG .i64)).toArray f.offset;let r<- U7 d f.type a b
   if(!r)=true then pure (.done (some false,()))else pure (.yield (none,())))else pure (.yield (none,())))):
  ∀{o:Nat}{fs:List YS},rQ P d o fs n->n<=N->cr P (forIn fs (none,()) body) (if(xs.drop o).take (n-o)==(ys.drop o).take (n-o)then(none,())else(some false,())):=by
 intro o fs h hn;induction h with
 |nil o=>simpa using h_ (none,())
 |@one o n f fs Kj ho h t ih=>
  have hle:=t.le;have Rv:o<xs.length:=by omega
  have Rw:o<ys.length:=by omega
  obtain⟨⟨u,hu,Ck⟩,he⟩:=h;rw[WX,hb,if_pos Kj,ho];refine lj (a:=if xs[o]==ys[o]then .yield (none,())else .done (some false,())) ?_ ?_
  ·refine C8 hu Ck (v:=.int .i64 xs[o]) (by simp[Rv]) ?_;refine C8 hu Ck (v:=.int .i64 ys[o]) (by simp[Rw]) ?_;refine lj (he _ _) ?_;cases hq:xs[o]==ys[o]<;>exact h_ _
  ·have e:((xs.drop o).take (n-o)==(ys.drop o).take (n-o))=((xs[o]==ys[o])&&((xs.drop (o+1)).take (n-(o+1))==(ys.drop (o+1)).take (n-(o+1)))):=by
    rw[TW Rv,TW Rw,show n-o=(n-(o+1))+1 by omega,VQ,VQ];rfl
   rw[e];cases hq:xs[o]==ys[o]with
   |true=>simp only[if_true,U8];exact ih hn
   |false=>simp only[TO,if_false,Xf];exact h_ _
 |@sub o m n f fs Kj ho h t ih=>
  have hle:=t.le;obtain⟨⟨u,hu,Ck⟩,⟨i,hi,de⟩,he⟩:=h;rw[WX,hb,if_pos Kj,ho];refine lj (a:=if(xs.drop o).take m==(ys.drop o).take m then .yield (none,())else .done (some false,())) ?_ ?_
  ·refine acz hu Ck hi ?_;refine acz hu Ck hi ?_;rw[de,O9,O9];refine lj (he _ _ (by rw[TZ,Uj];omega) (by rw[TZ,Uj];omega)) ?_;cases hq:(xs.drop o).take m==(ys.drop o).take m<;>exact h_ _
  ·have e:((xs.drop o).take (n-o)==(ys.drop o).take (n-o))=(((xs.drop o).take m==(ys.drop o).take m)&&((xs.drop (o+m)).take (n-(o+m))==(ys.drop (o+m)).take (n-(o+m)))):=by
    have hs:∀zs:List Int,(zs.drop o).take (n-o)=(zs.drop o).take m++(zs.drop (o+m)).take (n-(o+m)):=λzs=>by
     rw[show n-o=m+(n-(o+m)) by omega,List.take_add,aj_]
    rw[hs,hs,Vk,Tc,beq_iff_eq,beq_iff_eq,beq_iff_eq];exact⟨λh=>List.append_inj h (by simp[TZ,Uj];omega),λh=>by rw[h.1,h.2]⟩
   rw[e];cases hq:(xs.drop o).take m==(ys.drop o).take m with
   |true=>simp only[if_true,U8];exact ih hn
   |false=>simp only[TO,if_false,Xf];exact h_ _
theorem agG{t:TypeId}{fs:Array YS}{d n:Nat}{i:We}(ht:P.underlying t=some (.struct fs))(hs:P.stoodInHeld t=false)(hi:P.info? t=some i)(de:i.size=n)(hf:rQ P d 0 fs.toList n):Dy P (d+1) t n:=by
 refine ⟨⟨_, ht, rfl⟩, ⟨i, hi, de⟩, λxs ys hx hy => ?_⟩;rw [U7];refine wj ht ?_;dsimp only;refine MR ?_;rw [hs];simp only [TO, if_false];rw [<- Array.forIn_toList];refine lj (a := if (xs == ys) then (none, ()) else (some false, ())) ?_ (by cases xs == ys <;> exact h_ _);have := aqo (body := λf (_ : Option Bool × Unit) => if f.name ≠ "_" then (do
   let a<- part f.type (xs.map (SG .i64)).toArray f.offset;let b<- part f.type (ys.map (SG .i64)).toArray f.offset;let r<- U7 d f.type a b
   if(!r)=true then pure (ForInStep.done (some false,()))else pure (YU (none,())))else pure (YU (none,()))) hx hy (λf s=>rfl) hf (SP _)
 simp only[Xw,ZU]at this;rw[SW (by omega),SW (by omega)]at this;exact this
theorem agF{t:TypeId}{k0:TU}{d:Nat}(ht:P.underlying t=some (.int k0)):Dx P (d+1) t:=⟨⟨_,ht,rfl⟩,λ_ _=>acx ht⟩
def Bc (g:TypeId->Option (Option Nat)):List YS->Nat->Option Nat
 |[],o=>some o
 | f :: fs, o => if f.name ≠ "_" /\ f.offset = o then (match g f.type with
  |some none=>Bc g fs (o+1)
  |some (some m)=>Bc g fs (o+m)
  |none=>none)else none
def wZ (P:SJ):Nat->TypeId->Option (Option Nat)
 |0,_=>none
 |d+1,t=>match P.underlying t with
  |some (.int _)=>some none
  |some (.struct fs)=>if P.stoodInHeld t then none else(match Bc (wZ P d) fs.toList 0,P.info? t with
   |some n,some i=>if i.size=n then some (some n)else none
   |_,_=>none)
  |_=>none
theorem IV{d n:Nat}{g:TypeId->Option (Option Nat)}(h1:∀t,g t=some none->Dx P d t)(h2:∀t m,g t=some (some m)->Dy P d t m):∀(fs:List YS)(o:Nat),Bc g fs o=some n->rQ P d o fs n
 |[],o,h=>by cases h;exact .nil _
 |f::fs,o,h=>by
  rw[Bc]at h;split at h
  ·rename_i hc;split at h
   ·rename_i hg;exact .one hc.1 hc.2 (h1 _ hg) (IV h1 h2 fs _ h)
   ·rename_i m hg;exact .sub hc.1 hc.2 (h2 _ _ hg) (IV h1 h2 fs _ h)
   ·cases h
  ·cases h
theorem Pv:∀(d:Nat)(t:TypeId),(wZ P d t=some none->Dx P d t)/\∀n,wZ P d t=some (some n)->Dy P d t n
 |0,t=>⟨λh=>by simp[wZ]at h,λn h=>by simp[wZ]at h⟩
 |d+1,t=>by
  have ih:=λt=>Pv d t;rw[wZ];split
  ·rename_i k0 hu;exact⟨λ_=>agF hu,λn h=>by cases h⟩
  ·rename_i fs hu;split
   ·exact⟨λh=>(by cases h),λn h=>by cases h⟩
   ·rename_i hs;split
    ·rename_i n i hf hi;split
     ·rename_i de;refine⟨λh=>(by cases h),λm h=> ?_⟩;cases h;exact agG hu (by simpa using hs) hi de (IV (λt=>(ih t).1) (λt=>(ih t).2) _ _ hf)
     ·exact⟨λh=>(by cases h),λn h=>by cases h⟩
    ·exact⟨λh=>(by cases h),λn h=>by cases h⟩
  ·exact⟨λh=>(by cases h),λn h=>by cases h⟩
theorem ad2{t:TypeId}{n:Nat}{xs ys:List Int}(h:wZ P 10000 t=some (some n))(hg:P.eqGuardType P.depth t=false)(hx:xs.length=n)(hy:ys.length=n)(k:AV->Prop):dp P .eql t (.agg (xs.map iv)) (.agg (ys.map iv)) k=k (bv (xs==ys)):=by
 have vR:cr P (Xe t (.agg (xs.map (SG .i64)).toArray) (.agg (ys.map (SG .i64)).toArray)) (xs==ys):=((Pv 10000 t).2 n h).2.2 xs ys hx hy;have e:dp P .eql t (.agg (xs.map iv)) (.agg (ys.map iv)) k=((XG=.eql\/XG=.neq)/\ao (AV.raw (.agg (xs.map iv))) λX=>ao (AV.raw (.agg (ys.map iv))) λY=>wV X Y=true/\P.eqGuardType P.depth t=false/\∃e,cr P (Xe t X Y) e/\k (.val (.bool (if XG== .neq then !e else e)))):=rfl;rw[e,xY,xY,v7,v7];apply propext;constructor
 ·rintro⟨_,_,_,b,h1,h2⟩
  rw[vR.uniq h1];exact h2
 ·intro h;exact⟨.inl rfl,rfl,hg,_,vR,h⟩
end
section
variable {lv:Bool}{P:SJ}{s:AS}{ms:List Nat}{bs:List UV}{nt:Nat}
def tr (E:Env)(ms:List Nat)(bs l:List UV):Prop:=l=ms.map (λi=>({target:=.collected (E.blk i),args:=#[]}:UV))++bs/\∀i∈ms,i<E.n
theorem tr.mono{E E':Env}(h:E.Le E'){ms:List Nat}{bs l:List UV}(k:tr E ms bs l):tr E' ms bs l:=
 ⟨by rw[k.1];congr 1;exact Vy λi hi=>by rw[h.blk i (k.2 i hi)],λi hi=>Td (k.2 i hi) h.n⟩
def kg (lv:Bool)(P:SJ)(nt:Nat)(bs:List UV)(c:T5)(s:AS)(ms:List Nat)(Φ:an->AS->List Nat->Prop):Prop:=
 ∀(E:Env)(V:View)(a:Act)(Q:Ex->Act->View->Prop),At E V s a nt->tr E ms bs a.defers->(∀ae e E' V' a' s' cz,qw E E' V V' a a'->At E' V' s' a' nt->tr E' cz bs a'.defers->pt E' ae e->Φ ae s' cz->Q e a' V')->WP lv P none c Q a V
theorem D2{c:T5}{Φ:an->AS->List Nat->Prop}(h:aU lv P none nt c s λe s'=>Φ e s' ms):kg lv P nt bs c s ms Φ:=λE V a Q ah hd hQ=>
 h E V a Q ah λae e E' V' a' s' hk aS he hΦ=>hQ ae e E' V' a' s' ms hk.d aS (by rw[hk.defers];exact hd.mono hk.le) he hΦ
theorem kg.mono{c:T5}{Φ Φ':an->AS->List Nat->Prop}(h:kg lv P nt bs c s ms Φ)(hq:∀e s ms,Φ e s ms->Φ' e s ms):kg lv P nt bs c s ms Φ':=λE V a Q ah hd hQ=>
 h E V a Q ah hd λae e E' V' a' s' cz hk aS cw he hΦ=>hQ ae e E' V' a' s' cz hk aS cw he (hq _ _ _ hΦ)
theorem D3{x y:T5}{Φ:an->AS->List Nat->Prop}(h:kg lv P nt bs x s ms (an.rI (λs' cz=>kg lv P nt bs y s' cz Φ) Φ)):kg lv P nt bs (.seq x y) s ms Φ:=by
 intro E V a Q ah hd hQ;refine wp_seq (h E V a _ ah hd λae e E' V' a' s' cz hk aS cw he hΦ=> ?_);cases ae<;>cases e<;>first
  |exact he.elim
  |exact hΦ E' V' a' Q aS cw λae e bO aR b9 dg CH aI dc y8 j4 sS=>hQ ae e bO aR b9 dg CH (hk.trans aI) dc y8 j4 sS
  |exact hQ _ _ E' V' a' s' cz hk aS cw he hΦ
theorem r_{x y:T5}{Φ:an->AS->List Nat->Prop}(h:aU lv P none nt x s (an.then (λs'=>kg lv P nt bs y s' ms Φ) λe s'=>Φ e s' ms)):kg lv P nt bs (.seq x y) s ms Φ:=by
 refine D3 (D2 (h.mono λe s' hs=> ?_));cases e<;>exact hs
theorem wN{id:Nat}{c:T5}{Φ:an->AS->List Nat->Prop}(h:kg lv P nt bs c s ms (an.pC id Φ)):kg lv P nt bs (.block id c) s ms Φ:=by
 intro E V a Q ah hd hQ;refine wp_block (h E V a _ ah hd λae e E' V' a' s' cz hk aS cw he hΦ=> ?_);cases ae<;>cases e<;>first
  |exact he.elim
  |skip
 ·exact hQ .normal .normal E' V' a' s' cz hk aS cw trivial hΦ
 ·rename_i i j;have e:i=j:=he;subst e;by_cases bR:i=id
  ·simp only[Ex.inBlock,bR,if_true];simp only[an.pC,bR,if_true]at hΦ;exact hQ .normal _ E' V' a' s' cz hk aS cw trivial hΦ
  ·simp only[Ex.inBlock,bR,if_false];simp only[an.pC,bR,if_false]at hΦ;exact hQ (.exit i) _ E' V' a' s' cz hk aS cw rfl hΦ
 ·exact hQ _ _ E' V' a' s' cz hk aS cw he hΦ
 ·exact hQ _ _ E' V' a' s' cz hk aS cw he hΦ
 ·exact hQ _ _ E' V' a' s' cz hk aS cw he hΦ
theorem N2{α:Type}{lt:α->α->Prop}(wf:WellFounded lt){c:T5}{Φ:an->AS->List Nat->Prop}(inv:α->AS)(mk:α->List Nat)(ok:α->Prop)(m:α)(h0:s.Sub (inv m))(ug:ms=mk m)(hm:ok m)
  (h:∀m,ok m->kg lv P nt bs c (inv m) (mk m) (an.rI (λs' cz=>∃m',lt m' m/\ok m'/\s'.Sub (inv m')/\cz=mk m') Φ)):kg lv P nt bs (.loop c) s ms Φ:=by
 subst ug;intro E V a Q ah hd hQ;refine Nb wf (I:=λm a' V'=>ok m/\∃E',qw E E' V V' a a'/\At E' V' (inv m) a' nt/\tr E' (mk m) bs a'.defers) m ⟨hm,E,(Kept.refl E V a).d,ah.sub h0,hd⟩ λm a' V' hI=> ?_;obtain⟨ay,E',hk,aS,cw⟩:=hI;refine h m ay E' V' a' _ aS cw λae e bO aR b9 dg CH aI dc y8 he hΦ=> ?_;cases ae<;>cases e<;>first
  |exact he.elim
  |(obtain⟨m',h1,h2,h3,rfl⟩:=hΦ
    exact⟨m',h1,h2,bO,hk.trans aI,dc.sub h3,y8⟩)
  |exact hQ _ _ bO aR b9 dg CH (hk.trans aI) dc y8 he hΦ
theorem ae7{f:Ti}{ps:Array Tmp}{bJ body:T5}{fv:AV}{Φ:an->AS->List Nat->Prop}(hf:s.ev f=some fv)
  (h:∀l fn:Nat,iQ lv P fv (s.H++[.obj (.deferred (some [])),.loop l .ready none fn s.T nt ps bJ body s.H.length]) [.fn (.yield l) [] []]
   (λ_ H'=>∃st pe fw T' jb gq fW fg fX,H'[s.H.length+1]?=some (.loop l st pe fw T' jb gq fW fg fX)/\st≠ .busy/\rV Φ ⟨s.T,H'.set (s.H.length+1) .gone⟩ (s.H.length::ms) pe)
   (λpv H'=>Φ (.panic pv) ⟨s.T,H'⟩ (s.H.length::ms))):kg lv P nt bs (.rangeFunc f ps bJ body) s ms Φ:=by
 intro E V a Q ah hm hQ;refine ac3 λfn d l hd hl=> ?_;have hc:=ah.bm;have di:Conc (E.add d V.ab) (V.upd d (.deferred (some []))) (s.H++[.obj (.deferred (some []))]):=by
  refine hc.add hd _ ⟨?_,rfl,rfl,λo=> ?_⟩ (λb e=> ?_)
  ·rw[Env.dJ];simp[View.upd]
  ·rw[Env.dJ];exact hd.2 o
  ·simp only[bK,Env.dJ,Tl]at e;exact e.symm
 have BZ:E.Le (E.add d V.ab):=E.qb d (λb o v h=>by rw[<- hc.I];exact h);have BG:(E.add d V.ab).blk s.H.length=d:=by rw[<- hc.n];exact E.dJ d _
 let E1:=E.add d V.ab;let V1:=V.upd d (.deferred (some []));have oW:E1.n=s.H.length+1:=by rw[di.n];simp
 have pQ:E1.Le (E1.add l V1.ab):=E1.qb l (λb o v h=>by rw[<- di.I];exact h);have cM:Conc (E1.add l V1.ab) (V1.upd l (.loop {state:=.ready,pending:=none,fn,tmps:=a.tmps,params:=ps,assign:=bJ,body,defers:=d})) ((s.H++[.obj (.deferred (some []))])++[.loop l .ready none fn s.T nt ps bJ body s.H.length]):=by
  refine di.add hl _ ⟨⟨a.tmps,?_,ah.size,(ah.tok.mono BZ).mono pQ⟩,?_,λo=> ?_,?_⟩ (λb e=> ?_)
  ·have e:(E1.add l V1.ab).blk s.H.length=d:=(by rw[pQ.blk s.H.length (by rw[oW];omega)];exact BG);rw[e,Env.dJ];simp[View.upd]
  ·show s.H.length<E1.n+1;omega
  ·rw[Env.dJ];exact hl.2 o
  ·exact Env.dJ _ _ _
  ·simp only[bK,Env.dJ,Tl]at e;exact e.symm
 have hle:E.Le (E1.add l V1.ab):=BZ.trans pQ;have Jw:(E1.add l V1.ab).blk s.H.length=d:=by rw[pQ.blk s.H.length (by rw[oW];omega)];exact BG
 rw[SD]at cM;have qX:∀E',(E1.add l V1.ab).Le E'->tr E' (s.H.length::ms) bs (mark a d).defers:=λE' hE=>by
  refine tr.mono hE ⟨?_,λi hi=> ?_⟩
  ·have:=(hm.mono hle).1;simp only[mark,UU,Jw,VA];rw[<- this]
  ·rcases SL.1 hi with rfl|hi
   ·show _<E1.n+1;omega
   ·exact Td (hm.2 i hi) hle.n
 have bw:=ap.ev ah.tok hf;have BI:=h l fn (E1.add l V1.ab) (V1.upd l (.loop {state:=.ready,pending:=none,fn,tmps:=a.tmps,params:=ps,assign:=bJ,body,defers:=d})) (a.eval f) #[.func (.yield l) #[] #[]] cM (bw.mono hle) ⟨rfl,λi x hx=>by
  match i,hx with
  |0,hx=>cases hx;exact .fn rfl rfl (by simp) (by simp)⟩
 have key:∀o V',gI (E1.add l V1.ab) (V1.upd l (.loop {state:=.ready,pending:=none,fn,tmps:=a.tmps,params:=ps,assign:=bJ,body,defers:=d}))
   (λ_ H'=>∃st pe fw T' jb gq fW fg fX,H'[s.H.length+1]?=some (.loop l st pe fw T' jb gq fW fg fX)/\st≠ .busy/\rV Φ ⟨s.T,H'.set (s.H.length+1) .gone⟩ (s.H.length::ms) pe)
   (λpv H'=>Φ (.panic pv) ⟨s.T,H'⟩ (s.H.length::ms)) o V'->DK l d Q a o V':=by
  intro o V' hr;cases o with
  |ret v=>
   obtain⟨av,E',H',hE,bX,eT,_,bh,st,pe,fw,T',jb,gq,fW,fg,fX,bR,aP,hp⟩:=hr;obtain⟨dB,ni,qn,ba,KM,sv,zq⟩:=bh.x_ bR;refine⟨_,ba,ni,aP,?_⟩;have hg:Conc E' (V'.upd l (.loop {state:=.exhausted,pending:=pe,fn:=fw,tmps:=qn,params:=gq,assign:=fW,body:=fg,defers:=E'.blk fX})) (H'.set (s.H.length+1) .gone):=bh.C1 _ bR _ (by simp only[bK,dB]);have aS:At E' (V'.upd l (.loop {state:=.exhausted,pending:=pe,fn:=fw,tmps:=qn,params:=gq,assign:=fW,body:=fg,defers:=E'.blk fX})) ⟨s.T,H'.set (s.H.length+1) .gone⟩ (mark a d) nt:=⟨hg,ah.tok.mono (hle.trans hE),ah.size⟩;have ek:qw E E' V (V'.upd l (.loop {state:=.exhausted,pending:=pe,fn:=fw,tmps:=qn,params:=gq,assign:=fW,body:=fg,defers:=E'.blk fX})) a (mark a d):=⟨hle.trans hE,rfl,bX,eT⟩;dsimp only
   match pe,hp,aS,ek with
   |none,hp,aS,ek=>exact hQ .normal .normal E' _ _ _ _ ek aS (qX E' hE) trivial hp
   |some .ret,hp,aS,ek=>exact hQ .ret .ret E' _ _ _ _ ek aS (qX E' hE) trivial hp
   |some (.exit i),hp,aS,ek=>exact hQ (.exit i) (.exit i) E' _ _ _ _ ek aS (qX E' hE) rfl hp
   |some (.goto i),hp,aS,ek=>exact hQ (.goto i) (.goto i) E' _ _ _ _ ek aS (qX E' hE) rfl hp
  |panic ch=>
   obtain⟨pv,v,E',H',rfl,hE,bX,eT,bi,bh,hp⟩:=hr;exact hQ (.panic pv) (.panic _) E' V' (mark a d) ⟨s.T,H'⟩ _ ⟨hle.trans hE,rfl,bX,eT⟩ ⟨bh,ah.tok.mono (hle.trans hE),ah.size⟩ (qX E' hE) ⟨v,rfl,bi⟩ hp
 exact BI.mono (λnx V' hn=>Nx.mono key hn) (λv V' hr=>key _ _ hr)
@[congr] theorem asj {c : T5} {s s' : AS} {ms cz : List Nat} {Φ : an -> AS -> List Nat -> Prop} (h : s = s') (hd : ms = cz) : kg lv P nt bs c s ms Φ = kg lv P nt bs c s' cz Φ := by rw [h, hd]
def tD (lv:Bool)(P:SJ)(fn:ZP)(R:Out->View->Prop):List UV->U5->Array SO->View->Prop
 |[],.returning,tmps,V=>∃v,aN P V (results fn tmps) (λx V'=>x=v/\V'=V) (λ_ _=>False)/\R (.ret v) V
 |[],.panicking ch,_,V=>R (.panic ch) V
 |d::ds,md,tmps,V=>(md matches .run)=false/\((∃b,d={target:=.collected b,args:=#[]}/\V.own b=some (.deferred (some []))/\V.role.chan≠some b/\tD lv P fn R ds md tmps (V.upd b (.deferred none)))\/
   ((∃f cQ,d.target=.fn f cQ)/\aN P V (invoke d.target d.args) (λnx V'=>∃g args,nx=.enter g args/\yf lv P g args md V' λnF aR=>tD lv P fn R ds nF tmps aR) (λ_ _=>False)))
 |[],.run,_,_=>False
theorem Dg{f:TQ}{fn:ZP}{kd:Xb}{R:Out->View->Prop}(hf:P.funcs[f]?=some fn){main:Bool}{J:View->SH->Prop}(C:Closed lv P main J){cs:List T9}(hR:∀o V' Bg,R o V'->Leaves P Bg f kd o V'->J V' (G Bg cs)):∀(ds:List UV)(md:U5)(V:View)(fr:T9),fr.fn=f->fr.kind=kd->fr.mode=md->fr.defers=ds->tD lv P fn R ds md fr.tmps V->J V (G fr cs)
 |[],.returning,V,fr,h1,h2,h3,h4,h=>by
  obtain⟨v,hs,hr⟩:=h;exact hR _ _ _ hr ⟨h1,h4,h2,fn,hf,h3,hs⟩
 |[],.panicking ch,V,fr,h1,h2,h3,h4,h=>hR _ _ _ h ⟨h1,h4,h2,fn,hf,h3⟩
 |[],.run,_,_,_,_,_,_,h=>h.elim
 |d::ds,md,V,fr,h1,h2,h3,h4,h=>by
  obtain⟨hm,⟨b,rfl,ho,eS,hu⟩|⟨⟨tf,cQ,ht⟩,hs⟩⟩:=h
  ·refine C.step _ _ rfl λw hw=> ?_;obtain⟨es,w',V',k1,k2,k3⟩:=(MG (P:=P) ho eS).runs hw;rcases k3 with⟨x,k3,rfl,rfl⟩|⟨_,_,hx⟩
   ·refine⟨G {fr with defers:=ds} cs,w',seen P fr.fn es,_,?_,k1.seen P fr.fn,?_⟩
    ·have e:∀main,stepG P main (G fr cs) w=unwind P main fr cs none w:=λmain=>by
      cases md with
      |run=>cases hm
      |returning=>simp[G,stepG,h3]
      |panicking ch=>simp[G,stepG,h3]
     rw[e];simp only[unwind,h4];simp[TB,k3,k2,T1,G]
    ·exact Dg hf C hR ds md _ {fr with defers:=ds} h1 h2 h3 rfl hu
   ·exact hx.elim
  ·refine C.step _ _ rfl λw hw=> ?_;obtain⟨es,w',V',k1,k2,k3⟩:=hs.runs hw;rcases k3 with⟨nx,k3,g,args,rfl,hd⟩|⟨_,_,h⟩
   ·refine⟨G (Frame.enter P g args .deferred) ({fr with defers:=ds}::cs),w',seen P fr.fn es,V',?_,k1.seen P fr.fn,?_⟩
    ·have e:∀main,stepG P main (G fr cs) w=unwind P main fr cs none w:=λmain=>by
      cases md with
      |run=>cases hm
      |returning=>simp[G,stepG,h3]
      |panicking ch=>simp[G,stepG,h3]
     rw[e];obtain⟨tgt,ar⟩:=d;simp only at ht k3 k2;subst ht;simp only[unwind,h4];simp[callDeferred,TB,k3,k2,T1,G]
    ·refine hd main J C {fr with defers:=ds} cs h3 λnF aR hU=> ?_;exact Dg hf C hR ds nF aR {fr with defers:=ds,mode:=nF} h1 h2 rfl rfl hU
   ·exact h.elim
def adf (lv:Bool)(P:SJ)(fn:ZP)(R:Out->View->Prop):Ex->Act->View->Prop
 |.normal,a,V|.ret,a,V=>tD lv P fn R a.defers .returning a.tmps V
 |.panic ch,a,V=>tD lv P fn R a.defers (.panicking ch) a.tmps V
 |_,_,_=>False
theorem afE{f:TQ}{fn:ZP}{c:T5}{args:Array SO}{kd:Xb}{V:View}{R:Out->View->Prop}(hk:kd≠ .early)(hf:P.funcs[f]?=some fn)(hb:fn.body=some c)
  (h:WP lv P none c (adf lv P fn R) {tmps:=args++TL (fn.ntmps-args.size) undef,defers:=[]} V):Body lv P f args kd V R:=by
 intro main J C cs hR;let b:T9:={(default:T9)with fn:=f,kind:=kd,roundOf:=none};have ua:Frame.enter P f args kd=on b {tmps:=args++TL (fn.ntmps-args.size) undef,defers:=[]} [.code c]:=by
  simp[Frame.enter,on,hf,hb,b]
 rw[ua];refine h main J C b [] cs hk rfl λe a' V' q=> ?_;cases e with
 |normal=>exact C.idle rfl (λw=>CX rfl) (Dg hf C hR _ _ _ _ rfl rfl rfl rfl q)
 |ret=>intro k;exact C.idle rfl (λw=>CY rfl) (Dg hf C hR _ _ _ _ rfl rfl rfl rfl q)
 |panic ch=>intro todo _;exact Dg hf C hR _ _ _ _ rfl rfl rfl rfl q
 |exit id=>exact q.elim
 |goto l=>exact q.elim
theorem acU{fn:ZP}{R:Out->View->Prop}{tmps:Array SO}{md:U5}(hm:(md matches .run)=false):∀(ms:List Nat)(H H':List aa)(E:Env)(V:View)(l:List UV),iC ms H=some H'->Conc E V H->tr E ms bs l->(∀V',V'.role=V.role->V'.deaf=V.deaf->Conc E V' H'->tD lv P fn R bs md tmps V')->tD lv P fn R l md tmps V
 |[],H,H',E,V,l,hg,hc,qY,hk=>by
  rw[iC]at hg;cases hg;have:l=bs:=qY.1;subst this;exact hk V rfl rfl hc
 |i::ms,H,H',E,V,l,hg,hc,qY,hk=>by
  simp only[iC]at hg;split at hg
  ·rename_i hi;obtain⟨e,hlt⟩:=qY;simp only[UU,VA]at e;subst e;obtain⟨p1,p2,p3,p4⟩:=hc.obj i _ hi;exact⟨hm,.inl ⟨_,rfl,p1,(hc.ja hi rfl).2,acU hm ms _ H' E _ _ hg (hc.C1 _ hi _ rfl) ⟨rfl,λj hj=>hlt j (by simp[hj])⟩ λV' h1 h2 h3=>hk V' h1 h2 h3⟩⟩
  ·cases hg
def yk (lv:Bool)(P:SJ)(rs:List UM)(n:Nat)(c:AV×List AV)(k kp:AV->List aa->Prop):an->AS->List Nat->Prop
 |.normal,s,ms|.ret,s,ms=>ao (iC ms s.H) λH'=>qt lv P c H' none (λH'=>ao (gO P ⟨s.T,H'⟩ rs) λl=>cD n H' (iN l) k) (λ_=>False)
 |.panic pv,s,ms=>ao (iC ms s.H) λH'=>qt lv P c H' (some pv) (λH'=>ao (gO P ⟨s.T,H'⟩ rs) λl=>cD n H' (iN l) k) (λH'=>cD n H' pv kp)
 |_,_,_=>False
end
end Go.Gg
namespace Go.Gg.Tk
structure iP where
 min:Int
 max:Int
 deriving DecidableEq
structure aB where
 number:iP
 hour:iP
 deriving DecidableEq
structure Seen where
 hour:Int
 next:iP
 deriving DecidableEq
structure ai where
 first:Int
 hours:Int
 am:Int
 seen:List Seen
 pieces:List aB
 aC:List aB
 deriving DecidableEq
def j8 (b:iP)(n:Int):Bool:=decide (b.min<=n)&&decide (n<=b.max)
def ft:Nat->List Int->Int->Int
 |i,a::b::l,n=>if a<=n/\n<b then i else ft (i+1) (b::l) n
 |_,_,_=> -1
def je (h:List Int)(n:Int):Int:=ft 0 h n
def fits (h:List Int)(y:aB)(n:Int):Bool:=decide (0<=je h n)&&j8 y.number n&&j8 y.hour (je h n)
def rD (x:ai)(hour:Nat)(n:Int):Bool:=x.seen.all λs=> !decide (s.hour=hour)||j8 s.next n
def kv (x:ai):Nat->List Int->List (List Int)
 |0,pre=>if rD x (pre.length-1) (pre.getLastD 0)then[pre]else[]
 |d+1,pre=>if rD x (pre.length-1) (pre.getLastD 0)then(S0 (x.am.toNat+1)).flatMap λn:Nat=>kv x d (pre++[pre.getLastD 0+(n:Int)])else[]
def aL (x:ai):List (List Int):=kv x x.hours.toNat [x.first]
def vI (x:ai)(t:Nat):List (List Int):=if rD x 0 x.first then kv x (x.hours.toNat-1) [x.first,x.first+t]else[]
def Ga (h:List Int):List Int:=(S0 (h.getLastD 0-h.headD 0).toNat).map λi:Nat=>h.headD 0+i
def mL (h:List Int):List aB->List Int->List (List Int)
 |[],t=>[t]
 |y::ys,t=>((Ga h).filter λn=>fits h y n&& !t.contains n).flatMap λn=>mL h ys (t++[n])
def pk (h:List Int)(ns:List Int):List aB->List Nat->List (List Nat)
 |[],t=>[t]
 |s::ss,t=>((S0 ns.length).filter λp=>fits h s (ns.getD p 0)&& !t.contains p).flatMap λp=>pk h ns ss (t++[p])
structure Tr where
 bz:List Int
 aA:List Int
 bY:List Nat
 deriving DecidableEq
def De (x:ai)(h ns:List Int):List Tr:=(pk h ns x.aC []).map λos=>⟨h,ns,os⟩
def oz (x:ai)(h:List Int):List Tr:=(mL h x.pieces []).flatMap (De x h)
def cp (x:ai):List Tr:=(aL x).flatMap (oz x)
def uL (x:ai)(h:List Int):List Tr:=(mL h x.pieces []).flatMap λns=>(De x h ns).take 1
def rJ (x:ai)(deep:Int)(h:List Int):List Tr:=if deep=0 then(uL x h).take 1 else if deep=1 then uL x h else oz x h
def G6 (x:ai)(deep:Int)(t:Nat):List Tr:=(vI x t).flatMap (rJ x deep)
theorem acL{i:Nat}:∀{h:List Int}{n:Int},ft i h n<i+h.length:=by
 intro h;induction h generalizing i with
 |nil=>intro n;simp[ft];omega
 |cons a h ih=>
  intro n;cases h with
  |nil=>simp[ft];omega
  |cons b l=>
   simp only[ft];split
   ·simp;omega
   ·have:=ih (i:=i+1) (n:=n);simp at this⊢;omega
theorem MX{i k:Nat}{z:Int}:∀{h:List Int}{n:Int},h.getLastD z=z->h≠[]->ft i (h++TN k z) n=ft i h n:=by
 intro h;induction h generalizing i with
 |nil=>intro n _ h;exact absurd rfl h
 |cons a h ih=>
  intro n hz _;cases h with
  |nil=>
   simp only[Zn,List.getLastD_nil]at hz;subst hz;have:∀(k i:Nat),ft i ([a]++TN k a) n= -1:=by
    intro k;induction k with
    |zero=>intro i;simp[ft]
    |succ k ihk=>
     intro i;rw[Ws,YX];simp only[ft];rw[if_neg (by omega)];exact ihk (i+1)
   rw[this];simp[ft]
  |cons b l=>
   have:=ih (i:=i+1) (n:=n) (by simpa using hz) (by simp);simp only[VA,ft]at this⊢;rw[this]
end Go.Gg.Tk
namespace Go.Gg.Tk
inductive dA (S:Type)where
 |go (s:S)
 |stop (s:S)
 |bad (s:S)
def bC {S α:Type}(f:S->α->dA S):List α->S->dA S
 |[],s=> .go s
 |a::l,s=>match f s a with
  |.go s'=>bC f l s'
  |r=>r
theorem qg{S α:Type}(f:S->α->dA S):∀(l m:List α)(s:S),bC f (l++m) s=match bC f l s with
  |.go s'=>bC f m s'
  |r=>r
 |[],m,s=>rfl
 |a::l,m,s=>by
  simp only[VA,bC];cases f s a with
  |go s'=>exact qg f l m s'
  |stop s'=>rfl
  |bad s'=>rfl
theorem MA{S α:Type}(f:S->α->dA S)(a:α)(s:S):bC f [a] s=f s a:=by
 simp only[bC];cases f s a<;>rfl
theorem CW{S α:Type}{f:S->α->dA S}{g:S->α->S}(h:∀s a,f s a=.go (g s a)):∀(l:List α)(s:S),bC f l s=.go (l.foldl g s)
 |[],s=>rfl
 |a::l,s=>by simp only[bC,h,UW];exact CW h l _
theorem zZ{S α:Type}{f:S->α->dA S}{I:S->Prop}{A:α->Prop}(h:∀s a s',I s->A a->f s a=.go s'->I s'):∀(l:List α)(s s':S),(∀a∈l,A a)->I s->bC f l s=.go s'->I s'
 |[],s,s',_,hs,e=>by cases e;exact hs
 |a::l,s,s',ha,hs,e=>by
  simp only[bC]at e;cases hf:f s a with
  |go s1=>rw[hf]at e;exact zZ h l s1 s' (λb hb=>ha b (by simp[hb])) (h s a s1 hs (ha a (by simp)) hf) e
  |stop s1=>rw[hf]at e;cases e
  |bad s1=>rw[hf]at e;cases e
def cH (h:List Int):List Int:=h++TN (4-h.length) (h.getLastD 0)
def mF (x:ai)(bf:Nat):Nat->List Int->List (List Int)
 |0,pre=>if rD x (pre.length-1) (pre.getLastD 0)then[cH pre]else[]
 |d+1,pre=>if rD x (pre.length-1) (pre.getLastD 0)then(S0 (x.am.toNat+1)).flatMap λn:Nat=>if pre.length=1/\n≠bf then[]else mF x bf d (pre++[pre.getLastD 0+(n:Int)])else[]
def kx (x:ai)(bf:Nat):List (List Int):=mF x bf x.hours.toNat [x.first]
def lw (h:List Int)(y:aB)(n:Nat):Bool:=decide (h.getD 0 0+n<h.getD 3 0)&&j8 y.number (h.getD 0 0+n)&&j8 y.hour (je h (h.getD 0 0+n))
def jk (p:Nat->Bool):Nat->Nat
 |0=>0
 |n+1=>if p n then jk p n|||2^n else jk p n
theorem A0{p:Nat->Bool}:∀{n i:Nat},(jk p n).testBit i=(decide (i<n)&&p i)
 |0,i=>by simp[jk]
 |n+1,i=>by
  have ih:=A0 (p:=p) (n:=n) (i:=i);simp only[jk];by_cases hp:p n=true
  ·rw[if_pos hp,Xk,ih,VM];by_cases hi:n=i
   ·subst hi;simp[hp]
   ·have:(i<n+1)<->i<n:=(by omega);simp[hi,this]
  ·rw[if_neg hp,ih];by_cases hi:i=n
   ·subst hi;simp at hp;simp[hp]
   ·have:(i<n+1)<->i<n:=(by omega);simp[this]
theorem D4{p:Nat->Bool}:∀{n:Nat},jk p n<2^n
 |0=>by simp[jk]
 |n+1=>by
  have ih:=D4 (p:=p) (n:=n);have h1:2^n<2^(n+1):=W7 (by omega) (by omega);simp only[jk];split
  ·exact WI (Wl ih h1) h1
  ·exact Wl ih h1
def bW (h:List Int)(y:aB):Nat:=jk (lw h y) 9
def kD:List Nat->Nat->List Nat->List (List Nat)
 |[],_,t=>[t]
 |q::qs,used,t=>(S0 9).flatMap λn=>if used.testBit n|| !q.testBit n then[]else kD qs (used|||2^n) (t++[n])
def mf (k:Nat)(ns:List Nat):List Nat->Nat->List Nat->List (List Nat)
 |[],_,o=>[o]
 |q::qs,given,o=>(S0 k).flatMap λp=>if given.testBit p|| !q.testBit (ns.getD p 0)then[]else mf k ns qs (given|||2^p) (o++[p])
def lg (k:Nat)(l:List Nat):List Int:=l.map (λn:Nat=>(n:Int))++TN (k-l.length) (-1)
def dS (h:List Int)(ns:List Nat):List Int:=h++lg 4 ns++[-1, -1, -1]
def dx (h:List Int)(ns os:List Nat):List Int:=h++lg 4 ns++lg 3 os
def fS (x:ai)(h:List Int):List (List Nat):=kD (x.pieces.map (bW h)) 0 []
def hO (x:ai)(h:List Int)(ns:List Nat):List (List Nat):=mf x.pieces.length ns (x.aC.map (bW h)) 0 []
def jf (x:ai)(deep:Int)(h:List Int):List (List Int):=
 let all:=(fS x h).map λns=>(hO x h ns).map λos=>dx h ns os
 if deep=0 then all.flatten.take 1 else if deep=1 then(all.map (·.take 1)).flatten else all.flatten
end Go.Gg.Tk
namespace Go.Gg.Tk
structure Kn where
 has:Bool
 aL:List (List Int)
 aA:List Nat
 hours:List Nat
 less:List Nat
 aT:List Nat
 first:List Int
def Kn.zero:Kn:=⟨false,[],[0,0,0,0],[0,0,0,0],[0,0,0,0],[0,0,0],TN 11 0⟩
def oG (l:List Nat)(p n:Nat):List Nat:=l.set p (l.getD p 0|||2^n)
def jA (hs:List (List Int))(h:List Int):List (List Int):=if h∈hs then hs else hs++[h]
def mi (t:List Int)(p:Nat):Nat:=(t.getD (4+p) 0).toNat
def C9 (t:List Int)(p:Nat):Nat:=(je (t.take 4) (t.getD (4+p) 0+t.getD 0 0)).toNat
def rG (t:List Int)(s:Nat):Nat:=(t.getD (8+s) 0).toNat
def jJ (F:Kn)(t:List Int):Kn:=if F.has then F else{F with has:=true,first:=t}
def mM (t:List Int):Nat->List Nat->List Nat
 |0,l=>l
 |s+1,l=>oG (mM t s l) s (rG t s)
def rz (t:List Int):Nat->List Nat->List Nat
 |0,l=>l
 |p+1,l=>oG (rz t p l) p (mi t p)
def vQ (t:List Int):Nat->List Nat->List Nat
 |0,l=>l
 |p+1,l=>oG (vQ t p l) p (C9 t p)
def vY (t:List Int)(p:Nat):Nat->List Nat->List Nat
 |0,l=>l
 |q+1,l=>if t.getD (4+p) 0<t.getD (4+q) 0 then oG (vY t p q l) p q else vY t p q l
def xP (t:List Int)(k:Nat):Nat->List Nat->List Nat
 |0,l=>l
 |p+1,l=>vY t p k (xP t k p l)
def ey (x:ai)(deep:Int)(F:Kn)(t:List Int):Kn:=
 let F:=jJ F t
 if deep=2 then{F with aT:=mM t x.aC.length F.aT}
 else if deep=0 then{F with aL:=jA F.aL (t.take 4)}
 else{F with aA:=rz t x.pieces.length F.aA,hours:=vQ t x.pieces.length F.hours,less:=xP t x.pieces.length x.pieces.length F.less}
def gF (x:ai)(deep:Int)(bf:Nat):Kn:=((kx x bf).flatMap (jf x deep)).foldl (ey x deep) Kn.zero
def lL (l m:List Nat):List Nat:=(List.zipWith (·|||·) l m)
end Go.Gg.Tk
namespace Go.Gg
open Go.Conc Go.Gg.Tk
theorem G8{n:Nat}(h:n<65536):S6.wrap (n:Int)=n:=by
 have h1:S6.bits=16:=rfl;have h2:S6.signed=false:=rfl;unfold W_;rw[h1,h2];simp;omega
theorem A4{n:Nat}(h:n<65536):(Ug S6.bits (n:Int)).toNat=n:=by
 have h1:S6.bits=16:=rfl;rw[h1,BitVec.ofInt_natCast,BitVec.toNat_ofNat];omega
theorem ai7{m n:Nat}(hm:m<65536):(S6.wrap (Ug S6.bits ((m:Int).fdiv (2^(min n S6.bits)))&&&Ug S6.bits 1).toNat==1)=m.testBit n:=by
 have h1:S6.bits=16:=rfl;have e:(m:Int).fdiv (2^(min n S6.bits))=((m/2^(min n 16):Nat):Int):=by
  rw[h1,Int.fdiv_eq_ediv_of_nonneg _ (by exact_mod_cast X_ _)];norm_cast
 have hlt:m/2^(min n 16)<65536:=Zc (Nat.div_le_self _ _) hm;rw[e,BitVec.toNat_and,A4 hlt,show (Ug S6.bits 1).toNat=1 from rfl,G8 (Zc Nat.and_le_left hlt)];have hb:m/2^(min n 16)&&&1=(m/2^(min n 16)) % 2:=Nat.and_one_is_mod _;rw[hb];have ht:m.testBit n=decide (m/2^n % 2=1):=Nat.testBit_eq_decide_div_mod_eq;by_cases hn:n<=16
 ·rw[Wu hn,ht];by_cases h:m/2^n % 2=1
  ·simp[h]
  ·have:m/2^n % 2=0:=(by omega);simp[this]
 ·rw[Nat.min_eq_right (by omega)];have h0:m/2^16=0:=Nat.div_eq_of_lt (by omega);have h2:m.testBit n=false:=Nat.testBit_lt_two_pow (Td hm (by calc 65536=2^16:=rfl
   _<=2^n:=Xl (by omega) (by omega)))
  rw[h0,h2];rfl
theorem arn{m n:Nat}(hm:m<65536)(hn:n<16):S6.wrap (Ug S6.bits (m:Int)|||Ug S6.bits (S6.wrap (1* 2^(min n S6.bits)))).toNat=((m|||2^n:Nat):Int):=by
 have h1:S6.bits=16:=rfl;have hp:2^n<65536:=by calc 2^n<2^16:=W7 (by omega) hn
  _=65536:=rfl
 have e:S6.wrap (1* 2^(min n S6.bits))=((2^n:Nat):Int):=by
  rw[h1,Wu (by omega),Int.one_mul,<- G8 hp];norm_cast
 rw[e,Zl,A4 hm,A4 hp];exact G8 (WI (n:=16) hm hp)
theorem Gn{m n:Nat}(hm:m<65536)(hn:n<65536):S6.wrap (Ug S6.bits (m:Int)|||Ug S6.bits (n:Int)).toNat=((m|||n:Nat):Int):=by
 rw[Zl,A4 hm,A4 hn];exact G8 (WI (n:=16) hm hn)
theorem pj{m n:Nat}(hm:m<65536)(hn:n<65536):m|||n<65536:=WI (n:=16) hm hn
theorem wn{n:Nat}(hn:n<16):2^n<65536:=by calc 2^n<2^16:=W7 (by omega) hn
  _=65536:=rfl
abbrev wv (m:Nat):AV:=.val (.int .u16 m)
def cU {S:Type}(Gf:S->List aa)(pv:AV)(k kp:AV->List aa->Prop)(M:List aa):dA S->Prop
 |.go s=>k (.val (.bool true)) (Gf s++M)
 |.stop s=>k (.val (.bool false)) (Gf s++M)
 |.bad s=>kp pv (Gf s++M)
def fV {S:Type}(Gf:S->List aa)(pv:AV)(k kp:AV->List aa->Prop)(M:List aa):dA S->Prop
 |.go s=>k (.aK []) (Gf s++M)
 |.stop s=>k (.aK []) (Gf s++M)
 |.bad s=>kp pv (Gf s++M)
structure jI (lv:Bool)(P:SJ)(yv:AV){S:Type}(f:S->List Int->dA S)(Gf:S->List aa)(N:Nat)(I:S->Prop)(A:List Int->Prop)(pv:AV):Prop where
 call:∀(σ:S)(a:List Int)(M:List aa)(k kp:AV->List aa->Prop),I σ->A a->cU Gf pv k kp M (f σ a)->iQ lv P yv (Gf σ++M) [.agg (a.map λn=> .val (.int .i64 n))] k kp
 inv:∀σ a σ',I σ->A a->f σ a=.go σ'->I σ'
 len:∀σ,(Gf σ).length=N
 ok:∀m σ σ',(∀z∈Gf σ,eY m z)->∀z∈Gf σ',eY m z
 sure:yv.sure=true
 parts:yv.parts=some [yv]
 leaf:yv.leaf=true
theorem jI.get{lv:Bool}{P:SJ}{yv:AV}{S:Type}{f:S->List Int->dA S}{Gf:S->List aa}{N:Nat}{I:S->Prop}{A:List Int->Prop}{pv:AV}(h:jI lv P yv f Gf N I A pv)(σ:S)(L:List aa)(i:Nat):(Gf σ++L)[N+i]?=L[i]?:=by
 rw[<- h.len σ,Tj (by omega)];congr 1;omega
theorem jI.set{lv:Bool}{P:SJ}{yv:AV}{S:Type}{f:S->List Int->dA S}{Gf:S->List aa}{N:Nat}{I:S->Prop}{A:List Int->Prop}{pv:AV}(h:jI lv P yv f Gf N I A pv)(σ:S)(L:List aa)(i:Nat)(x:aa):(Gf σ++L).set (N+i) x=Gf σ++L.set i x:=by
 rw[<- h.len σ,UO _ _ (by omega)];congr 2;omega
theorem jI.ay{lv:Bool}{P:SJ}{yv:AV}{S:Type}{f:S->List Int->dA S}{Gf:S->List aa}{N:Nat}{I:S->Prop}{A:List Int->Prop}{pv:AV}(h:jI lv P yv f Gf N I A pv){σ:S}{M:List aa}(hH:bM (Gf σ++M))(σ':S):bM (Gf σ'++M):=λz hz=>by
 have hl:(Gf σ'++M).length=(Gf σ++M).length:=by simp[h.len]
 rw[hl];rcases SS.1 hz with h'|h'
 ·exact h.ok _ σ σ' (λw hw=>hH w (Tg _ hw)) z h'
 ·exact hH z (S5 _ h')
def rT (l:Nat)(S:Nat->AS)(ok:Nat->Prop)(m:Nat)(Φ:an->AS->Prop):an->AS->Prop
 |.goto l',s=>l'=l/\∃m',m'<m/\ok m'/\s.Sub (S m')
 |e,s=>Φ e s
section
variable {lv:Bool}{P:SJ}{r:Option Nat}{s:AS}
end
theorem al8(l:Nat)(S:Nat->AS)(ok:Nat->Prop)(m:Nat)(Φ:an->AS->Prop)(s:AS):rT l S ok m Φ .normal s=Φ .normal s:=by rw[rT];simp
theorem ama(l:Nat)(S:Nat->AS)(ok:Nat->Prop)(m:Nat)(Φ:an->AS->Prop)(s:AS):rT l S ok m Φ .ret s=Φ .ret s:=by rw[rT];simp
theorem al7(l:Nat)(S:Nat->AS)(ok:Nat->Prop)(m:Nat)(Φ:an->AS->Prop)(i:Nat)(s:AS):rT l S ok m Φ (.exit i) s=Φ (.exit i) s:=by rw[rT];simp
theorem al9(l:Nat)(S:Nat->AS)(ok:Nat->Prop)(m:Nat)(Φ:an->AS->Prop)(a:AV)(s:AS):rT l S ok m Φ (.panic a) s=Φ (.panic a) s:=by rw[rT];simp
@[congr] theorem asV {l m : Nat} {S : Nat -> AS} {ok : Nat -> Prop} {s s' : AS} {Φ : an -> AS -> Prop} {e e' : an} (he : e = e') (h : s = s') : rT l S ok m Φ e s = rT l S ok m Φ e' s' := by rw [he, h]
attribute [seval] al8 ama al7 al9
open Go.Proofs
namespace Tk
def iP.l (b:iP):List AV:=[iv b.min,iv b.max]
def iP.av (b:iP):AV:=.agg b.l
def aB.l (y:aB):List AV:=[iv y.number.min,iv y.number.max,iv y.hour.min,iv y.hour.max]
def aB.av (y:aB):AV:=.agg y.l
def Seen.l (s:Seen):List AV:=[iv s.hour,iv s.next.min,iv s.next.max]
def Seen.av (s:Seen):AV:=.agg s.l
def br (xs:List Int):AV:=.sl xs.length (xs.map iv) .shut
def yp (ls:List (List Int)):AV:=.sl ls.length (ls.map br) .shut
def aY (xs:List aB):AV:=.sl xs.length (xs.flatMap aB.l) .shut
def dN (xs:List Seen):AV:=.sl xs.length (xs.flatMap Seen.l) .shut
def ai.l (x:ai):List AV:=[iv x.first,iv x.hours,iv x.am,dN x.seen,aY x.pieces,aY x.aC]
def ai.av (x:ai):AV:=.agg x.l
theorem aB.len(b:aB):b.l.length=4:=rfl
theorem Seen.len(b:Seen):b.l.length=3:=rfl
end Tk
section
variable {i:Nat}
theorem gE{xs:List Int}{x:Int}(h:xs[i]?=some x):AV.shift i (.rp (xs.map iv))=some (.rp (iv x::(xs.drop (i+1)).map iv)):=by have:=ab3 (f:=iv) h;rwa [Ya]at this
theorem ab0{xs:List (List Int)}{x:List Int}(h:xs[i]?=some x):AV.shift i (.rp (xs.map br))=some (.rp (br x::(xs.drop (i+1)).map br)):=by have:=ab3 (f:=br) h;rwa [Ya]at this
theorem C3{xs:List aB}{x:aB}(h:xs[i]?=some x):AV.shift (i* 4) (.rp (xs.flatMap aB.l))=some (.rp (iv x.number.min::iv x.number.max::iv x.hour.min::iv x.hour.max::(xs.drop (i+1)).flatMap aB.l)):=ab2 aB.len h
theorem ab1{xs:List Seen}{x:Seen}(h:xs[i]?=some x):AV.shift (i* 3) (.rp (xs.flatMap Seen.l))=some (.rp (iv x.hour::iv x.next.min::iv x.next.max::(xs.drop (i+1)).flatMap Seen.l)):=ab2 Seen.len h
end
theorem zH(n:Nat)(xs:List Int):Lt n (br xs)=True:=by simp[br,uA,eD]
theorem aas(n:Nat)(xs:List (List Int)):Lt n (yp xs)=True:=by
 simp only[yp,uA,Tm,eq_iff_iff,iff_true]
 rintro a ⟨b,_,rfl⟩
 rw[zH];trivial
theorem F3(n:Nat)(xs:List aB):Lt n (aY xs)=True:=by
 simp only[aY,uA,S7,eq_iff_iff,iff_true]
 rintro a ⟨b,_,h⟩
 simp only[aB.l,SL,S4,or_false]at h;rcases h with rfl|rfl|rfl|rfl<;>exact .val _
theorem aat(n:Nat)(xs:List Seen):Lt n (dN xs)=True:=by
 simp only[dN,uA,S7,eq_iff_iff,iff_true]
 rintro a ⟨b,_,h⟩
 simp only[Seen.l,SL,S4,or_false]at h;rcases h with rfl|rfl|rfl<;>exact .val _
theorem aar(n:Nat)(x:ai):∀a∈x.l,Lt n a:=by
 intro a ha;simp only[ai.l,SL,S4,or_false]at ha;rcases ha with rfl|rfl|rfl|rfl|rfl|rfl
 ·exact .val _
 ·exact .val _
 ·exact .val _
 ·rw[aat];trivial
 ·rw[F3];trivial
 ·rw[F3];trivial
theorem F4(n:Nat)(x:ai):Lt n x.av=True:=by simp only[ai.av,sV,eq_iff_iff,iff_true];exact aar n x
open Go.Conc Go.Proofs Go.Gg.Tk
namespace Tk
structure mo (h:List Int):Prop where
 len:h.length=4
 lo:∀a∈h,0<=a
 hi:∀a∈h,a<=1000
 span:h.getD 3 0<=h.getD 0 0+9
theorem mo.out{h:List Int}(k:mo h):∃a b c d,h=[a,b,c,d]/\(0<=a/\a<=1000)/\(0<=b/\b<=1000)/\(0<=c/\c<=1000)/\(0<=d/\d<=1000)/\d<=a+9:=by
 match h,k with
 |[a,b,c,d],k=>exact⟨a,b,c,d,rfl,⟨k.lo a (by simp),k.hi a (by simp)⟩,⟨k.lo b (by simp),k.hi b (by simp)⟩,⟨k.lo c (by simp),k.hi c (by simp)⟩,⟨k.lo d (by simp),k.hi d (by simp)⟩,by simpa using k.span⟩
theorem aih{h:List Int}{y:aB}{n:Nat}(hn:(h.getD 3 0-h.getD 0 0).toNat<=n):lw h y n=false:=by
 unfold lw;rw[show decide (h.getD 0 0+(n:Int)<h.getD 3 0)=false from decide_eq_false (by omega)];rfl
theorem aii{h:List Int}{y:aB}(hs:h.getD 3 0<=h.getD 0 0+9):bW h y=jk (lw h y) (h.getD 3 0-h.getD 0 0).toNat:=by
 apply Nat.eq_of_testBit_eq;intro i;unfold bW;rw[A0,A0];by_cases hi:i<(h.getD 3 0-h.getD 0 0).toNat
 ·have h9:i<9:=by omega
  rw[decide_eq_true hi,decide_eq_true h9]
 ·rw[aih (by omega)];simp
theorem Pr(h:List Int)(y:aB):bW h y<512:=D4 (n:=9)
end Tk
theorem vg{α:Type}{xs:List α}{i:Nat}{x:α}(h:xs[i]?=some x):xs.drop i=x::xs.drop (i+1):=by
 obtain⟨h1,h2⟩:=SM.1 h;rw[TW h1,h2]
section
variable {lv:Bool}{H:List aa}{k kp:AV->List aa->Prop}
theorem IP{b:iP}{n:Int}(hk:k (bv (j8 b n)) H):bc lv SC 88 H [b.av,iv n] k kp:=by
 refine bF (rs:=[.tmp 4]) (nt:=15) Tryz.f88 λhH hA=> ?_;simp only[bk,SX,iP.av,iP.l];refine ak ?_;refine ak ?_;refine w7 (λh=> ?_) (λh=> ?_)
 ·(try simp only[seval]);refine a_ ?_;exact lr hH (by simpa[j8,h]using hk)
 ·(try simp only[seval]);refine a_ ?_;exact lr hH (by simpa[j8,h]using hk)
theorem Pl{h:List Int}{n:Int}(h4:h.length=4)(hk:k (iv (je h n)) H):bc lv SC 90 H [.agg (h.map iv),iv n] k kp:=by
 refine bF (rs:=[.tmp 4]) (nt:=24) Tryz.f90 λhH hA=> ?_;simp only[bk,SX];have pP:(h.map iv).length=4:=by simp[h4]
 refine ak ?_;refine ak ?_;refine cI ?_;refine r6 3 (λi:Nat=>[(6,iv i)]) (λ_=>_) (λi=>je h n=ft i (h.drop i) n) rfl (λce db i cN hi R hR=> ?_);refine ak ?_;refine aE ?_;refine⟨λhc=> ?_,λhc=> ?_⟩
 ·
  have pM:i<3:=by omega
  obtain⟨a,ha⟩:=cy (xs:=h) (i:=i) (by omega);obtain⟨b,hb⟩:=cy (xs:=h) (i:=i+1) (by omega);have e4:(0<=(i:Int)/\(i:Int)<4)=True:=by simp;omega
  have OZ:(0<=(i:Int)+1/\(i:Int)+1<4)=True:=by simp;omega
  have hw:SE.wrap ((i:Int)+1)=(i:Int)+1:=bG _ (by omega);have oW:((i:Int)+1).toNat=i+1:=by omega
  have k_:ft i (h.drop i) n=if a<=n/\n<b then(i:Int)else ft (i+1) (h.drop (i+1)) n:=by
   rw[vg ha,vg hb];simp only[ft]
  refine aO ?_;refine ak ?_;refine aj ?_;simp only[seval,e4,OZ,hw,oW,kL ha,kL hb];refine w7 (λh2=> ?_) (λh2=> ?_)
  ·(try simp only[seval,e4,OZ,hw,oW,kL ha,kL hb]);refine aE ?_;refine⟨λh3=> ?_,λh3=> ?_⟩
   ·refine ak ?_;refine a_ ?_;rw[hi,k_,if_pos ⟨of_decide_eq_true h2,h3⟩]at hk;exact lr hH hk
   ·refine aO ?_;refine aj ?_;simp only[seval,hw];refine hR _ ⟨by omega,?_,dD⟩;rw[hi,k_,if_neg (λq=>h3 q.2)]
  ·(try simp only[seval]);refine aE ?_;refine aO ?_;refine aj ?_;simp only[seval,hw];refine hR _ ⟨by omega,?_,dD⟩;rw[hi,k_,if_neg (λq=>by simp at h2;omega)]
 ·
  have:i=3:=by omega
  subst this;refine b_ ?_;refine ak ?_;refine a_ ?_;have hm:ft 3 (h.drop 3) n= -1:=by
   match h,h4 with
   |[a,b,c,d],_=>rfl
  rw[hi,hm]at hk;exact lr hH hk
theorem wY{m n:Nat}(hm:m<65536)(hk:k (bv (m.testBit n)) H):bc lv SC 67 H [wv m,iv n] k kp:=by
 refine bF (rs:=[.tmp 4]) (nt:=10) Tryz.f67 λhH hA=> ?_;simp only[bk,SX];refine ak ?_;refine aj ?_;simp only[seval,AR,adT];refine a_ ?_;refine bT ?_;rw[ai7 hm];exact hk
theorem tP{m n:Nat}(hm:m<65536)(hn:n<16)(hk:k (wv (m|||2^n)) H):bc lv SC 68 H [wv m,iv n] k kp:=by
 refine bF (rs:=[.tmp 4]) (nt:=9) Tryz.f68 λhH hA=> ?_;simp only[bk,SX];refine ak ?_;refine aj ?_;simp only[seval,ad4,AP];refine a_ ?_;refine bT ?_;rw[arn hm hn];exact hk
theorem Eh{h:List Int}{y:aB}(hh:mo h)(hk:k (wv (bW h y)) H):bc lv SC 65 H [.agg (h.map iv),y.av] k kp:=by
 refine bF (rs:=[.tmp 4]) (nt:=34) Tryz.f65 λhH hA=> ?_;simp only[bk,SX,aB.av,aB.l];obtain⟨a,b,c,d,rfl,ha,hb,hc,hd,hs⟩:=hh.out;have oM:bW [a,b,c,d] y=jk (lw [a,b,c,d] y) (d-a).toNat:=aii hs;have hz:wv (jk (lw [a,b,c,d] y) 0)=wv 0:=rfl;refine ak ?_;refine ak ?_;refine ak ?_;refine cI ?_;refine gJ (d-a).toNat (λi:Nat=>[(6,iv (a+i)),(5,wv (jk (lw [a,b,c,d] y) i))]) (λ_=>_) (λi=>True) (λ_ _=>rfl) (by rw[hz];simp only[seval];simp[bA,Wk.refl];exact Wk.refl _) rfl (λ_ _ _=>rfl) trivial (λce db i cN hi R hR=> ?_);refine ak ?_;refine aE ?_;have cL:jk (lw [a,b,c,d] y) i<65536:=Td D4 (UF (Xl (by omega) (show i<=16 by omega)) (by decide));refine⟨λhc=> ?_,λhc=> ?_⟩
 ·
  have hlt:i<(d-a).toNat:=by omega
  have hw:SE.wrap (a+(i:Int)+1)=a+((i+1:Nat):Int):=by rw[bG _ (by omega)];push_cast;omega
  have gY:SE.wrap (a+(i:Int)-a)=(i:Int):=by rw[bG _ (by omega)];omega
  have EI:lw [a,b,c,d] y i=(j8 y.number (a+i)&&j8 y.hour (je [a,b,c,d] (a+i))):=by
   unfold lw;rw[show decide ([a,b,c,d].getD 0 0+(i:Int)<[a,b,c,d].getD 3 0)=true from decide_eq_true (show a+(i:Int)<d by omega),U8];rfl
  refine aO ?_;refine cI ?_;refine eI 12 ?_;simp only[seval];refine iy (bv (j8 y.number (a+i))) (cJ (IP (b:=y.number) ⟨rfl,rfl⟩)) ?_;(try simp only[seval]);refine w7 (λh2=> ?_) (λh2=> ?_)
  ·(try simp only[seval]);refine iy (iv (je [a,b,c,d] (a+i))) (cJ (Pl (h:=[a,b,c,d]) rfl ⟨rfl,rfl⟩)) ?_;(try simp only[seval]);refine iy (bv (j8 y.hour (je [a,b,c,d] (a+i)))) (cJ (IP (b:=y.hour) ⟨rfl,rfl⟩)) ?_;(try simp only[seval]);refine aE ?_;rw[h2,U8]at EI;refine⟨λh3=> ?_,λh3=> ?_⟩
   ·refine aj ?_;simp only[seval,gY];refine aJ ((tP cL (show i<16 by omega) ?_));(try simp only[seval]);refine aj ?_;simp only[seval,hw];refine hR _ ⟨by omega,trivial,?_⟩;rw[show jk (lw [a,b,c,d] y) (i+1)=jk (lw [a,b,c,d] y) i|||2^i from by rw[jk,EI,h3];rfl];exact dD
   ·refine aO ?_;refine aj ?_;simp only[seval,hw];refine hR _ ⟨by omega,trivial,?_⟩;rw[show jk (lw [a,b,c,d] y) (i+1)=jk (lw [a,b,c,d] y) i from by rw[jk,EI,h3];rfl];exact dD
  ·(try simp only[seval]);refine aE ?_;refine aO ?_;refine aj ?_;simp only[seval,hw];refine hR _ ⟨by omega,trivial,?_⟩;rw[show jk (lw [a,b,c,d] y) (i+1)=jk (lw [a,b,c,d] y) i from by rw[jk,EI,show j8 y.number (a+i)=false by simpa using h2];rfl];exact dD
 ·have:i=(d-a).toNat:=by omega
  subst this;refine b_ ?_;refine ak ?_;refine a_ ?_;rw[oM]at hk;exact lr hH hk
end
open Go.Conc Go.Proofs Go.Gg.Tk
namespace Tk
structure uP (b:iP)(hi:Int):Prop where
 min:0<=b.min
 le:b.min<=b.max
 max:b.max<=hi
structure Hw (x:ai)(y:aB):Prop where
 number:uP y.number 99
 hour:uP y.hour (x.hours-1)
structure ai.Ok (x:ai):Prop where
 first:0<=x.first/\x.first<=90
 hours:1<=x.hours/\x.hours<=3
 am:1<=x.am/\x.am<=3
 wc:x.seen.length<=3
 c_:x.pieces.length<=4
 eF:x.aC.length<=3
 seen:∀s∈x.seen,(0<=s.hour/\s.hour<=x.hours)/\uP s.next 99
 piece:∀y∈x.pieces,Hw x y
 stub:∀y∈x.aC,Hw x y
def s8 (hour:Nat)(n:Int)(s:Seen):Bool:= !decide (s.hour=hour)||j8 s.next n
theorem abF(x:ai)(hour:Nat)(n:Int):rD x hour n=x.seen.all (s8 hour n):=rfl
end Tk
theorem fI{H L:List aa}{i:Nat}{x:aa}(h:H[i]?=some x):(H++L)[i]?=some x:=by rw[SZ (SM.1 h).1];exact h
theorem aW(Hs L:List aa)(i:Nat):(Hs++L)[Hs.length+i]?=L[i]?:=by rw[Tj (by omega)];congr 1;omega
theorem dR(Hs L:List aa)(i:Nat)(y:aa):(Hs++L).set (Hs.length+i) y=Hs++L.set i y:=by rw[UO _ _ (by omega)];congr 2;omega
section
variable {lv:Bool}{H:List aa}{k kp:AV->List aa->Prop}
theorem Pk{x:ai}{h:List Int}{hour ir ih:Nat}{n:Int}(hx:x.Ok)(h4:h.length=4)(hn:h[hour]?=some n)(hr:H[ir]?=some (.cells x.l 76))(hi:H[ih]?=some (.cells (h.map iv) 83))(hk:k (bv (rD x hour n)) H):bc lv SC 87 H [iv hour,.op ir 0,.op ih 0] k kp:=by
 refine bF (rs:=[.tmp 4]) (nt:=29) Tryz.f87 λhH hA=> ?_;simp only[bk,SX];have oR:hour<4:=by have:=eM hn;omega
 have b4:(0<=(hour:Int)/\(hour:Int)<4)=True:=by simp;omega
 have hlen:=hx.wc;have xB:∀L:List aa,(H++L)[ir]?=some (.cells x.l 76):=λL=>fI hr;have cx:∀L:List aa,(H++L)[ih]?=some (.cells (h.map iv) 83):=λL=>fI hi;have bN:x.l=[iv x.first,iv x.hours,iv x.am,dN x.seen,aY x.pieces,aY x.aC]:=rfl;refine ak ?_;refine aj ?_;simp only[seval,hr,bN,dN];refine cI ?_;refine r6 x.seen.length (λi:Nat=>[(11,iv i)]) (λ_=>H) (λi=>x.seen.all (s8 hour n)=(x.seen.drop i).all (s8 hour n)) rfl (λce db i cN hI R hR=> ?_);refine ak ?_;refine aE ?_;refine⟨λhc=> ?_,λhc=> ?_⟩
 ·
  have bx:i<x.seen.length:=by omega
  obtain⟨s,hs⟩:=cy bx;have k_:x.seen.all (s8 hour n)=(s8 hour n s&&(x.seen.drop (i+1)).all (s8 hour n)):=by rw[hI,vg hs];rfl
  have hw:SE.wrap ((i:Int)+1)=((i+1:Nat):Int):=by rw[bG _ (by omega)];rfl
  refine aO ?_;refine aj ?_;simp only[seval,ab1 hs,jl bx];refine eI 13 ?_;simp only[seval,cx,b4,kL hn];refine w7 (λh2=> ?_) (λh2=> ?_)
  ·(try simp only[seval,cx,b4,kL hn]);refine iy (bv (j8 s.next n)) (cJ (IP (b:=s.next) ⟨rfl,rfl⟩)) ?_;(try simp only[seval]);refine aE ?_;have hp:s8 hour n s=j8 s.next n:=(by unfold s8;rw[decide_eq_true (show s.hour=(hour:Int) by simpa using h2)];rfl);rw[hp]at k_;refine⟨λh3=> ?_,λh3=> ?_⟩
   ·refine ak ?_;refine a_ ?_;rw[abF,k_,h3]at hk;exact lr hH hk
   ·refine aO ?_;refine aj ?_;simp only[seval,hw];refine hR _ ⟨bx,?_,(abx ce)⟩;rw[k_,h3];rfl
  ·(try simp only[seval]);refine aE ?_;refine aO ?_;have hp:s8 hour n s=true:=(by unfold s8;rw[decide_eq_false (show ¬s.hour=(hour:Int) by simpa using h2)];rfl);rw[hp]at k_;refine aj ?_;simp only[seval,hw];refine hR _ ⟨bx,?_,(abx ce)⟩;rw[k_];rfl
 ·
  have:i=x.seen.length:=by omega
  subst this;refine b_ ?_;refine ak ?_;refine a_ ?_;rw[abF,hI,List.drop_length]at hk;exact bT hk
end
end Go.Gg
