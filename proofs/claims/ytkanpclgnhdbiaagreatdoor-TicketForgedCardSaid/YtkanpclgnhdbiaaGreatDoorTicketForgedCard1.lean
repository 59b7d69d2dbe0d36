/- A part of the proof. -/
import Derived.Test.YtkanpclgnhdbiaaGreatDoorTicketForgedCard0
import Derived.Test.YtkanpclgnhdbiaaGreatDoorProg
import Derived.KernelRfl
set_option linter.all false
set_option maxRecDepth 4000
set_option maxHeartbeats 4000000
open Array renaming all_eq_true_iff_forall_mem->UK,ext'->VF,getD_eq_getD_getElem?->SH,getElem?_append_left->X7,getElem?_eq_getElem->SJ,getElem?_eq_none->Yx,getElem?_eq_some_iff->SS,getElem?_modify->Wi,getElem?_setIfInBounds_ne->SU,getElem?_setIfInBounds_self_of_lt->S_,getElem_mem->XR,mem_iff_getElem?->YE,mem_of_getElem?->W2,range->WK,replicate->TL,toList_map->VK
open BitVec renaming ofInt->Uh,toNat_or->Zn
open Bool renaming and_eq_true->Ti,eq_iff_iff->Va,false_and->YD,false_eq_true->TN,false_or->Zu,not_eq_true'->TY,not_true->ai',or_eq_true->XZ,true_and->Vu
open Classical renaming byContradiction->Tm
open ForInStep renaming yield->YU
open Go renaming Addr->U5,BinOp->V_,Call->Xo,CallKind->Xc,Code->T4,Deferred->UY,Event->Ur,Field->YS,Frame->Ua,FrameMode->U_,Func->YB,FuncId->TO,Goroutine->SG,IntKind->TW,Item->WT,Loop->aq_,LoopState->Z6,MapEntry->Wl,Oper->Tu,Operand->Th,Program->SI,ResultVar->UO,TypeInfo->Wj,Value->SP,World->Tp
open Go.Act renaming put->XY
open Go.BinOp renaming eql->XG,neq->Wx
open Go.Call renaming operands->VO
open Go.CallKind renaming deferred->YL,early->U6,normal->Y5
open Go.Deferred renaming ofValue->U4
open Go.Frame renaming catches->ZS,round->W8
open Go.FrameMode renaming returning->Yo
open Go.GStep renaming after->T1
open Go.Instr renaming beginRound->XF,checkKey->Vd,endLoop->ZJ,endRound->W4,enterLoop->WW,findAsking->XE,findKey->VN,getLoop->WJ,sameBits->WC,takeDeferred->Y3
open Go.IntKind renaming bits->at0,i64->SD,signed->ats,u16->S6,u32->ah_,u64->TA,wrap->Xa
open Go.LoopState renaming busy->ap'
open Go.Next renaming value->W3
open Go.Op renaming equal->Xn,equalIn->VA,operands->Tt
open Go.Operand renaming tmp->as_
open Go.Proofs.Tryz renaming f77->XJ,f97->asg,prog->SA
open Go.Region renaming binds->Yn,linearise->Y9,schedule->VM,wanted->Tg
open Go.Region.linearise renaming go->UI
open Go.Result.ok renaming inj->ao'
open Go.Sem renaming runT->VH,runT_eq->TB
open Go.Value renaming agg->TE,bool->W_,cells->Z4,chan->XM,int->SF,map->Zq,nilFunc->YQ,slice->Us
open Go.stepG renaming exec->Uf
open Int renaming toNat_natCast->VP
open List renaming all_cons->ZO,all_eq_true->Tv,any_cons->YP,any_eq_true->Up,append_assoc->SC,append_nil->SO,cons_append->Vh,contains_eq_mem->Uq,countP_le_length->Y0,drop_drop->ak_,drop_eq_getElem_cons->TQ,drop_eq_nil_of_le->TV,drop_zero->Xy,ext_getElem?->Yk,filter_congr->Vm,filter_cons_of_neg->Ys,filter_cons_of_pos->Yr,foldl_cons->UZ,forIn_cons->WZ,getD_eq_getElem?_getD->SE,getElem?_append_left->SW,getElem?_append_right->S9,getElem?_cons_succ->UL,getElem?_eq_getElem->SY,getElem?_eq_none->Uv,getElem?_eq_some_iff->SL,getElem?_map->To,getElem?_set_ne->T6,getElem?_set_self->W7,getElem?_take->Ue,getLastD_cons->Zp,length_append->SN,length_drop->Un,length_map->Tn,length_set->TF,length_singleton->T8,length_take->Ud,mapM_cons->T_,mapM_nil->UD,mapM_toArray->XW,map_congr_left->VC,map_cons->UW,map_drop->af_,map_map->XV,map_take->VX,mem_append->SR,mem_append_left->Tf,mem_append_right->S4,mem_cons->SK,mem_cons_of_mem->Tb,mem_cons_self->TC,mem_eraseDups->Y7,mem_filter->Uw,mem_filterMap->VW,mem_flatMap->S5,mem_map->Tl,mem_of_getElem?->Tc,mem_range->Tx,mem_range'->XU,mem_toArray->TK,nil_append->UJ,nodup_cons->VS,nodup_nil->WM,not_mem_nil->S0,range->SZ,range'->TS,range'_append_1->Y6,range'_succ->VU,range_eq_range'->U8,replicate->TH,replicate_succ->Ww,reverse_nil->XS,set_append_left->US,set_append_right->T9,set_eq_take_append_cons_drop->XK,singleton_append->YZ,take_append_drop->Vj,take_of_length_le->SX,take_succ_cons->VR,take_zero->aj'
open Nat renaming add_mul->Ve,add_zero->UE,le_refl->SQ,le_trans->UM,lt_of_le_of_lt->Ze,lt_of_lt_of_le->Td,lt_trans->Wn,lt_trichotomy->XC,min_eq_left->Wz,mod_lt->ar_,mul_le_mul_right->Ug,mul_one->X8,or_lt_two_pow->WL,pow_le_pow_right->Xk,pow_lt_pow_right->W9,reduceAdd->SV,sub_self->Vf,sub_zero->ZW,testBit_or->Xj,testBit_two_pow->VQ,zero_add->Ws,zero_le->Yy
open Option renaming bind_eq_some_iff->Te,getD_some->S7,map_eq_some_iff->Tq,map_some->UP,some->SM
open Option.some renaming injEq->Tj
open Std.Legacy.Range renaming forIn_eq_forIn_range'->Wy,size->Xr
namespace Go.Gg
open Go.Conc
structure H9 (k:AV->Prop):Type where
 n:Nat
structure H8 (X:Bool->Prop)(Z:Prop):Type where
 n:Nat
def QG (a:AV)(X:Bool->Prop)(Z:Prop)(_t:H8 X Z):Prop:=(∃b,a=.val (.bool b)/\X b)\/(a=.val undef/\Z)
theorem ape(b:Bool)(X:Bool->Prop)(Z:Prop)(t:H8 X Z):QG (.val (.bool b)) X Z t=X b:=by
 unfold QG;refine propext ⟨λh=> ?_,λh=> .inl ⟨b,rfl,h⟩⟩;rcases h with⟨b',e,h⟩|⟨e,_⟩
 ·cases e;exact h
 ·cases e
theorem apf(X:Bool->Prop)(Z:Prop)(t:H8 X Z):QG (.val undef) X Z t=Z:=by
 unfold QG;refine propext ⟨λh=> ?_,λh=> .inr ⟨rfl,h⟩⟩;rcases h with⟨b',e,_⟩|⟨_,h⟩
 ·cases e
 ·exact h
def Of (lv:Bool)(P:SI)(f:AV)(H:List aa)(aE:List AV)(k:AV->Prop)(_t:H9 k):Prop:=∃av,i_ lv P f H aE (λb H'=>b=av/\H'=H) (λ_ _=>False)/\k av
def adL (lv:Bool)(P:SI)(f:AV)(name:String)(H:List aa)(aE:List AV)(k:AV->Prop)(_t:H9 k):Prop:=∃av,Ep lv P f name H aE (λb H'=>b=av/\H'=H) (λ_ _=>False)/\k av
theorem iw{lv:Bool}{P:SI}{f:AV}{H:List aa}{aE:List AV}{k:AV->Prop}{t:H9 k}(av:AV)(h:i_ lv P f H aE (λb H'=>b=av/\H'=H) (λ_ _=>False))(hk:k av):Of lv P f H aE k t:=⟨av,h,hk⟩
section
variable (lv:Bool)(P:SI)
def AQ (s:AS)(o:Tu)(k:AV->Prop):Prop:=match o.op with
 |.call c=>match c.callee with
  |.value x=>ao (s.ev x) λf=>ao (ff s c.args.toList) λaE=>Of lv P f s.H aE k ⟨0⟩
  |.invoke x name=>ao (s.ev x) λf=>ao (ff s c.args.toList) λaE=>adL lv P f name s.H aE k ⟨0⟩
  |.builtin .append=>match c.args.toList,c.argTypes.toList with
   |[x,y],[t,t']=>ao (jR P t t') λ(_,sz,_)=>ao (s.ev x) λa=>ao (s.ev y) λb=>a.vL λn l e=>e=.exact/\ao (s.src sz b) λ(m,l')=>l.length=n* sz/\l'.length=m* sz/\n+m<=2^30/\k (.sl (n+m) (l++l') .shut)
   |_,_=>False
  |_=>lD P s o k
 |_=>lD P s o k
def mX (all:Array Tu):List Tu->AS->(AS->Prop)->Prop
 |[],s,K=>K s
 |o::rest,s,K=>match o.guard with
  |none=>AQ lv P s o λav=>mX all rest (s.put o.dst av) K
  |some (j,bY)=>ao ((all[j]?).bind (·.dst)) λd=>ao (look s.T d) λa=>QG a (λb=>qQ b bY (AQ lv P ⟨(d,.val (.bool bY))::s.T,s.H⟩ o λav=>mX all rest ((⟨(d,.val (.bool bY))::s.T,s.H⟩:AS).put o.dst av) K) (mX all rest ((⟨(d,.val (.bool !bY))::s.T,s.H⟩:AS).put o.dst (.val undef)) K) ⟨0⟩) (mX all rest (s.put o.dst (.val undef)) K) ⟨0⟩
end
section
variable {lv:Bool}{P:SI}{r:Option Nat}{o:Tu}{s:AS}
theorem abT{a:Act}{E:Env}{V:View}{av:AV}{N:Act->View->Prop}{Q:Ex->Act->View->Prop}(h1:∀E' V' v,E.Le E'->V'.role=V.role->V'.deaf=V.deaf->Conc E' V' s.H->ap E' av v->N (a.put o.dst v) V'):
  (∀nx V',Nx lv P (gQ E V (λb H'=>b=av/\H'=s.H) (λ_ _=>False)) nx V'->mG lv P r o a N Q nx V')/\(∀v V',gQ E V (λb H'=>b=av/\H'=s.H) (λ_ _=>False) (.panic [{v,recovered:=false}]) V'->Q (.panic [{v,recovered:=false}]) a V'):=by
 have hv:∀v V',gQ E V (λb H'=>b=av/\H'=s.H) (λ_ _=>False) (.ret v) V'->N (a.put o.dst v) V':=λv V' ⟨b,E',H',hle,b8,eW,bp,bm,e1,e2⟩=>by
  subst e1 e2;exact h1 E' V' v hle b8 eW bm bp
 have hp:∀ch V',gQ E V (λb H'=>b=av/\H'=s.H) (λ_ _=>False) (.panic ch) V'->Q (.panic ch) a V':=λch V' ⟨pv,v,E',H',eI,hle,b8,eW,bp,bm,hk⟩=>hk.elim;refine⟨λnx V' hn=> ?_,λv V' h=>hp _ _ h⟩;cases nx with
 |value v=>exact hv _ _ hn
 |skip=>exact hv _ _ hn
 |enter f args=>
  refine Body.mono (R':=fun
   |.ret v,V'=>N (a.put o.dst v) V'
   |.panic ch,V'=>Q (.panic ch) a V') hn λot aR h=> ?_
  cases ot with
  |ret v=>exact hv _ _ h
  |panic ch=>exact hp _ _ h
 |round l f tmps aE b=>
  refine mZ.mono (R':=fun
   |.ret v,V'=>N (a.put o.dst v) V'
   |.panic ch,V'=>Q (.panic ch) a V') hn λot aR h=> ?_
  cases ot with
  |ret v=>exact hv _ _ h
  |panic ch=>exact hp _ _ h
 |_=>exact hn.elim
theorem aoH{c:Xo}{x y:Th}{t t' elem:TypeId}{sz n m:Nat}{z:SP}{l l':List AV}{av:AV}(ho:o.op=.call c)(aY:c.callee=.builtin .append)(cN:c.args=#[x,y]) (dW:c.argTypes=#[t,t']) (ht:jR P t t'=some (elem,sz,z))
  (hx:s.ev x=some (.sl n l .exact)) (hy:s.ev y=some av) (hs:s.src sz av=some (m,l')) (hl:l.length=n* sz) (eJ:l'.length=m* sz) (hb:n+m<=2^30):dB lv P r o s (.sl (n+m) (l++l') .shut):=by
 intro E V a N Q hc aF bz hN;refine⟨bz,?_⟩;have dw:=ap.ev aF hx;have iP:=ap.ev aF hy;generalize kx:a.eval x=vx at dw;generalize rP:a.eval y=vy at iP;unfold execOp;rw[ho];dsimp only;unfold resolve;rw[aY];dsimp only;refine az (aq ?_);unfold invoke builtin;dsimp only;refine az ?_;have nE:c.args.map a.eval=#[vx,vy]:=by rw[cN];simp[kx,rP]
 rw[nE,dW];obtain⟨base,cap,rfl⟩:∃base cap,vx=.slice base n cap:=by
  cases dw with
  |sl b o cap f dO he q1 q2=>exact⟨_,_,rfl⟩
  |nil he=>exact⟨_,_,rfl⟩
 have gT:cap=n:=by
  cases dw with
  |sl b o cap f dO he q1 q2=>exact he
  |nil he=>rfl
 subst gT;have tH:(l++l').length=(cap+m)* sz:=by rw[SN,hl,eJ,Ve]
 by_cases hm:m=0
 ·subst hm;have tn:l'=[]:=by simpa using eJ
  subst tn;refine Hi hc ht iP hs eJ (SQ _) ?_;refine aq (hN E V _ (Env.Le.refl E) rfl rfl hc ?_);rw[UE,SO];exact g_ _ _ _ _ _ dw
 ·refine Hh hc ht dw iP hs hl eJ hb (by omega) λrr cs cap' hf bp hle aV=> ?_;obtain⟨bm,rG⟩:=hc.ac6 (el:=elem) hf aV hle;have uU:(cap+m)* sz<=cs.size:=by rw[aV];exact Ug _ hle
  refine aO.ghost (xz (f:=(0,0)) (cs:=cs) (el:=elem) (p:=(·<(cap+m)* sz)) (by simp[View.upd]) (λo _=>hf.2 o)) ?_;have qp:=D2 (n:=s.H.length) (m:=s.H.length) (SQ _) (by simp[Env.tok,hc.n]) rG hc.n;refine aq (hN _ _ _ qp rfl rfl (bm.trim hc.au) (IQ (I:=(V.laid rr cs elem (·<(cap+m)* sz)).ab) (e:=.shut) (sz:=sz) (cs:=cs) rfl (bp.mono qp) tH uU (λo h=>Gt (by simpa using h)) hle trivial))
theorem AQ.sound{k:AV->Prop}(h:AQ lv P s o k):∃av,dB lv P r o s av/\k av:=by
 unfold AQ at h;split at h
 ·rename_i c ho;split at h
  ·rename_i x aY;obtain⟨f,h1,hA⟩:=h.out;obtain⟨aE,h2,hB⟩:=hA.out;obtain⟨av,h3,h4⟩:=hB;refine⟨av,λE V a N Q hc aF bz hN=> ?_,h4⟩;have rO:=abT (lv:=lv) (P:=P) (r:=r) (o:=o) (Q:=Q) hN;refine⟨bz,?_⟩;unfold execOp;rw[ho];dsimp only;unfold resolve;rw[aY];dsimp only;have e:c.args.map a.eval=(c.args.toList.map a.eval).toArray:=(by apply VF;simp);rw[e];exact(h3 E V (a.eval x) _ hc (ap.ev aF h1) (zr aF h2)).mono (λnx V' h=>rO.1 nx V' h) (λv V' h=>rO.2 v V' h)
  ·rename_i x name aY;obtain⟨f,h1,hA⟩:=h.out;obtain⟨aE,h2,hB⟩:=hA.out;obtain⟨av,h3,h4⟩:=hB;refine⟨av,λE V a N Q hc aF bz hN=> ?_,h4⟩;have rO:=abT (lv:=lv) (P:=P) (r:=r) (o:=o) (Q:=Q) hN;refine⟨bz,?_⟩;unfold execOp;rw[ho];dsimp only;unfold resolve;rw[aY];dsimp only;refine az (aq ?_);have e:c.args.map a.eval=(c.args.toList.map a.eval).toArray:=(by apply VF;simp);rw[e];exact(h3 E V (a.eval x) _ hc (ap.ev aF h1) (zr aF h2)).mono (λnx V' h=>rO.1 nx V' h) (λv V' h=>rO.2 v V' h)
  ·rename_i aY;split at h
   ·rename_i x y t t' ha ht;obtain⟨⟨elem,sz,z⟩,h1,hA⟩:=h.out;obtain⟨a,h2,hB⟩:=hA.out;obtain⟨b,h3,hC⟩:=hB.out;obtain⟨n,l,e,e1,e0,hD⟩:=Oz hC;subst e1 e0;obtain⟨⟨m,l'⟩,h4,h5,h6,h7,h8⟩:=hD.out;exact⟨_,aoH ho aY (nb ha) (sk ht) h1 h2 h3 h4 h5 h6 h7,h8⟩
   ·exact h.elim
  ·exact h.sound
 ·exact h.sound
end
section
variable {lv:Bool}{P:SI}{o:Tu}{T T':List (Nat×AV)}{H:List aa}{k:AV->Prop}
theorem BX:∀(l:List Th),(∀x∈l,AS.ev ⟨T,H⟩ x=AS.ev ⟨T',H⟩ x)->ff ⟨T,H⟩ l=ff ⟨T',H⟩ l
 |[],_=>rfl
 |x::l,h=>by simp only[ff,h x (TC ..),BX l λy hy=>h y (Tb _ hy)]
theorem Ja:∀(l:List (Nat×Th)),(∀x∈l,AS.ev ⟨T,H⟩ x.2=AS.ev ⟨T',H⟩ x.2)->j_ ⟨T,H⟩ l=j_ ⟨T',H⟩ l
 |[],_=>rfl
 |x::l,h=>by simp only[j_,h x (TC ..),Ja l λy hy=>h y (Tb _ hy)]
theorem mapM_congr:∀(l:List Th),(∀x∈l,AS.ev ⟨T,H⟩ x=AS.ev ⟨T',H⟩ x)->l.mapM (AS.ev ⟨T,H⟩)=l.mapM (AS.ev ⟨T',H⟩)
 |[],_=>rfl
 |x::l,h=>by simp only[T_,h x (TC ..),mapM_congr l λy hy=>h y (Tb _ hy)]
theorem Iz(x:Option Th)(h:∀y,x=some y->AS.ev ⟨T,H⟩ y=AS.ev ⟨T',H⟩ y):AS.jb ⟨T,H⟩ x=AS.jb ⟨T',H⟩ x:=by
 cases x with
 |none=>rfl
 |some y=>simp only[AS.jb,h y rfl]
theorem adU{op:V_}{t:TypeId}{y:Th}{a:AV}(h:AS.ev ⟨T,H⟩ y=AS.ev ⟨T',H⟩ y):iK P ⟨T,H⟩ op t y a k=iK P ⟨T',H⟩ op t y a k:=by
 unfold iK;split<;>first|rfl|rw[h]
theorem lD.congr(h:∀x∈o.op.operands,AS.ev ⟨T,H⟩ x=AS.ev ⟨T',H⟩ x)(ha:lD P ⟨T,H⟩ o k):lD P ⟨T',H⟩ o k:=by
 unfold lD at ha⊢;generalize o.op=op at h ha⊢;cases op with
 |call c=>
  have cN:∀x∈c.args,AS.ev ⟨T,H⟩ x=AS.ev ⟨T',H⟩ x:=λx hx=>h x (by simp[Tt,VO,hx]);dsimp only at ha⊢;split at ha
  ·obtain⟨x,h1,hA⟩:=ha.out;rw[h1,ao];obtain⟨t,h2,hB⟩:=hA.out;rw[h2,ao];rw[<- cN x (W2 h1)];obtain⟨a,h3,hC⟩:=hB.out;rw[h3,ao];exact hC
  ·split at ha
   ·rename_i x y J4;have:=nb J4;rw[this]at cN;rw[<- cN x (by simp),<- cN y (by simp)];exact ha
   ·exact ha.elim
  ·split at ha
   ·rename_i x y J4;have:=nb J4;rw[this]at cN;rw[<- cN x (by simp),<- cN y (by simp)];exact ha
   ·exact ha.elim
  ·exact ha.elim
 |build t parts=>
  dsimp only at ha⊢;rw[<- Ja parts.toList λx hx=>h x.2 (by simp only[Tt,TK,Tl];exact⟨x,hx,rfl⟩)];exact ha
 |buildSlice t n parts=>
  dsimp only at ha⊢;rw[<- Ja parts.toList λx hx=>h x.2 (by simp only[Tt,TK,Tl];exact⟨x,hx,rfl⟩)];exact ha
 |makeFunc f first cT=>
  dsimp only at ha⊢;rw[<- mapM_congr first.toList λx hx=>h x (by simp[Tt];exact .inl (by simpa using hx)),<- mapM_congr cT.toList λx hx=>h x (by simp[Tt];exact .inr (by simpa using hx))];exact ha
 |slice t x lo hi mx=>
  dsimp only at ha⊢;rw[<- h x (by simp[Tt]),<- Iz lo λy hy=>h y (by simp[Tt,hy]),<- Iz hi λy hy=>h y (by simp[Tt,hy]),<- Iz mx λy hy=>h y (by simp[Tt,hy])];exact ha
 |pick c a b=>dsimp only at ha⊢;rw[<- h c (by simp[Tt]),<- h a (by simp[Tt]),<- h b (by simp[Tt])];exact ha
 |binOp op t a b u=>
  dsimp only at ha⊢;rw[<- h a (by simp[Tt])];obtain⟨x,h1,hA⟩:=ha.out;rw[h1,ao];rw[<- adU (h b (by simp[Tt]))];exact hA
 |indexAddr t a b=>dsimp only at ha⊢;rw[<- h a (by simp[Tt]),<- h b (by simp[Tt])];exact ha
 |index t a b=>dsimp only at ha⊢;rw[<- h a (by simp[Tt]),<- h b (by simp[Tt])];exact ha
 |move x=>dsimp only at ha⊢;rw[<- h x (by simp[Tt])];exact ha
 |assign x=>dsimp only at ha⊢;rw[<- h x (by simp[Tt])];exact ha
 |unOp op t x=>cases op<;>dsimp only at ha⊢<;>first|exact ha.elim|(rw[<- h x (by simp[Tt])];exact ha)
 |convert a b x=>dsimp only at ha⊢;rw[<- h x (by simp[Tt])];exact ha
 |lookup t m x ok=>dsimp only at ha⊢;rw[<- h m (by simp[Tt]),<- h x (by simp[Tt])];exact ha
 |extract x i=>dsimp only at ha⊢;rw[<- h x (by simp[Tt])];exact ha
 |nilCheck x=>dsimp only at ha⊢;rw[<- h x (by simp[Tt])];exact ha
 |makeInterface t x=>dsimp only at ha⊢;rw[<- h x (by simp[Tt])];exact ha
 |typeAssert x a b c=>dsimp only at ha⊢;rw[<- h x (by simp[Tt])];exact ha
 |fieldAddr t x f=>dsimp only at ha⊢;rw[<- h x (by simp[Tt])];exact ha
 |field t x f=>dsimp only at ha⊢;rw[<- h x (by simp[Tt])];exact ha
 |load t x=>dsimp only at ha⊢;rw[<- h x (by simp[Tt])];exact ha
 |entry x=>dsimp only at ha⊢;rw[<- h x (by simp[Tt])];exact ha
 |_=>exact ha.elim
theorem aqB(sz:Nat)(a:AV):AS.src ⟨T,H⟩ sz a=AS.src ⟨T',H⟩ sz a:=by cases a<;>rfl
theorem AQ.congr(h:∀x∈o.op.operands,AS.ev ⟨T,H⟩ x=AS.ev ⟨T',H⟩ x)(ha:AQ lv P ⟨T,H⟩ o k):AQ lv P ⟨T',H⟩ o k:=by
 unfold AQ at ha⊢;split at ha
 ·rename_i c ho;have cN:∀x∈c.args.toList,AS.ev ⟨T,H⟩ x=AS.ev ⟨T',H⟩ x:=λx hx=>h x (by rw[ho];simp[Tt,VO];exact .inr (by simpa using hx));split at ha
  ·rename_i x aY;rw[<- h x (by rw[ho];simp[Tt,VO,aY]),<- BX _ cN];exact ha
  ·rename_i x name aY;rw[<- h x (by rw[ho];simp[Tt,VO,aY]),<- BX _ cN];exact ha
  ·split at ha
   ·rename_i x y t t' hx ht;rw[hx]at cN;rw[<- cN x (by simp),<- cN y (by simp)];simp only[aqB (T:=T) (T':=T')]at ha;exact ha
   ·exact ha.elim
  ·exact lD.congr h ha
 ·exact lD.congr h ha
end
def cY (ops:Array Tu)(j:Nat):Option Nat:=(ops[j]?).bind (·.dst)
inductive Reach (ops:Array Tu):Nat->Nat->Prop
 |I5 {i j:Nat} {o:Tu} (ho:ops[i]?=some o) (hj:j∈cR o):Reach ops i j
 |more {i k j:Nat} {o:Tu} (ho:ops[i]?=some o) (hk:k∈cR o) (h:Reach ops k j):Reach ops i j
def up (acc:List (List Nat))(o:Tu):List (List Nat):=acc++[(cR o++(cR o).flatMap λj=>acc.getD j []).eraseDups]
def IF (ops:Array Tu):List (List Nat):=ops.toList.foldl up []
theorem Pe(ops:Array Tu):∀(l:List Tu)(acc:List (List Nat))(i:Nat),acc.length=i->(∀k o,l[k]?=some o->ops[i+k]?=some o)->(∀a,a<acc.length->∀j∈acc.getD a [],Reach ops a j)->
  ∀a,∀j∈(l.foldl up acc).getD a [],Reach ops a j
 |[],acc,i,_,_,h,a,j,hj=>by
  simp only[List.foldl_nil]at hj;by_cases ha:a<acc.length
  ·exact h a ha j hj
  ·rw[SE,Uv (by omega)]at hj;simp at hj
 |o::l,acc,i,hi,ho,h,a,j,hj=>by
  rw[UZ]at hj;refine Pe ops l (up acc o) (i+1) (by simp[up,hi]) (λk o' hk=>by have:=ho (k+1) o' (by simpa using hk);rwa [show i+(k+1)=i+1+k by omega]at this) (λa ha j hj=> ?_) a j hj;have FW:ops[i]?=some o:=by have:=ho 0 o rfl;simpa using this
  have rC:∀a,a<acc.length->(up acc o).getD a []=acc.getD a []:=λa ha=>by
   simp[up,SE,SW ha]
  by_cases gk:a<acc.length
  ·rw[rC a gk]at hj;exact h a gk j hj
  ·have hae:a=acc.length:=(by simp[up]at ha;omega);subst hae;have e:(up acc o).getD acc.length []=(cR o++(cR o).flatMap λj=>acc.getD j []).eraseDups:=by
    simp[up,SE]
   rw[e,Y7,SR]at hj;rw[hi];rcases hj with hj|hj
   ·exact .I5 FW hj
   ·obtain⟨k,hk,hj⟩:=S5.1 hj;have CC:k<acc.length:=by
     apply Tm;intro hn;rw[SE,Uv (by omega)]at hj;simp at hj
    exact .more FW hk (h k CC j hj)
def zm (nt p:Nat)(ops:Array Tu):Bool:=
 let cl:=IF ops;decide (p<=ops.size)&&
 (SZ ops.size).all (λi=>match ops[i]?with
  |some o=>o.dst.all (·<nt)&& !mo o.op&&(cR o).all (·<i)&&
   (if i<p then
    (SZ i).all (λj=>match o.dst,cY ops j with
     |some d,some d'=>d !=d'
     |_,_=>true)&&
    (o.op.operands.toList.all λx=>match x with
     |.tmp t=>(SZ p).all λj=>cY ops j !=some t||(cR o).contains j
     |_=>true)&&
    (match o.guard with
     |some (j,_)=>(cR o).contains j
     |none=>true)
   else(SZ i).all λj=>(cl.getD i []).contains j)
  |none=>true)
structure yS (nt p:Nat)(ops:Array Tu):Prop where
 le:p<=ops.size
 dst:∀(i:Nat) o d,ops[i]?=some o->o.dst=some d->d<nt
 vS:∀(i:Nat) o,ops[i]?=some o->mo o.op=false
 low:∀(i:Nat) o,ops[i]?=some o->∀j∈cR o,j<i
 dM:∀(i j:Nat) o d,j<i->i<p->ops[i]?=some o->o.dst=some d->cY ops j≠some d
 MP:∀(i:Nat) o t j,i<p->ops[i]?=some o-> .tmp t∈o.op.operands->j<p->cY ops j=some t->j∈cR o
 B_:∀(i:Nat) o j w,i<p->ops[i]?=some o->o.guard=some (j,w)->j∈cR o
 suf:∀(i j:Nat),p<=i->i<ops.size->j<i->Reach ops i j
theorem zm.out{nt p:Nat}{ops:Array Tu}(h:zm nt p ops=true):yS nt p ops:=by
 unfold zm at h;simp only[Ti,decide_eq_true_eq]at h;obtain⟨hle,h⟩:=h;have key:∀(i:Nat) o,ops[i]?=some o->(o.dst.all (·<nt)=true/\mo o.op=false/\(∀j∈cR o,j<i))/\
   (if i<p then
    (SZ i).all (λj=>match o.dst,cY ops j with
     |some d,some d'=>d !=d'
     |_,_=>true)&&
    (o.op.operands.toList.all λx=>match x with
     |.tmp t=>(SZ p).all λj=>cY ops j !=some t||(cR o).contains j
     |_=>true)&&
    (match o.guard with
     |some (j,_)=>(cR o).contains j
     |none=>true)
   else(SZ i).all λj=>((IF ops).getD i []).contains j)=true:=λi o ho=>by
  have hi:i<ops.size:=(SS.1 ho).1;have:=Tv.1 h i (by simpa using hi);rw[ho]at this;simp only[Ti,Tv,TY,decide_eq_true_eq]at this;exact⟨⟨this.1.1.1,this.1.1.2,this.1.2⟩,by simpa only[Ti,Tv]using this.2⟩
 refine⟨hle,λi o d ho hd=> ?_,λi o ho=>(key i o ho).1.2.1,λi o ho=>(key i o ho).1.2.2,λi j o d hj hp ho hd e=> ?_,λi o t j hp ho ht hj e=> ?_,λi o j w hp ho hg=> ?_,λi j hp hi hj=> ?_⟩
 ·have:=(key i o ho).1.1;rw[hd]at this;simpa using this
 ·have:=(key i o ho).2;rw[if_pos hp]at this;simp only[Ti,Tv]at this;have:=this.1.1 j (by simpa using hj);rw[hd,e]at this;simp at this
 ·have:=(key i o ho).2;rw[if_pos hp]at this;simp only[Ti,Tv]at this;have:=this.1.2 (.tmp t) (by simpa using ht);simp only[Tv]at this;have:=this j (by simpa using hj);rw[e]at this;simpa using this
 ·have:=(key i o ho).2;rw[if_pos hp]at this;simp only[Ti]at this;have:=this.2;rw[hg]at this;simpa using this
 ·have:=(key i ops[i] (SJ hi)).2;rw[if_neg (by omega)]at this;simp only[Tv]at this;have:=this j (by simpa using hj);refine Pe ops ops.toList [] 0 rfl (λk o hk=>by simpa using hk) (by simp) i j ?_;simpa[IF]using this
theorem Qb{α β:Type}{f g:α->Option β}:∀{l:List α},(∀x∈l,f x=g x)->l.filterMap f=l.filterMap g
 |[],_=>rfl
 |x::l,h=>by
  have ih:=Qb (l:=l) λy hy=>h y (Tb _ hy);simp only[List.filterMap_cons,h x (TC ..),ih]
def kW (ops:Array Tu)(f:Nat->AV)(o:Tu):List (Nat×AV):=(cR o).filterMap λj=>(cY ops j).map λd=>(d,f j)
def vB (lv:Bool)(P:SI)(r:Option Nat)(ops:Array Tu)(T0:List (Nat×AV))(H:List aa)(f:Nat->AV)(i:Nat)(o:Tu):Prop:=
 match o.guard with
 |none=>dB lv P r o ⟨kW ops f o++T0,H⟩ (f i)
 |some (j,bY)=>∃d,cY ops j=some d/\((∃b,look (kW ops f o++T0) d=some (.val (.bool b))/\(b=bY->dB lv P r o ⟨kW ops f o++T0,H⟩ (f i))/\(b= !bY->f i=.val undef))\/(look (kW ops f o++T0) d=some (.val undef)/\f i=.val undef))
theorem vf(l m:List (Nat×AV))(t:Nat):look (l++m) t=(look l t).or (look m t):=by
 induction l with
 |nil=>rfl
 |cons x l ih=>
  obtain⟨k,a⟩:=x;simp only[Vh,look];split
  ·rfl
  ·exact ih
theorem oG{l:List (Nat×AV)}{t:Nat}{a:AV}(h:look l t=some a):(t,a)∈l:=by
 induction l with
 |nil=>cases h
 |cons x l ih=>
  obtain⟨k,b⟩:=x;simp only[look]at h;split at h
  ·rename_i e;subst e;cases h;exact TC ..
  ·exact Tb _ (ih h)
theorem Mw{l:List (Nat×AV)}{t:Nat}(h:∀p∈l,p.1≠t):look l t=none:=by
 induction l with
 |nil=>rfl
 |cons x l ih=>
  obtain⟨k,b⟩:=x;simp only[look];rw[if_neg (h _ (TC ..))];exact ih λp hp=>h p (Tb _ hp)
theorem amW{l:List (Nat×AV)}{q:Nat->Bool}{t:Nat}:look (l.filter λp=>q p.1) t=if q t then look l t else none:=by
 induction l with
 |nil=>simp[look]
 |cons x l ih=>
  obtain⟨k,b⟩:=x;by_cases hk:q k=true
  ·rw[Yr (by simpa using hk)];simp only[look];by_cases e:k=t
   ·subst e;simp[hk]
   ·simp[e,ih]
  ·rw[Ys (by simpa using hk),ih];simp only[look];by_cases e:k=t
   ·subst e;simp[hk]
   ·simp[e]
section
variable {ops:Array Tu}{f:Nat->AV}{p:Nat}
theorem amU{o:Tu}{j t:Nat}(hj:j∈cR o)(ht:cY ops j=some t)(xZ:∀j'∈cR o,cY ops j'=some t->j'=j):look (kW ops f o) t=some (f j):=by
 cases e:look (kW ops f o) t with
 |none=>
  exfalso;have hm:(t,f j)∈kW ops f o:=VW.2 ⟨j,hj,by rw[ht];rfl⟩;have:∀(l:List (Nat×AV)),(t,f j)∈l->look l t≠none:=by
   intro l;induction l with
   |nil=>intro h;cases h
   |cons x l ih=>
    intro h;obtain⟨k,b⟩:=x;simp only[look];split
    ·simp
    ·rename_i aH;rcases SK.1 h with h|h
     ·cases h;exact absurd rfl aH
     ·exact ih h
  exact this _ hm e
 |some a=>
  obtain⟨j',iB,e'⟩:=VW.1 (oG e);obtain⟨d,hd,e'⟩:=Tq.1 e';cases e';rw[xZ j' iB hd]
theorem amV{o:Tu}{t:Nat}(h:∀j∈cR o,cY ops j≠some t):look (kW ops f o) t=none:=by
 refine Mw λx hx e=> ?_;obtain⟨j,hj,e'⟩:=VW.1 hx;obtain⟨d,hd,e'⟩:=Tq.1 e';cases e';exact h j hj (by rw[hd];exact congrArg some e)
end
section
variable {lv:Bool}{P:SI}{r:Option Nat}{s:AS}{ops:Array Tu}{nt p:Nat}
def ul (s:AS)(ops:Array Tu)(p:Nat):List (Nat×AV):=s.T.filter λx=>(SZ p).all λj=>cY ops j !=some x.1
theorem GB(t:Nat):look (ul s ops p) t=if(SZ p).all (λj=>cY ops j !=some t)then look s.T t else none:=amW (q:=λt=>(SZ p).all λj=>cY ops j !=some t)
structure oP (s:AS)(ops:Array Tu)(fs:List AV)(s':AS):Prop where
 H:s'.H=s.H
 new:∀j t,j<fs.length->cY ops j=some t->look s'.T t=fs[j]?
 old:∀t,(∀j,j<fs.length->cY ops j≠some t)->look s'.T t=look s.T t
theorem oP.put(au:yS nt p ops){fs:List AV}{s':AS}(h:oP s ops fs s')(hp:fs.length<p){o:Tu}(ho:ops[fs.length]?=some o)(av:AV):oP s ops (fs++[av]) (s'.put o.dst av):=by
 have hd:cY ops fs.length=o.dst:=by simp[cY,ho]
 refine⟨by rw[fi];exact h.H,λj t hj ht=> ?_,λt ht=> ?_⟩
 ·simp only[SN,T8]at hj;by_cases KM:j=fs.length
  ·subst KM;rw[hd]at ht;rw[ht];simp[AS.put,look]
  ·have iB:j<fs.length:=(by omega);rw[SW iB,<- h.new j t iB ht];cases td:o.dst with
   |none=>rfl
   |some d=>
    have aH:d≠t:=λe=>au.dM fs.length j o d iB hp ho td (by rw[e];exact ht);simp[AS.put,look,aH]
 ·have hold:=h.old t λj hj=>ht j (by simp;omega);rw[<- hold];cases td:o.dst with
  |none=>rfl
  |some d=>
   have aH:d≠t:=λe=>ht fs.length (by simp) (by rw[hd,td,e]);simp[AS.put,look,aH]
theorem oP.rU{fs:List AV}{s':AS}(h:oP s ops fs s'){d:Nat}{a:AV}(hd:look s'.T d=some a):oP s ops fs ⟨(d,a)::s'.T,s'.H⟩:=by
 have e:∀t,look ((d,a)::s'.T) t=look s'.T t:=λt=>by
  simp only[look];split
  ·rename_i e;subst e;exact hd.symm
  ·rfl
 exact⟨h.H,λj t hj ht=>by rw[e];exact h.new j t hj ht,λt ht=>by rw[e];exact h.old t ht⟩
theorem oP.seen(au:yS nt p ops){fs gs:List AV}{s':AS}(h:oP s ops fs s')(hp:fs.length<p){o:Tu}(ho:ops[fs.length]?=some o){t:Nat}(ht:∀j,j<p->cY ops j=some t->j∈cR o):
  look (kW ops (λj=>(fs++gs).getD j (.val undef)) o++ul s ops p) t=look s'.T t:=by
 have ij:=au.low fs.length o ho;have alB:∀j j',j<p->j'<p->cY ops j=some t->cY ops j'=some t->j'=j:=λj j' hj iB e e'=>by
  have get:∀i,i<p->∃o,ops[i]?=some o:=λi hi=>⟨_,SJ (Td hi au.le)⟩;rcases XC j j' with hlt|hlt|hlt
  ·obtain⟨o',bf⟩:=get j' iB;exact absurd e (au.dM j' j o' t hlt iB bf (by simpa[cY,bf]using e'))
  ·exact hlt.symm
  ·obtain⟨o',bf⟩:=get j hj;exact absurd e' (au.dM j j' o' t hlt hj bf (by simpa[cY,bf]using e))
 rw[vf];by_cases hex:∃j,j<p/\cY ops j=some t
 ·obtain⟨j,hj,wm⟩:=hex;have jG:=ht j hj wm;have eU:=ij j jG;rw[amU jG wm λj' iB e=>alB j j' hj (Wn (ij j' iB) hp) wm e];rw[h.new j t eU wm];simp[SE,SW eU,SY eU]
 ·have fw:∀j,j<p->cY ops j≠some t:=λj hj e=>hex ⟨j,hj,e⟩;rw[amV λj hj=>fw j (Wn (ij j hj) hp),Option.none_or,GB,if_pos (by simp only[Tv];intro j hj;simpa using fw j (by simpa using hj))];exact(h.old t λj hj=>fw j (by omega)).symm
theorem G_(au:yS nt p ops){K:AS->Prop}:∀(n:Nat)(fs:List AV)(s':AS),fs.length+n=p->oP s ops fs s'->mX lv P ops ((ops.toList.take p).drop fs.length) s' K->
  ∃gs,(fs++gs).length=p/\(∀i o,fs.length<=i->i<p->ops[i]?=some o->vB lv P r ops (ul s ops p) s.H (λj=>(fs++gs).getD j (.val undef)) i o)/\∃dj,oP s ops (fs++gs) dj/\K dj
 |0,fs,s',hn,hr,h=>by
  have:(ops.toList.take p).drop fs.length=[]:=by
   apply TV;simp;omega
  rw[this]at h;exact⟨[],by simp;omega,λi o h1 h2=>absurd h2 (by omega),s',by simpa using hr,h⟩
 |n+1,fs,s',hn,hr,h=>by
  have hp:fs.length<p:=by omega
  have aV:fs.length<ops.size:=Td hp au.le;have ho:ops[fs.length]?=some ops[fs.length]:=SJ aV;generalize K8:ops[fs.length]=o at ho;have hd:(ops.toList.take p).drop fs.length=o::(ops.toList.take p).drop (fs.length+1):=by
   rw[TQ (by simp;omega)];simp[K8]
  rw[hd]at h;have akT:∀t,as_ t∈o.op.operands->∀j,j<p->cY ops j=some t->j∈cR o:=λt ht j hj e=>au.MP fs.length o t j hp ho ht hj e;have cu:∀(s1:AS)(gs:List AV),oP s ops fs s1->∀x∈o.op.operands,AS.ev s1 x=AS.ev ⟨kW ops (λj=>(fs++gs).getD j (.val undef)) o++ul s ops p,s.H⟩ x:=λs1 gs CP x hx=>by
   cases x with
   |tmp t=>exact(CP.seen au hp ho (akT t hx)).symm
   |_=>rfl
  have go:∀(s1:AS),oP s ops fs s1->(AQ lv P s1 o λav=>mX lv P ops ((ops.toList.take p).drop (fs.length+1)) (s1.put o.dst av) K)->
    ∃av gs,(fs++av::gs).length=p/\dB lv P r o ⟨kW ops (λj=>(fs++av::gs).getD j (.val undef)) o++ul s ops p,s.H⟩ av/\(∀i o,fs.length+1<=i->i<p->ops[i]?=some o->vB lv P r ops (ul s ops p) s.H (λj=>(fs++av::gs).getD j (.val undef)) i o)/\∃dj,oP s ops (fs++av::gs) dj/\K dj:=λs1 CP h1=>by
   obtain⟨av0,_,_⟩:=h1.sound (r:=r);have dP:s1=⟨s1.T,s.H⟩:=(by rw[<- CP.H]);rw[dP]at h1;have h2:=AQ.congr (T':=kW ops (λj=>(fs++[]).getD j (.val undef)) o++ul s ops p) (λx hx=>by rw[<- dP];exact cu s1 [] CP x hx) h1;obtain⟨av,hq,h3⟩:=h2.sound (r:=r);obtain⟨gs,g1,g2,dj,g3,g4⟩:=G_ au n (fs++[av]) (s1.put o.dst av) (by simp;omega) (CP.put au hp ho av) (by rw[<- dP]at h3;simpa using h3);have e:fs++[av]++gs=fs++av::gs:=(by simp);rw[e]at g1 g2 g3;refine⟨av,gs,g1,?_,λi o hi=>g2 i o (by simpa using hi),dj,g3,g4⟩;have ed:kW ops (λj=>(fs++av::gs).getD j (.val undef)) o=kW ops (λj=>(fs++[]).getD j (.val undef)) o:=by
    unfold kW;apply Qb;intro j hj;have eU:=au.low fs.length o ho j hj;simp[SE,SW eU]
   rw[ed];exact hq
  simp only[mX]at h;split at h
  ·rename_i hg;obtain⟨av,gs,g1,g2,g3,g4⟩:=go s' hr h;refine⟨av::gs,g1,λi o' hi oy bf=> ?_,g4⟩;by_cases dx:i=fs.length
   ·subst dx;rw[ho]at bf;cases bf;unfold vB;rw[hg];simpa[SE]using g2
   ·exact g3 i o' (by omega) oy bf
  ·rename_i j bY hg;obtain⟨d,gn,hA⟩:=h.out;obtain⟨a,fg,hB⟩:=hA.out;have jG:=au.B_ fs.length o j bY hp ho hg;have eU:=au.low fs.length o ho j jG;have Lr:∀gs,look (kW ops (λj=>(fs++gs).getD j (.val undef)) o++ul s ops p) d=some a:=λgs=>by
    rw[hr.seen au hp ho λj' iB e=> ?_]
    ·exact fg
    ·have get:∀i,i<p->∃o,ops[i]?=some o:=λi hi=>⟨_,SJ (Td hi au.le)⟩;rcases XC j j' with hlt|hlt|hlt
     ·obtain⟨o',bf⟩:=get j' iB;exact absurd gn (au.dM j' j o' d hlt iB bf (by simpa[cY,bf]using e))
     ·rw[<- hlt];exact jG
     ·obtain⟨o',bf⟩:=get j (by omega);exact absurd e (au.dM j j' o' d hlt (by omega) bf (by simpa[cY,bf]using gn))
   rcases hB with⟨b,e1,hC,hD⟩|⟨e1,hZ⟩
   rotate_left
   ·subst e1;obtain⟨gs,g1,g2,dj,g3,g4⟩:=G_ au n (fs++[.val undef]) _ (by simp;omega) (hr.put au hp ho (.val undef)) (by simpa using hZ);have e:fs++[.val undef]++gs=fs++ .val undef::gs:=(by simp);rw[e]at g1 g2 g3;refine⟨.val undef::gs,g1,λi o' hi oy bf=> ?_,dj,g3,g4⟩;by_cases dx:i=fs.length
    ·subst dx;rw[ho]at bf;cases bf;unfold vB;rw[hg];exact⟨d,gn,.inr ⟨Lr _,by simp[SE]⟩⟩
    ·exact g2 i o' (by simp;omega) oy bf
   subst e1;by_cases hb:b=bY
   ·subst hb;obtain⟨av,gs,g1,g2,g3,g4⟩:=go _ (hr.rU fg) (hC rfl);refine⟨av::gs,g1,λi o' hi oy bf=> ?_,g4⟩;by_cases dx:i=fs.length
    ·subst dx;rw[ho]at bf;cases bf;unfold vB;rw[hg];refine⟨d,gn,.inl ⟨b,Lr _,λ_=>by simpa[SE]using g2,λe=>by cases b<;>cases e⟩⟩
    ·exact g3 i o' (by omega) oy bf
   ·have dD:b= !bY:=(by cases b<;>cases bY<;>simp_all);subst dD;have h3:=hD rfl;obtain⟨gs,g1,g2,dj,g3,g4⟩:=G_ au n (fs++[.val undef]) _ (by simp;omega) ((hr.rU fg).put au hp ho (.val undef)) (by simpa using h3);have e:fs++[.val undef]++gs=fs++ .val undef::gs:=(by simp);rw[e]at g1 g2 g3;refine⟨.val undef::gs,g1,λi o' hi oy bf=> ?_,dj,g3,g4⟩;by_cases dx:i=fs.length
    ·subst dx;rw[ho]at bf;cases bf;unfold vB;rw[hg];exact⟨d,gn,.inl ⟨!bY,Lr _,λe=>absurd e hb,λ_=>by simp[SE]⟩⟩
    ·exact g2 i o' (by simp;omega) oy bf
structure HZ (E:Env)(V:View)(ops:Array Tu)(T0:List (Nat×AV))(H:List aa)(f:Nat->AV)(X:List Nat)(a:Act)(nt:Nat):Prop where
 br:Conc E V H
 base:cj E T0 a.tmps
 done:∀i∈X,∀d,cY ops i=some d->ap E (f i) (a.tmps.getD d undef)
 size:a.tmps.size=nt
theorem AK{X:List Nat}(hX:∀i∈X,∀o,ops[i]?=some o->∀j∈cR o,j∈X){i j:Nat}(h:Reach ops i j):((∀o,ops[i]?=some o->∀k∈cR o,k∈X))->j∈X:=by
 induction h with
 |I5 ho hj=>intro hd;exact hd _ ho _ hj
 |more ho hk _ ih=>intro hd;exact ih (hX _ (hd _ ho _ hk))
theorem ap1(au:yS nt p ops){X l:List Nat}(hs:l9 ops X l):∀q,p<=q->q<=ops.size->(∀i,i∈X<->i<q)->(∀i∈X,∀o,ops[i]?=some o->∀j∈cR o,j∈X)->l=TS q (ops.size-q):=by
 induction hs with
 |nil X h=>
  intro q hp hq hX _;have:ops.size<=q:=by
   apply Tm;intro hn;have:=(hX q).1 (h q (by omega));omega
  have:ops.size-q=0:=by omega
  rw[this];rfl
 |cons o ho hn hd _ ih=>
  rename_i X i l _;intro q hp hq hX hc;have hi:i<ops.size:=(SS.1 ho).1;have hiq:q<=i:=by
   apply Tm;intro h;exact hn ((hX i).2 (by omega))
  have hqi:i=q:=by
   apply Tm;intro aH;have:=AK hc (au.suf i q (by omega) hi (by omega)) (λo' bf k hk=>by rw[ho]at bf;cases bf;exact hd k hk);have:=(hX q).1 this;omega
  subst hqi;have e:ops.size-i=(ops.size-(i+1))+1:=by omega
  rw[e,VU];congr 1;refine ih (i+1) (by omega) (by omega) (λk=> ?_) (λk hk o' bf j hj=> ?_)
  ·simp only[SK,hX];omega
  ·rcases SK.1 hk with rfl|hk
   ·rw[ho]at bf;cases bf;exact Tb _ (hd j hj)
   ·exact Tb _ (hc k hk o' bf j hj)
theorem agV{T0:List (Nat×AV)}{H:List aa}{f:Nat->AV}(au:yS nt p ops)(ajL:∀j,j<p->∀d,cY ops j=some d->look T0 d=none)(ay:∀(i:Nat) o,i<p->ops[i]?=some o->vB lv P r ops T0 H f i o){X l:List Nat}(hs:l9 ops X l):
  (∀i∈X,i<p)->(∀i∈X,∀o,ops[i]?=some o->∀j∈cR o,j∈X)->∀(E:Env)(V:View)(a:Act)(Q:Ex->Act->View->Prop),HZ E V ops T0 H f X a nt->
   (∀E' V' a' X',Kept E E' V V' a a'->HZ E' V' ops T0 H f X' a' nt->(∀i,i<p->i∈X')->dl lv P r ops Q (TS p (ops.size-p)) a' V')->dl lv P r ops Q l a V:=by
 have full:∀X:List Nat,(∀i∈X,i<p)->(∀i,i<p->i∈X)->∀i,i∈X<->i<p:=λX h1 h2 i=>⟨h1 i,h2 i⟩;induction hs with
 |nil X h=>
  intro hX hc E V a Q ah hQ;have eB:p=ops.size:=by
   apply Tm;intro aH;have:=hX p (h p (by have:=au.le;omega));omega
  have:=hQ E V a X (Kept.refl E V a) ah (λi hi=>h i (by omega));rw[eB,Vf]at this;exact this
 |cons o ho hn hd lP ih=>
  rename_i X i l;intro hX hc E V a Q ah hQ;have hi:i<ops.size:=(SS.1 ho).1;by_cases oy:i<p
  ·simp only[dl,ho];have ou:∀k∈i::X,k<p:=λk hk=>(SK.1 hk).elim (λe=>by rw[e];exact oy) (hX k);have bm:∀k∈i::X,∀o',ops[k]?=some o'->∀j∈cR o',j∈i::X:=λk hk o' bf j hj=>by
    rcases SK.1 hk with rfl|hk
    ·rw[ho]at bf;cases bf;exact Tb _ (hd j hj)
    ·exact Tb _ (hc k hk o' bf j hj)
   have tok:cj E (kW ops f o++T0) a.tmps:=by
    intro t av e;rw[vf]at e;cases hl:look (kW ops f o) t with
    |none=>rw[hl]at e;exact ah.base t av e
    |some x=>
     rw[hl]at e;cases e;obtain⟨j,hj,e⟩:=VW.1 (oG hl);obtain⟨d,cz,e⟩:=Tq.1 e;cases e;obtain⟨oj,kJ,jg⟩:=Te.1 cz;exact⟨by rw[ah.size];exact au.dst j oj _ kJ jg,ah.done j (hd j hj) _ cz⟩
   have td:cY ops i=o.dst:=(by simp[cY,ho]);have put:∀{E' V'}(v:SP),E.Le E'->Conc E' V' H->ap E' (f i) v->HZ E' V' ops T0 H f (i::X) (a.put o.dst v) nt:=λ{E' V'} v hle ce hv=>by
    cases dp:o.dst with
    |none=>
     refine⟨ce,ah.base.mono hle,λk hk d eo=> ?_,ah.size⟩;rcases SK.1 hk with rfl|hk
     ·rw[td,dp]at eo;cases eo
     ·exact(ah.done k hk d eo).mono hle
    |some d0=>
     have hlt:d0<a.tmps.size:=(by rw[ah.size];exact au.dst i o d0 ho dp);refine⟨ce,λt av e=> ?_,λk hk d eo=> ?_,by simp[XY,ah.size]⟩
     ·have aH:d0≠t:=λe'=>(by rw[<- e',ajL i oy d0 (by rw[td,dp])]at e;cases e);have:=ah.base.mono hle t av e;exact⟨by simpa[XY]using this.1,by simpa[XY,SH,SU aH]using this.2⟩
     ·by_cases rF:k=i
      ·subst rF;rw[td,dp]at eo;cases eo;simpa[XY,SH,S_ hlt]using hv
      ·have aJ:k∈X:=(SK.1 hk).resolve_left rF;have aH:d0≠d:=λe'=>by
        subst e';have RQ:=hX k aJ;have get:∀i,i<p->∃o,ops[i]?=some o:=λi hi=>⟨_,SJ (Td hi au.le)⟩;rcases XC k i with hlt|hlt|hlt
        ·exact au.dM i k o d0 hlt oy ho dp eo
        ·exact rF hlt
        ·obtain⟨o',bf⟩:=get k RQ;exact au.dM k i o' d0 hlt RQ bf (by simpa[cY,bf]using eo) (by rw[td,dp])
       have:=(ah.done k aJ d eo).mono hle;simpa[XY,SH,SU aH]using this
   have go:dB lv P r o ⟨kW ops f o++T0,H⟩ (f i)->w6 lv P r o a V (dl lv P r ops Q l) Q:=λhq=>
    hq E V a _ Q ah.br tok (.inr (au.vS i o ho)) λE' V' v hle b8 eW ce hv=>
     ih ou bm E' V' (a.put o.dst v) Q (put v hle ce hv) λbP aR cm mH hk dh fD=>
      hQ bP aR cm mH ⟨hle.trans hk.le,hk.size.trans (dX _ _ _),hk.defers.trans (put_defers _ _ _),hk.role.trans b8,hk.deaf.trans eW⟩ dh fD
   have zP:=ay i o oy ho;unfold vB at zP;split at zP
   ·rename_i Cz;have hw:Tg o (yielded ops a.tmps)=true:=(by unfold Tg;rw[Cz]);rw[if_pos hw];exact .inl (go zP)
   ·rename_i j bY Cz;obtain⟨d,gn,zP⟩:=zP;rcases zP with⟨b,bO,h1,h2⟩|⟨bO,hu⟩
    rotate_left
    ·obtain⟨hlt,hv⟩:=tok d _ bO;have hy:yielded ops a.tmps j≠some bY:=by
      obtain⟨oj,kJ,jg⟩:=Te.1 gn;generalize hx:a.tmps.getD d undef=x at hv;cases hv;rw[SH,SJ hlt]at hx;simp only[S7]at hx;simp[yielded,kJ,jg,SJ hlt,hx,undef]
     have hw:¬Tg o (yielded ops a.tmps)=true:=by
      unfold Tg;rw[Cz];intro h;exact hy (by simpa using h)
     rw[if_neg hw];exact ih ou bm E V (a.put o.dst undef) Q (put undef (Env.Le.refl E) ah.br (by rw[hu];exact .val _)) λbP aR cm mH hk dh fD=>
      hQ bP aR cm mH ⟨hk.le,hk.size.trans (dX _ _ _),hk.defers.trans (put_defers _ _ _),hk.role,hk.deaf⟩ dh fD
    obtain⟨hlt,hv⟩:=tok d _ bO;have hy:yielded ops a.tmps j=some b:=by
     obtain⟨oj,kJ,jg⟩:=Te.1 gn;generalize hx:a.tmps.getD d undef=x at hv;cases hv;rw[SH,SJ hlt]at hx;simp only[S7]at hx;simp[yielded,kJ,jg,SJ hlt,hx]
    by_cases hb:b=bY
    ·have hw:Tg o (yielded ops a.tmps)=true:=(by unfold Tg;rw[Cz];simp[hy,hb]);rw[if_pos hw];exact .inl (go (h1 hb))
    ·have hw:¬Tg o (yielded ops a.tmps)=true:=(by unfold Tg;rw[Cz];simp[hy,hb]);rw[if_neg hw];have hu:=h2 (by cases b<;>cases bY<;>simp_all);exact ih ou bm E V (a.put o.dst undef) Q (put undef (Env.Le.refl E) ah.br (by rw[hu];exact .val _)) λbP aR cm mH hk dh fD=>
      hQ bP aR cm mH ⟨hk.le,hk.size.trans (dX _ _ _),hk.defers.trans (put_defers _ _ _),hk.role,hk.deaf⟩ dh fD
  ·have fD:∀k,k<p->k∈X:=λk hk=>AK hc (au.suf i k (by omega) hi (by omega)) (λo' bf j hj=>by rw[ho]at bf;cases bf;exact hd j hj);have hl:=ap1 au (.cons o ho hn hd lP) p (SQ _) au.le (full X hX fD) hc;rw[hl];exact hQ E V a X (Kept.refl E V a) ah fD
theorem afe{id:Nat}{Φ:an->AS->Prop}(hm:P.follows .mixedOrders=true)(p:Nat)(au:zm nt p ops=true)(h:mX lv P ops (ops.toList.take p) s (λs'=>iy lv P ops (ops.toList.drop p) s' (Φ .normal) (λpv s=>Φ (.panic pv) s))):aP lv P r nt (.region id ops true) s Φ:=by
 intro E V a Q ah hQ;have au:=zm.out au;obtain⟨gs,g1,g2,dj,g3,g4⟩:=G_ (lv:=lv) (r:=r) au p [] s (by simp) ⟨rfl,by simp,by simp⟩ (by simpa using h);simp only[UJ]at g1 g2 g3;refine NY λt=> ?_;rw[show VM (P.follows .mixedOrders) ops t=UI .any ops ops.size t (TL ops.size false) [] by unfold VM;rw[hm];simp[Y9]];have hs:=aaM (ops:=ops) (λi o ho j hj=>au.low i o ho j hj) ops.size t (TL ops.size false) [] ⟨by simp,λi hi=>by simp[hi]⟩ (UM Y0 (by simp));refine agV (T0:=ul s ops p) (H:=s.H) au (λj hj d hd=> ?_) (λi o hi ho=>g2 i o (by simp) hi ho) hs (by simp) (by simp) E V a Q ⟨ah.br,λt av e=> ?_,by simp,ah.size⟩ λE' V' a' X' hk aS fD=> ?_
 ·rw[GB,if_neg];simp only[Tv];intro h;have:=h j (by simpa using hj);rw[hd]at this;simp at this
 ·rw[GB]at e;split at e
  ·exact ah.tok t av e
  ·cases e
 ·refine AC (Φ:=Φ) (λo ho d e=> ?_) (λo ho=> .inr ?_) (ops.size-p) p dj (by have:=au.le;omega) g4 E' V' a' Q ⟨by rw[g3.H];exact aS.br,λt av e=> ?_,aS.size⟩ (λae e bP aR cm s3 aJ qe he hΦ=>hQ ae e bP aR cm s3 (hk.trans aJ) qe he hΦ)
  ·obtain⟨i,hi⟩:=YE.1 ho;exact au.dst i o d hi e
  ·obtain⟨i,hi⟩:=YE.1 ho;exact au.vS i o hi
  ·by_cases hex:∃j,j<p/\cY ops j=some t
   ·obtain⟨j,hj,wm⟩:=hex;rw[g3.new j t (by omega) wm]at e;obtain⟨oj,kJ,jg⟩:=Te.1 wm;refine⟨by rw[aS.size];exact au.dst j oj t kJ jg,?_⟩;have:=aS.done j (fD j hj) t wm;simpa[SE,e]using this
   ·have fw:∀j,j<p->cY ops j≠some t:=λj hj e=>hex ⟨j,hj,e⟩;rw[g3.old t λj hj=>fw j (by omega)]at e;refine aS.base t av ?_;rw[GB,if_pos (by simp only[Tv];intro j hj;simpa using fw j (by simpa using hj))];exact e
end
def sC (T base Vn:List (Nat×AV)):Prop:=T.drop (T.length-base.length)=base/\((T.take (T.length-base.length)).all λp=>(Vn.any λq=>q.1==p.1)|| !(base.any λq=>q.1==p.1))=true
theorem aeK{l:List (Nat×AV)}{t:Nat}{a:AV}(h:look l t=some a):(l.any λq=>q.1==t)=true:=Up.2 ⟨_,oG h,by simp⟩
theorem Mv{l:List (Nat×AV)}{t:Nat}(h:(l.any λq=>q.1==t)=true):∃a,look l t=some a:=by
 induction l with
 |nil=>cases h
 |cons x l ih=>
  obtain⟨k,b⟩:=x;simp only[look];split
  ·exact⟨b,rfl⟩
  ·rename_i aH;refine ih ?_;simpa[YP,aH]using h
theorem sC.look{T base Vn:List (Nat×AV)}(h:sC T base Vn){t:Nat}{a:AV}(hb:look base t=some a)(hv:look Vn t=none):look T t=some a:=by
 obtain⟨h1,h2⟩:=h;have e:T=T.take (T.length-base.length)++base:=by
  have:=(Vj (T.length-base.length) T).symm;rwa [h1]at this
 rw[e,vf];cases hl:Gg.look (T.take (T.length-base.length)) t with
 |none=>exact hb
 |some x=>
  exfalso;have:=Tv.1 h2 _ (oG hl);simp only[XZ,TY]at this;rcases this with this|this
  ·obtain⟨y,hy⟩:=Mv this;rw[hv]at hy;cases hy
  ·rw[aeK hb]at this;cases this
def qV (base Vi Vn:List (Nat×AV))(Hn:List aa)(s':AS):Prop:=
 sC s'.T (Vi++base) Vn/\(∀p∈Vn,∃b,look s'.T p.1=some b/\Wk b p.2)/\∃G,s'.H=Hn++G/\(G=[]\/(bI Hn/\∀p∈Vn,Lt Hn.length p.2))
section
variable {lv:Bool}{P:SI}{r:Option Nat}{s:AS}
theorem za{nt:Nat}{α:Type}{lt:α->α->Prop}(wf:WellFounded lt){c:T4}{Φ:an->AS->Prop}(V:α->List (Nat×AV))(Hf:α->List aa)(ok:α->Prop)(m0:α)
  (uM:∀m m',(V m).map (·.1)=(V m').map (·.1)) (gG:∀p∈V m0,∃b,look s.T p.1=some b/\Wk b p.2) (uy:Hf m0=s.H) (hl:∀m,ok m->(Hf m).length=s.H.length) (hm:ok m0)
  (h:bI s.H->(∀t a,look s.T t=some a->Lt s.H.length a)->∀m,ok m->∀R:AS->Prop,(∀s',(∃m',lt m' m/\ok m'/\qV s.T (V m) (V m') (Hf m') s')->R s')->aP lv P r nt c ⟨V m++s.T,Hf m⟩ (an.then R Φ)):aP lv P r nt (.loop c) s Φ:=by
 have same:∀m m' t,look (V m) t=none->look (V m') t=none:=λm m' t h=>Mw λp hp e=>by
  have h1:p.1∈(V m').map (·.1):=Tl.2 ⟨p,hp,rfl⟩;rw[uM m' m]at h1;obtain⟨q,hq,e'⟩:=Tl.1 h1;have h2:((V m).any λx=>x.1==t)=true:=Up.2 ⟨q,hq,by simp[e',e]⟩;obtain⟨a,ha⟩:=Mv h2;rw[h]at ha;cases ha
 intro E V0 a Q ah hQ;have hlt:∀t a,look s.T t=some a->Lt s.H.length a:=λt x e=>by rw[<- ah.br.n];exact(ah.tok t x e).2.lt
 have h0:s.Sub ⟨V m0++s.T,Hf m0⟩:=⟨λt x e=>by
  rw[vf]at e;cases hl:look (V m0) t with
  |none=>rw[hl]at e;exact⟨x,e,Wk.refl x⟩
  |some y=>rw[hl]at e;cases e;exact gG (t,x) (oG hl),uy.symm⟩
 refine OM wf (s:=s) (λm=>⟨V m++s.T,Hf m⟩) ok m0 h0 hm (λm au=>by rw[hl m au];exact SQ _) (λm au=> ?_) E V0 a Q ah hQ;refine(h ah.br.au hlt m au _ λ_ h=>h).mono λe s' hΦ=> ?_;cases e with
 |normal=>
  obtain⟨m',q1,q2,hk,hv,G,hG,tg⟩:=hΦ;have tok:∀t x,look (V m'++s.T) t=some x->∃b,look s'.T t=some b/\Wk b x/\(look (V m') t=some x\/look s.T t=some x):=λt x e=>by
   rw[vf]at e;cases hl:look (V m') t with
   |none=>
    rw[hl]at e;have hb:look (V m++s.T) t=some x:=(by rw[vf,same m' m t hl];exact e);exact⟨x,hk.look hb hl,Wk.refl x,.inr e⟩
   |some y=>
    rw[hl]at e;cases e;obtain⟨b,h1,h2⟩:=hv (t,x) (oG hl);exact⟨b,h1,h2,.inl rfl⟩
  refine⟨m',q1,q2,?_⟩;rcases tg with rfl|⟨nG,KS⟩
  ·exact .inl ⟨λt x e=>by obtain⟨b,h1,h2,_⟩:=tok t x e;exact⟨b,h1,h2⟩,by rw[hG,SO]⟩
  ·refine .inr ⟨λt x e=> ?_,⟨G,hG⟩,nG⟩;obtain⟨b,h1,h2,h3⟩:=tok t x e;refine⟨b,h1,h2,?_⟩;rcases h3 with h3|h3
   ·exact KS (t,x) (oG h3)
   ·show Lt (Hf m').length x;rw[hl m' q2];exact hlt t x h3
 |_=>exact hΦ
theorem gD{nt:Nat}{c:T4}{Φ:an->AS->Prop}(n:Nat)(V:Nat->List (Nat×AV))(Hf:Nat->List aa)(ok:Nat->Prop)
  (uM:∀m m',(V m).map (·.1)=(V m').map (·.1)) (gG:∀p∈V 0,∃b,look s.T p.1=some b/\Wk b p.2) (uy:Hf 0=s.H) (hl:∀m,m<=n->ok m->(Hf m).length=s.H.length) (hm:ok 0)
  (h:bI s.H->(∀t a,look s.T t=some a->Lt s.H.length a)->∀m,m<=n->ok m->∀R:AS->Prop,(∀s',(m<n/\ok (m+1)/\qV s.T (V m) (V (m+1)) (Hf (m+1)) s')->R s')->aP lv P r nt c ⟨V m++s.T,Hf m⟩ (an.then R Φ)):aP lv P r nt (.loop c) s Φ:=by
 refine za (measure λi=>n-i).wf V Hf (λi=>i<=n/\ok i) 0 uM gG uy (λm h=>hl m h.1 h.2) ⟨Yy _,hm⟩ (λh1 h2 m au R hR=> ?_);exact h h1 h2 m au.1 au.2 R λs' ⟨q1,q2,q3⟩=>hR s' ⟨m+1,(by show n-(m+1)<n-m;omega),⟨q1,q2⟩,q3⟩
end
theorem pE{T base Vn:List (Nat×AV)}(h1:T.drop (T.length-base.length)=base)(h2:((T.take (T.length-base.length)).all λp=>(Vn.any λq=>q.1==p.1)|| !(base.any λq=>q.1==p.1))=true):sC T base Vn:=⟨h1,h2⟩
theorem lG{H L:List aa}{x:SP}{k:AV->List aa->Prop}(hH:bI H)(h:k (.val x) H):cF H.length (H++L) (.val x) k:=jy (Wk.refl _) rfl (SQ _) hH (.val x) h
theorem iM{H L:List aa}{a b:AV}{k:AV->List aa->Prop}(hH:bI H)(hw:Wk a b)(hl:Lt H.length b)(h:k b H):cF H.length (H++L) a k:=jy hw rfl (SQ _) hH hl h
def aa.cellsOf:aa->Option (List AV)
 |.cells l _|.part _ l _|.own _ l _=>some l
 |_=>none
theorem agf(l:List AV)(e:TypeId):aa.cellsOf (.cells l e)=some l:=rfl
theorem agi(p:Nat)(l:List AV)(e:TypeId):aa.cellsOf (.part p l e)=some l:=rfl
def aa.rowOf:aa->Option (List AV)
 |.cells l _|.part _ l _|.own _ l _=>some l
 |_=>none
theorem apD(l:List AV)(e:TypeId):aa.rowOf (.cells l e)=some l:=rfl
theorem agh(p:Nat)(l:List AV)(e:TypeId):aa.cellsOf (.own p l e)=some l:=rfl
theorem apE(p:Nat)(l:List AV)(e:TypeId):aa.rowOf (.own p l e)=some l:=rfl
theorem apF(p:Nat)(l:List AV)(e:TypeId):aa.rowOf (.part p l e)=some l:=rfl
theorem afb(T:List (Nat×AV))(H:List aa)(i off:Nat):AS.at ⟨T,H⟩ (.op i off)=((H[i]?).bind aa.cellsOf).map λl=>l.drop off:=by
 simp only[AS.at];cases H[i]?with
 |none=>rfl
 |some x=>cases x<;>rfl
theorem aof(k:TW)(n:Int):AV.parts (.val (.int k n))=some [.val (.int k n)]:=rfl
theorem aob(b:Bool):AV.parts (.val (.bool b))=some [.val (.bool b)]:=rfl
theorem aop(b:ByteArray):AV.parts (.val (.string b))=some [.val (.string b)]:=rfl
theorem aom(b:Option U5):AV.parts (.val (.pointer b))=some [.val (.pointer b)]:=rfl
theorem aoi:AV.parts (.val .nilFunc)=some [.val .nilFunc]:=rfl
theorem aoj:AV.parts (.val .nilIface)=some [.val .nilIface]:=rfl
theorem aog(r:Option Nat):AV.parts (.val (.map r))=some [.val (.map r)]:=rfl
theorem aoa(l:List AV):AV.parts (.agg l)=some l:=rfl
theorem aoo(n:Nat)(l:List AV)(e:End):AV.parts (.sl n l e)=some [.sl n l e]:=rfl
theorem amC(n:Nat)(l:List AV)(e:End):AV.len (.sl n l e)=some n:=by rw[AV.len]
theorem amB(i o n c:Nat):AV.len (.bw i o n c)=some n:=by rw[AV.len]
attribute [seval] amC amB
theorem aol(i o n c:Nat):AV.parts (.bw i o n c)=some [.bw i o n c]:=rfl
theorem aon(l:List AV):AV.parts (.rp l)=some [.rp l]:=rfl
theorem aok(i o:Nat):AV.parts (.op i o)=some [.op i o]:=rfl
theorem aod(f:Fn)(l m:List AV):AV.parts (.fn f l m)=some [.fn f l m]:=rfl
theorem aoe(t:TypeId)(a:AV):AV.parts (.c9 t a)=some [.c9 t a]:=rfl
theorem aoh(i:Nat):AV.parts (.mp i)=some [.mp i]:=rfl
theorem amm(k:TW)(n:Int):AV.leaf (.val (.int k n))=true:=rfl
theorem ami(b:Bool):AV.leaf (.val (.bool b))=true:=rfl
theorem amx(b:ByteArray):AV.leaf (.val (.string b))=true:=rfl
theorem amu(b:Option U5):AV.leaf (.val (.pointer b))=true:=rfl
theorem amp:AV.leaf (.val .nilFunc)=true:=rfl
theorem amq:AV.leaf (.val .nilIface)=true:=rfl
theorem amn(r:Option Nat):AV.leaf (.val (.map r))=true:=rfl
theorem amw(n:Nat)(l:List AV)(e:End):AV.leaf (.sl n l e)=true:=rfl
theorem amt(i o n c:Nat):AV.leaf (.bw i o n c)=true:=rfl
theorem amv(l:List AV):AV.leaf (.rp l)=true:=rfl
theorem ams(i o:Nat):AV.leaf (.op i o)=true:=rfl
theorem amk(f:Fn)(l m:List AV):AV.leaf (.fn f l m)=true:=rfl
theorem aml(t:TypeId)(a:AV):AV.leaf (.c9 t a)=true:=rfl
theorem amo(i:Nat):AV.leaf (.mp i)=true:=rfl
theorem anJ(k:TW)(n:Int):AV.pG (.int k n)=.val (.int k n):=rfl
theorem anG(b:Bool):AV.pG (.bool b)=.val (.bool b):=rfl
theorem anM:AV.pG (.slice none 0 0)=.sl 0 [] .exact:=rfl
theorem anH:AV.pG .nilFunc=.val .nilFunc:=rfl
theorem anI:AV.pG .nilIface=.val .nilIface:=rfl
theorem anL(a:Option U5):AV.pG (.pointer a)=.val (.pointer a):=rfl
theorem anK(a:Option Nat):AV.pG (.map a)=.val (.map a):=rfl
theorem asu(l:List SP):l7 (.agg l.toArray)=l.map AV.pG:=by simp[l7,Z4]
theorem asz(k:TW)(n:Int):l7 (.int k n)=[.val (.int k n)]:=rfl
theorem asv(b:Bool):l7 (.bool b)=[.val (.bool b)]:=rfl
theorem asC:l7 (.slice none 0 0)=[.sl 0 [] .exact]:=rfl
theorem asx:l7 .nilFunc=[.val .nilFunc]:=rfl
theorem asy:l7 .nilIface=[.val .nilIface]:=rfl
theorem asB(a:Option U5):l7 (.pointer a)=[.val (.pointer a)]:=rfl
theorem asA(a:Option Nat):l7 (.map a)=[.val (.map a)]:=rfl
theorem ahv(s:AS):j_ s []=some []:=rfl
theorem ahu(s:AS)(i:Nat)(x:Th)(l:List (Nat×Th)):j_ s ((i,x)::l)=(s.ev x).bind λa=>(j_ s l).map λaE=>(i,a)::aE:=by
 simp only[j_];cases s.ev x with
 |none=>rfl
 |some a=>cases j_ s l<;>rfl
theorem aiI(p:Nat->Option (Nat×Nat))(c:List AV):og p c []=some c:=rfl
theorem aiH(p:Nat->Option (Nat×Nat))(c:List AV)(i:Nat)(a:AV)(r:List (Nat×AV)):og p c ((i,a)::r)=(p i).bind λx=>(a.parts).bind λlp=>if lp.length≠x.2\/x.1+lp.length>c.length then none else og p (iG c x.1 lp) r:=by
 simp only[og];cases p i with
 |none=>rfl
 |some x=>cases a.parts<;>rfl
theorem aox(l:List (Nat×Nat))(i:Nat):iz.at (.fields l) i=l[i]?:=rfl
theorem aow(sz i:Nat):iz.at (.elems sz) i=some (i* sz,sz):=rfl
theorem ass(z:SP):gM z 0=[]:=rfl
theorem aqD(s:AS)(sz m:Nat)(l:List AV)(e:End):s.src sz (.sl m l e)=some (m,l.take (m* sz)):=rfl
theorem aqC(T:List (Nat×AV))(H:List aa)(sz i off m c:Nat):AS.src ⟨T,H⟩ sz (.bw i off m c)=((H[i]?).bind aa.rowOf).map λl=>(m,(l.drop off).take (m* sz)):=by
 simp only[AS.src];cases H[i]?with
 |none=>rfl
 |some x=>cases x<;>rfl
theorem ae4(n:Nat)(l:List AV)(e:End)(kO:Nat->Nat->Nat->Nat->Prop)(k:Nat->List AV->End->Prop):AV.pV (.sl n l e) kO k=k n l e:=by rw[AV.pV]
theorem ae3(i o n c:Nat)(kO:Nat->Nat->Nat->Nat->Prop)(k:Nat->List AV->End->Prop):AV.pV (.bw i o n c) kO k=kO i o n c:=by rw[AV.pV]
theorem aeN:type_of% @t_.eq_1:=by intros;rw[t_.eq_1]
theorem aeL(s:AS)(dst:Option Nat)(next:AS->Prop)(n m sz:Nat)(elem:TypeId)(l l':List AV):A9 s dst next n m sz elem l l' .exact=next ((⟨s.T,s.H++[.tail (n+m) sz elem]⟩:AS).put dst (.sl (n+m) (l++l') (.opn s.H.length))):=rfl
theorem aeM(s:AS)(dst:Option Nat)(next:AS->Prop)(n m sz:Nat)(elem:TypeId)(l l':List AV)(k:Nat):A9 s dst next n m sz elem l l' (.opn k)=((match s.H[k]?with
   |some (.tail n' ez gR)=>n'=n/\ez=sz/\gR=elem
   |_=>False)/\(∀a∈l',a.leaf=true)/\next ((⟨s.T,s.H.set k (.tail (n+m) sz elem)⟩:AS).put dst (.sl (n+m) (l++l') (.opn k)))):=rfl
theorem apu(P:SI)(T:List (Nat×AV))(H:List aa)(b t:Nat):vo P ⟨T,H⟩ (.cell b t)=(look T b).bind λp=>((⟨T,H⟩:AS).at p).bind λl=>(Ty P t).bind λx=>if x.2 then(if x.1<=l.length then some (.agg (l.take x.1))else none)else l[0]?:=rfl
section
variable {lv:Bool}{P:SI}{s s':AS}
@[congr] theorem atL {α : Type} {x y : Option α} {k : α -> Prop} (h : x = y) : ao x k = ao y k := by rw [h]
@[congr] theorem asR {a b : AV} {k : Bool -> Prop} (h : a = b) : AV.asBool a k = AV.asBool b k := by rw [h]
@[congr] theorem asS {a b : AV} {k : TW -> Int -> Prop} (h : a = b) : AV.asInt a k = AV.asInt b k := by rw [h]
@[congr] theorem asX {a b : AV} {k : List AV -> Prop} (h : a = b) : AV.xe a k = AV.xe b k := by rw [h]
@[congr] theorem asQ {a b : AV} {k : List AV -> Prop} (h : a = b) : AV.asAgg a k = AV.asAgg b k := by rw [h]
@[congr] theorem asU {a b : AV} {k : Nat -> Nat -> Prop} (h : a = b) : AV.pU a k = AV.pU b k := by rw [h]
@[congr] theorem asT {a b : AV} {k : Nat -> Prop} (h : a = b) : AV.sI a k = AV.sI b k := by rw [h]
@[congr] theorem asW {a b : AV} {k : Nat -> List AV -> End -> Prop} (h : a = b) : AV.vL a k = AV.vL b k := by rw [h]
@[congr] theorem asV {a b : AV} {kO : Nat -> Nat -> Nat -> Nat -> Prop} {k : Nat -> List AV -> End -> Prop} (h : a = b) : AV.pV a kO k = AV.pV b kO k := by rw [h]
@[congr] theorem asO {H H' : List aa} {k : AV -> List aa -> Prop} {id oE off Dt n n' c0 O6 m m' sz : Nat} {elem : TypeId} {l l' : List AV} (h0 : H = H') (h1 : id = oE) (h2 : off = Dt) (h3 : n = n') (h4 : c0 = O6) (h5 : m = m') (h6 : l = l') : t_ H k id off n c0 m sz elem l = t_ H' k oE Dt n' O6 m' sz elem l' := by rw [h0, h1, h2, h3, h4, h5, h6]
@[congr] theorem asF {op : V_} {t : TypeId} {a a' b b' : AV} {k : AV -> Prop} (h : a = a') (h' : b = b') : dH P op t a b k = dH P op t a' b' k := by rw [h, h']
@[congr] theorem asE {s' : AS} {op : V_} {t : TypeId} {y : Th} {a a' : AV} {k : AV -> Prop} (hs : s = s') (h : a = a') : iK P s op t y a k = iK P s' op t y a' k := by rw [hs, h]
@[congr] theorem asJ {a b : AV} {k : AV -> Prop} (h : a = b) : mA P a k = mA P b k := by rw [h]
@[congr] theorem asD {t : TypeId} {ok : Bool} {a b : AV} {k : AV -> Prop} (h : a = b) : A7 P t ok a k = A7 P t ok b k := by rw [h]
@[congr] theorem asH {t : TypeId} {a b : AV} {k : AV -> Prop} (h : a = b) : sr P s t a k = sr P s t b k := by rw [h]
@[congr] theorem asM {t : TypeId} {a b : AV} {x y z : Option Int} {k : AV -> Prop} (h : a = b) : su P t a x y z k = su P t b x y z k := by rw [h]
@[congr] theorem asK {o : Tu} {k : AV -> Prop} (h : s = s') : lD P s o k = lD P s' o k := by rw [h]
@[congr] theorem asP {o : Tu} {k : AV -> Prop} (h : s = s') : AQ lv P s o k = AQ lv P s' o k := by rw [h]
@[congr] theorem asN {o : Tu} {next : AS -> Prop} {bad : AV -> AS -> Prop} (h : s = s') : mB lv P s o next bad = mB lv P s' o next bad := by rw [h]
@[congr] theorem asL {all : Array Tu} {l : List Tu} {next : AS -> Prop} {bad : AV -> AS -> Prop} (h : s = s') : iy lv P all l s next bad = iy lv P all l s' next bad := by rw [h]
@[congr] theorem atN {all : Array Tu} {l l' : List Tu} {K : AS -> Prop} (hl : l = l') (h : s = s') : mX lv P all l s K = mX lv P all l' s' K := by rw [hl, h]
@[congr] theorem as0 {r : Option Nat} {nt : Nat} {c : T4} {Φ : an -> AS -> Prop} (h : s = s') : aP lv P r nt c s Φ = aP lv P r nt c s' Φ := by rw [h]
@[congr] theorem atV {K : AS -> Prop} {Φ : an -> AS -> Prop} {e e' : an} (he : e = e') (h : s = s') : an.then K Φ e s = an.then K Φ e' s' := by rw [he, h]
@[congr] theorem atI {i : Nat} {Φ : an -> AS -> Prop} {e e' : an} (he : e = e') (h : s = s') : an.inBlock i Φ e s = an.inBlock i Φ e' s' := by rw [he, h]
end
theorem aee:type_of% @iy.eq_1:=by intros;rw[iy.eq_1]
theorem aed:type_of% @iy.eq_2:=by intros;rw[iy.eq_2]
theorem aek:type_of% @mB.eq_1:=by intros;rw[mB.eq_1]
theorem aec:type_of% @lD.eq_1:=by intros;rw[lD.eq_1]
theorem aoG:type_of% @mX.eq_1:=by intros;rw[mX.eq_1]
theorem aoF:type_of% @mX.eq_2:=by intros;rw[mX.eq_2]
theorem aef:type_of% @AQ.eq_1:=by intros;rw[AQ.eq_1]
theorem apr:type_of% @gY.eq_1:=by intros;rw[gY.eq_1]
theorem apq:type_of% @gY.eq_2:=by intros;rw[gY.eq_2]
theorem apt:type_of% @iY.eq_1:=by intros;rw[iY.eq_1]
theorem ahx:type_of% @ff.eq_1:=by intros;rw[ff.eq_1]
theorem ahw:type_of% @ff.eq_2:=by intros;rw[ff.eq_2]
theorem adR:type_of% @A7.eq_1:=by intros;rw[A7.eq_1]
theorem aoB:type_of% @iG.eq_1:=by intros;rw[iG.eq_1]
theorem aps:iY []=.aL []:=by rw[iY];simp
theorem abW(a b:AV)(l:List AV):iY (a::b::l)=.aL (a::b::l):=by rw[iY];simp
theorem ard(l:List AV):(AV.rp l).sure=true:=by simp[AV.sure]
theorem arb(i j:Nat):(AV.op i j).sure=true:=by simp[AV.sure]
theorem aq7(f:TO)(x y:List AV):(AV.fn (.func f) x y).sure=true:=by simp[AV.sure]
theorem aq8(t:TypeId)(x:AV):(AV.c9 t x).sure=true:=by simp[AV.sure]
theorem ad8(P:SI)(k:AV->Prop)(name:String)(t:TypeId)(av:AV):mA P (.fn (.method name) [.c9 t av] []) k=(Ia P t name/\k (.fn (.method name) [.c9 t av] [])):=by rw[mA]
theorem aea(P:SI)(k:AV->Prop)(l:List AV):mA P (.rp l) k=k (.rp l):=by simp[mA,AV.sure]
theorem ad9(P:SI)(k:AV->Prop)(i j:Nat):mA P (.op i j) k=k (.op i j):=by simp[mA,AV.sure]
theorem ad6(P:SI)(k:AV->Prop)(f:TO)(x y:List AV):mA P (.fn (.func f) x y) k=k (.fn (.func f) x y):=by simp[mA,AV.sure]
theorem aeb(P:SI)(k:AV->Prop)(f)(x y:List AV):mA P (.fn (.yield f) x y) k=k (.fn (.yield f) x y):=by simp[mA,AV.sure]
theorem ad7(P:SI)(k:AV->Prop)(t:TypeId)(x:AV):mA P (.c9 t x) k=k (.c9 t x):=by simp[mA,AV.sure]
theorem ad1(P:SI)(s:AS)(op:V_)(xt:TypeId)(t:Nat)(a:AV)(k:AV->Prop):iK P s op xt (.tmp t) a k=ao (s.ev (.tmp t)) λb=>dH P op xt a b k:=by rw[iK]<;>(intros;simp_all)
theorem adW(P:SI)(s:AS)(op:V_)(xt:TypeId)(j:TW)(m:Int)(a:AV)(k:AV->Prop):iK P s op xt (.const (.int j m)) a k=ao (s.ev (.const (.int j m))) λb=>dH P op xt a b k:=by rw[iK]<;>(intros;simp_all)
theorem adT(P:SI)(s:AS)(op:V_)(xt:TypeId)(c:Bool)(a:AV)(k:AV->Prop):iK P s op xt (.const (.bool c)) a k=ao (s.ev (.const (.bool c))) λb=>dH P op xt a b k:=by rw[iK]<;>(intros;simp_all)
theorem ad0(P:SI)(s:AS)(op:V_)(xt:TypeId)(c:ByteArray)(a:AV)(k:AV->Prop):iK P s op xt (.const (.string c)) a k=ao (s.ev (.const (.string c))) λb=>dH P op xt a b k:=by rw[iK]<;>(intros;simp_all)
theorem adS(P:SI)(s:AS)(op:V_)(xt:TypeId)(c:Array SP)(a:AV)(k:AV->Prop):iK P s op xt (.const (.agg c)) a k=ao (s.ev (.const (.agg c))) λb=>dH P op xt a b k:=by rw[iK]<;>(intros;simp_all)
theorem adZ(P:SI)(s:AS)(op:V_)(xt:TypeId)(c:Option U5)(a:AV)(k:AV->Prop):iK P s op xt (.const (.pointer c)) a k=ao (s.ev (.const (.pointer c))) λb=>dH P op xt a b k:=by rw[iK]<;>(intros;simp_all)
theorem adX(P:SI)(s:AS)(op:V_)(xt:TypeId)(c:Option U5)(m n:Nat)(a:AV)(k:AV->Prop):iK P s op xt (.const (.slice c m n)) a k=ao (s.ev (.const (.slice c m n))) λb=>dH P op xt a b k:=by rw[iK]<;>(intros;simp_all)
theorem adY(P:SI)(s:AS)(op:V_)(xt:TypeId)(k:AV->Prop):iK P s op xt (.const .nilIface) (.val .nilIface) k=(mq P xt=some true/\(op=.eql\/op=.neq)/\k (.val (.bool (if op== .neq then false else true)))):=by rw[iK]
theorem adV(P:SI)(s:AS)(op:V_)(xt t:TypeId)(x:AV)(k:AV->Prop):iK P s op xt (.const .nilIface) (.c9 t x) k=(mq P xt=some true/\(op=.eql\/op=.neq)/\k (.val (.bool (if op== .neq then true else false)))):=by rw[iK]
theorem ahi:((XG== .neq)=false):=rfl
theorem anu:((Wx== .neq)=true):=rfl
theorem ai8(z:SP):AV.found z true none=.aL [AV.of z,.val (.bool false)]:=by rw[AV.found];simp
theorem ai9(z:SP)(x:Nat×SP):AV.found z true (some x)=.aL [AV.of x.2,.val (.bool true)]:=by rw[AV.found];simp
attribute [seval] ai8 ai9
attribute [seval] ad1 adW adT ad0 adS adZ adX adY adV ahi anu
attribute [seval] ape apf ajy ajx ajw ajv AB aht ahk aho ahm ahs ahp ahq ahl ahn amX amY aoD aoC ary arA arw arx arz afX afZ afU afY afV afW ai7 ai5 ai6 apw aeY ae0 ae7 aeW ae2 ae1 ae5 ae4 ae3 aeN ael aex aet aen Om aes aer aep aeo true_and and_true Option.bind_some List.getElem?_toArray List.getElem?_cons_succ List.getElem?_cons_zero Bool.not_true Bool.not_false true_implies false_implies if_true if_false afc aqn aqo aqp apI apG List.drop_succ_cons List.drop_zero List.take_succ_cons List.take_zero List.cons_append List.nil_append List.length_cons List.length_nil Int.toNat_natCast decide_eq_true_eq decide_eq_false_iff_not Bool.not_eq_true' Bool.not_eq_false' Bool.not_eq_eq_eq_not afb agf agi apD apF apE agh Option.map_some vI aeP vJ aeT aeO aeS Nat.zero_add List.set_cons_zero List.set_cons_succ aof aob aop aom aoi aoj aog aoa aoo aol aon aok aod aoe aoh List.forall_mem_cons List.not_mem_nil false_imp_iff implies_true amm ami amx amu amp amq amn amw amt amv ams amk aml amo anJ anG anM anH anI anL anK asu asz asv asC asx asy asB asA List.map_cons List.map_nil ahv ahu aiI aiH aox aow ass aqD aqC aeL aeM apu ad5 ad4 ne_eq not_true_eq_false not_false_eq_true gt_iff_lt Nat.lt_irrefl or_self or_false false_or Nat.le_refl Nat.mul_one Nat.one_mul Nat.zero_mul Nat.mul_zero bne_iff_ne bne_eq_false_iff_eq beq_iff_eq aee aed aek aec aoG aoF aef apr apq apt aps abW ahx ahw adR aoB abW ard arb aq7 aq8 ad8 aea ad9 ad6 aeb ad7
theorem apC{base Vi Vn T:List (Nat×AV)}{H:List aa}(hk:sC T (Vi++base) Vn)(hv:∀p∈Vn,∃b,look T p.1=some b/\Wk b p.2):qV base Vi Vn H ⟨T,H⟩:=⟨hk,hv,[],by simp,.inl rfl⟩
theorem abY{base Vi Vn T:List (Nat×AV)}{H G:List aa}(hk:sC T (Vi++base) Vn)(hv:∀p∈Vn,∃b,look T p.1=some b/\Wk b p.2)(au:bI H)(hlt:∀p∈Vn,Lt H.length p.2):qV base Vi Vn H ⟨T,H++G⟩:=⟨hk,hv,G,rfl,.inr ⟨au,hlt⟩⟩
theorem AL{base Vi Vn T:List (Nat×AV)}{H L G:List aa}(hk:sC T (Vi++base) Vn)(hv:∀p∈Vn,∃b,look T p.1=some b/\Wk b p.2)(au:bI (H++L))(hlt:∀p∈Vn,Lt (H++L).length p.2):qV base Vi Vn (H++L) ⟨T,H++(L++G)⟩:=⟨hk,hv,G,(SC ..).symm,.inr ⟨au,hlt⟩⟩
def pick (ks:List Nat)(T:List (Nat×AV)):List (Nat×AV):=ks.filterMap λk=>(look T k).map λa=>(k,a)
theorem ON{lv:Bool}{P:SI}{r:Option Nat}{nt:Nat}{c:T4}{T:List (Nat×AV)}{H:List aa}{Φ:an->AS->Prop}(ks:List Nat)(h:aP lv P r nt c ⟨pick ks T,H⟩ Φ):aP lv P r nt c ⟨T,H⟩ Φ:=by
 refine jv (s':=⟨pick ks T,H⟩) ⟨λt a e=> ?_,rfl⟩ h;obtain⟨k,_,e'⟩:=VW.1 (oG e);obtain⟨b,hb,e'⟩:=Tq.1 e';cases e';exact⟨a,hb,Wk.refl a⟩
theorem Mq{ops:Array Tu}(mh:∀(i:Nat) o,ops[i]?=some o->∀j∈cR o,j<ops.size)(Sw:∀X:List Nat,(∃i,i<ops.size/\i∉X)->∃i o,ops[i]?=some o/\i∉X/\∀j∈cR o,j∈X):∀(fuel t:Nat)(L:Array Bool)(X:List Nat),Og ops L X->(SZ ops.size).countP (λi=> !X.contains i)<=fuel->l9 ops X (UI .any ops fuel t L [])
 |0,t,L,X,hr,hc=>by
  simp only[UI,XS];refine .nil X λi hi=> ?_;have:(SZ ops.size).countP (λi=> !X.contains i)=0:=by omega
  have:=List.countP_eq_zero.1 this i (by simpa using hi);simpa using this
 |fuel+1,t,L,X,hr,hc=>by
  have uT:∀i,i∈((SZ ops.size).filter λi=> !L.getD i true&&((ops[i]?).map (·.after.all λe=> !Region.binds .any e||L.getD e.on false)).getD false)<->∃o,ops[i]?=some o/\i∉X/\∀j∈cR o,j∈X:=by
   intro i;simp only[Uw,Tx,Ti,TY];constructor
   ·rintro⟨hi,h1,h2⟩
    have ho:=SJ hi;refine⟨ops[i],ho,λhx=> ?_,λj hj=> ?_⟩
    ·have:=(hr.mem i hi).2 hx;rw[SH,this]at h1;cases h1
    ·obtain⟨e,he,hb,rfl⟩:=GG.1 hj;rw[ho]at h2;simp only[UP,S7,UK]at h2;have:=h2 e he;rw[hb]at this;simp only[ai',Zu]at this;have hlt:e.on<ops.size:=mh i _ ho _ hj;refine(hr.mem _ hlt).1 ?_;rw[SH]at this;cases hx:L[e.on]?with
     |none=>rw[hx]at this;cases this
     |some b=>rw[hx]at this;cases b;cases this;rfl
   ·rintro⟨o,ho,h1,h2⟩
    have hi:i<ops.size:=(SS.1 ho).1;refine⟨hi,?_,?_⟩
    ·rw[SH,SJ (by rw[hr.size];exact hi)];simp only[S7];cases hb:L[i]'(by rw[hr.size];exact hi)with
     |false=>rfl
     |true=>exact absurd ((hr.mem i hi).1 (by rw[SJ (by rw[hr.size];exact hi),hb])) h1
    ·rw[ho];simp only[UP,S7,UK];intro e he;cases hb:Yn .any e with
     |false=>rfl
     |true=>
      have hj:=GG.2 ⟨e,he,hb,rfl⟩;have hlt:e.on<ops.size:=mh i _ ho _ hj;have:=(hr.mem _ hlt).2 (h2 _ hj);simp[SH,this]
  simp only[UI];generalize CR:((SZ ops.size).filter λi=> !L.getD i true&&((ops[i]?).map (·.after.all λe=> !Region.binds .any e||L.getD e.on false)).getD false)=rs at uT;cases hi:rs[t % rs.length]?with
  |none=>
   have K3:rs=[]:=by
    cases rs with
    |nil=>rfl
    |cons x xs=>
     have hlt:t % (x::xs).length<(x::xs).length:=ar_ _ (by simp);rw[List.getElem?_eq_none_iff]at hi;omega
   simp only[XS];refine .nil X λi hlt=> ?_;apply Tm;intro hx;obtain⟨i',o,h1,h2,h3⟩:=Sw X ⟨i,hlt,hx⟩;have:i'∈rs:=(uT i').2 ⟨o,h1,h2,h3⟩;rw[K3]at this;cases this
  |some i=>
   simp only[];obtain⟨o,ho,h1,h2⟩:=(uT i).1 (Tc hi);have hlt:i<ops.size:=(SS.1 ho).1;rw[linearise_go_acc,List.reverse_singleton,YZ];refine .cons o ho h1 h2 (Mq mh Sw fuel _ _ (i::X) ⟨by simp[hr.size],λk hk=> ?_⟩ ?_)
   ·by_cases rF:k=i
    ·subst rF;simp[S_ (by rw[hr.size];exact hlt)]
    ·rw[SU (Ne.symm rF),hr.mem k hk];simp[rF]
   ·have fG:i∈(SZ ops.size):=(by simpa using hlt);have:(SZ ops.size).countP (λk=> !(i::X).contains k)<(SZ ops.size).countP (λk=> !X.contains k):=by
     exact Pj fG (λk hk=>by simp only[TY,Uq,decide_eq_false_iff_not]at hk⊢;exactλh=>hk (Tb _ h)) (by simpa using h1) (by simp)
    omega
theorem Jq{X:List Nat}:∀{l:List Nat},(∃i∈l,i∉X)->∃A i B,l=A++i::B/\i∉X/\∀a∈A,a∈X
 |[],⟨_,h,_⟩=>by cases h
 |x::l,⟨i,h,hn⟩=>by
  by_cases hx:x∈X
  ·have hi:i∈l:=(SK.1 h).resolve_left λe=>hn (e▸hx);obtain⟨A,j,B,h1,h2,h3⟩:=Jq ⟨i,hi,hn⟩;exact⟨x::A,j,B,by rw[h1];rfl,h2,λa ha=>(SK.1 ha).elim (λe=>e▸hx) (h3 a)⟩
  ·exact⟨[],x,l,rfl,hx,by simp⟩
structure Bh (k:AV->List aa->Prop):Type where
 n:Nat
def Ej (lv:Bool)(P:SI)(f:AV)(H:List aa)(aE:List AV)(k:AV->List aa->Prop)(_t:Bh k):Prop:=∃av H',i_ lv P f H aE (λb ud=>b=av/\ud=H') (λ_ _=>False)/\k av H'
def H2 (lv:Bool)(P:SI)(f:AV)(name:String)(H:List aa)(aE:List AV)(k:AV->List aa->Prop)(_t:Bh k):Prop:=∃av H',Ep lv P f name H aE (λb ud=>b=av/\ud=H') (λ_ _=>False)/\k av H'
theorem j8{lv:Bool}{P:SI}{f:AV}{H:List aa}{aE:List AV}{k:AV->List aa->Prop}{t:Bh k}(av:AV)(H':List aa)(h:i_ lv P f H aE (λb ud=>b=av/\ud=H') (λ_ _=>False))(hk:k av H'):Ej lv P f H aE k t:=⟨av,H',h,hk⟩
def j7 (x:Option aa)(X Y:Prop)(_t:l8 X Y):Prop:=match x with
 |some (.own _ _ _)=>X
 |_=>Y
def qP (G H:List aa)(k:AV->List aa->Prop)(n m sz:Nat)(elem:TypeId)(l l':List AV):End->Prop
 |.exact=>j7 G[H.length]? (0<m/\k (.bw H.length 0 (n+m) 0) (H++[.own sz (l++l') elem])) (k (.sl (n+m) (l++l') (.opn H.length)) (H++[.tail (n+m) sz elem])) ⟨0⟩
 |.opn i=>(match H[i]?with
   |some (.tail n' ez gR)=>n'=n/\ez=sz/\gR=elem
   |_=>False)/\(∀a∈l',a.leaf=true)/\k (.sl (n+m) (l++l') (.opn i)) (H.set i (.tail (n+m) sz elem))
 |.shut=>m=0/\k (.sl n l .shut) H
section
variable (lv:Bool)(P:SI)
def j5 (G:List aa)(s:AS)(o:Tu)(k:AV->List aa->Prop):Prop:=match o.op with
 |.box t x=>ao (s.ev x) λa=>ao a.parts λl=>k (.op s.H.length 0) (s.H++[.cells l t])
 |.alloc t=>ao (eN P t) λz=>k (.op s.H.length 0) (s.H++[.cells (l7 z) t])
 |.store t x y=>ao (s.ev x) λp=>ao (s.ev y) λa=>ao a.parts λlp=>p.pU λid off=>match s.H[id]?with
  |some (.cells l el)=>(ao (Ty P t) λx=>lp.length=x.1)/\off+lp.length<=l.length/\(∀a∈lp,a.leaf=true)/\k (.val undef) (s.H.set id (.cells (iG l off lp) el))
  |some (.own p l el)=>(ao (Ty P t) λx=>lp.length=x.1)/\off+lp.length<=l.length/\(∀a∈lp,a.leaf=true)/\k (.val undef) (s.H.set id (.own p (iG l off lp) el))
  |_=>False
 |.call c=>match c.callee with
  |.builtin .append=>match c.args.toList,c.argTypes.toList with
   |[x,y],[t,t']=>ao (jR P t t') λ(elem,sz,_)=>ao (s.ev x) λa=>ao (s.ev y) λb=>a.pV (λid off n c0=>ao (s.src sz b) λ(m,l')=>t_ s.H k id off n c0 m sz elem l') λn l e=>ao (s.src sz b) λ(m,l')=>l.length=n* sz/\l'.length=m* sz/\n+m<=2^30/\qP G s.H k n m sz elem l l' e
   |_,_=>False
  |.value x=>ao (s.ev x) λf=>ao (ff s c.args.toList) λaE=>Ej lv P f s.H aE k ⟨0⟩
  |.invoke x name=>ao (s.ev x) λf=>ao (ff s c.args.toList) λaE=>H2 lv P f name s.H aE k ⟨0⟩
  |_=>False
 |.makeSlice t x y=>ao (Bj P t) λ(e,sz,z)=>ao (s.ev x) λa=>ao (s.ev y) λb=>a.asInt λ_ n=>b.asInt λ_ n'=>n'=n/\0<=n/\n<=2^30/\k (.bw s.H.length 0 n.toNat n.toNat) (s.H++[.cells (gM z (n.toNat* sz)) e])
 |.buildSlice t len parts=>ao (qX P t) λ(e,sz,z)=>len* sz<=2^24/\ao (j_ s parts.toList) λma=>ao (og (iz.at (.elems sz)) (gM z (len* sz)) ma) λl=>k (.bw s.H.length 0 len len) (s.H++[.cells l e])
 |_=>False
end
section
variable {lv:Bool}{P:SI}{r:Option Nat}{o:Tu}{s:AS}{k:AV->List aa->Prop}
theorem Step.drop{G:List aa}{av mI:AV}{bad:AV->AS->Prop}(h:Step lv P r o s (λs'=>s'=(⟨s.T,s.H++G⟩:AS).put o.dst av) bad)(hw:Wk av mI)(hl:∀(E:Env)(V:View)(a:Act),Conc E V s.H->cj E s.T a.tmps->Lt s.H.length mI):Step lv P r o s (λs'=>s'=(⟨s.T,s.H⟩:AS).put o.dst mI) bad:=λE V a N Q hc ht hd hf n1 n2=>by
 refine h E V a N Q hc ht hd hf (λE' V' a' s' q1 q2 q3 q4=> ?_) n2;subst q4;rw[fi]at q2;have fE:((⟨s.T,s.H++G⟩:AS).put o.dst av).HY ((⟨s.T,s.H⟩:AS).put o.dst mI):=by
  refine⟨λt x e=> ?_,⟨G,by rw[fi,fi]⟩,by rw[fi];exact hc.au⟩;rw[fi];have hold:look s.T t=some x->Lt s.H.length x:=λe=>by rw[<- hc.n];exact(ht t x e).2.lt
  cases dp:o.dst with
  |none=>
   rw[dp]at e;simp only[AS.put]at e⊢;exact⟨x,e,Wk.refl x,hold e⟩
  |some d=>
   rw[dp]at e;simp only[AS.put,look]at e⊢;by_cases Ru:d=t
   ·rw[if_pos Ru]at e⊢;cases e;exact⟨av,rfl,hw,hl E V a hc ht⟩
   ·rw[if_neg Ru]at e⊢;exact⟨x,e,Wk.refl x,hold e⟩
 have ah:At E' V' ((⟨s.T,s.H++G⟩:AS).put o.dst av) a' a'.tmps.size:=⟨by rw[fi];exact q2,q3,rfl⟩;have aS:=ah.cut fE;rw[fi]at aS;refine n1 _ V' a' _ ⟨D2 (SQ _) (by rw[q2.n];simp) q1.le hc.n,q1.size,q1.defers,q1.role,q1.deaf⟩ aS.br aS.tok rfl
end
section
variable {lv:Bool}{P:SI}{r:Option Nat}{o:Tu}{s:AS}{G:List aa}{k:AV->List aa->Prop}
theorem d_{α:Type}{x:Option α}{a:α}{k:α->Prop}(h:x=some a)(hk:k a):ao x k:=by rw[h,ao];exact hk
theorem QA{x:Option aa}{X Y:Prop}{t:l8 X Y}(h:j7 x X Y t):((∃a b c,x=some (.own a b c))/\X)\/((∀a b c,x≠some (.own a b c))/\Y):=by
 unfold j7 at h;split at h
 ·exact .inl ⟨⟨_,_,_,rfl⟩,h⟩
 ·rename_i hx;exact .inr ⟨λa b c e=>hx a b c e,h⟩
theorem ajj{x:Option aa}{X Y:Prop}{t:l8 X Y}{a:Nat}{b:List AV}{c:TypeId}(h:x=some (.own a b c))(hX:X):j7 x X Y t:=by subst h;exact hX
theorem ajm{x:Option aa}{X Y:Prop}{t:l8 X Y}(h:∀a b c,x≠some (.own a b c))(hY:Y):j7 x X Y t:=by
 unfold j7;split
 ·exact absurd rfl (h _ _ _)
 ·exact hY
theorem qP.ex{H:List aa}{n m sz:Nat}{elem:TypeId}{l l':List AV}{e:End}(h:qP G H k n m sz elem l l' e):∃av H',qP G H (λa h=>a=av/\h=H') n m sz elem l l' e/\k av H':=by
 cases e with
 |exact=>
  rcases QA (t:=⟨0⟩) h with⟨⟨a,b,c,e⟩,h0,h1⟩|⟨e,h1⟩
  ·exact⟨_,_,ajj (t:=⟨0⟩) e ⟨h0,rfl,rfl⟩,h1⟩
  ·exact⟨_,_,ajm (t:=⟨0⟩) e ⟨rfl,rfl⟩,h1⟩
 |shut=>exact⟨_,_,⟨h.1,rfl,rfl⟩,h.2⟩
 |opn i=>exact⟨_,_,⟨h.1,h.2.1,rfl,rfl⟩,h.2.2⟩
theorem t_.ex{H:List aa}{id off n c0 m sz:Nat}{elem:TypeId}{l':List AV}(h:t_ H k id off n c0 m sz elem l'):∃av H',t_ H (λa h=>a=av/\h=H') id off n c0 m sz elem l'/\k av H':=by
 obtain⟨h1,h2,h3,h4,h5,h6⟩:=h;split at h6
 ·rename_i hk;obtain⟨g1,g2,g3,g4⟩:=h6;refine⟨_,_,⟨h1,h2,h3,h4,h5,?_⟩,g4⟩;rw[hk];exact⟨g1,g2,g3,rfl,rfl⟩
 ·exact h6.elim
end
section
variable {lv:Bool}{P:SI}{r:Option Nat}{o:Tu}{s:AS}{next:AS->Prop}{bad:AV->AS->Prop}
theorem acM{t e:TypeId}{len sz:Nat}{z:SP}{parts:Array (Nat×Th)}{ma:List (Nat×AV)}{l:List AV}(ho:o.op=.buildSlice t len parts)(ht:qX P t=some (e,sz,z))(aV:len* sz<=2^24)(hp:j_ s parts.toList=some ma)
  (hl:og (iz.at (.elems sz)) (gM z (len* sz)) ma=some l) (hn:next ((⟨s.T,s.H++[.cells l e]⟩:AS).put o.dst (.bw s.H.length 0 len len))):Step lv P r o s next bad:=by
 intro E V a N Q hc aF hd bz h1 _;unfold qX at ht;split at ht
 ·rename_i e' hu;obtain⟨i,hi,ht⟩:=Te.1 ht;obtain⟨z',hz,ht⟩:=Tq.1 ht;cases ht;refine⟨bz,?_⟩;unfold execOp;rw[ho];dsimp only;refine az ?_;unfold Instr.buildSlice;refine ec hu ?_;dsimp only;refine j4 hi ?_;rw[if_neg (by omega)];obtain⟨hlen,bp⟩:=EX aF hp;obtain⟨eP,nB,uD⟩:=BY (IT (E:=E) z (len* i.size)) hlen bp hl;have fin:∀(rr:Nat),V.fresh rr->aO P (V.upd rr (.cells eP e)) (pure (W3 (.slice (some ⟨rr,0,none⟩) len len))) (mG lv P r o a N Q) (λv V'=>Q (.panic [{v,recovered:=false}]) a V'):=λrr hf=>by
   have oB:E.Le (E.add rr V.ab):=E.qC rr (λb o v h=>by rw[<- hc.I];exact h);have bm:Conc (E.add rr V.ab) (V.upd rr (.cells eP e)) (s.H++[.cells l e]):=by
    refine hc.add hf _ ⟨⟨_,?_,uD.mono oB⟩,λo=> ?_⟩ (λb e=> ?_)
    ·rw[Env.dL];simp[View.upd]
    ·rw[Env.dL];exact hf.2 o
    ·simp only[bL,Env.dL,Tj]at e;exact e.symm
   have pf:ap (E.add rr V.ab) (.bw s.H.length 0 len len) (.slice (some ⟨rr,0,none⟩) len len):=by
    have:=ap.bw (E:=E.add rr V.ab) (id:=s.H.length) (off:=0) (n:=len) (cap:=len) (cap':=len) (by show _<E.n+1;rw[hc.n];omega) ⟨by omega,λ_=>rfl,λh=>absurd h (by omega)⟩;have e:(E.add rr V.ab).blk s.H.length=rr:=(by rw[<- hc.n];exact E.dL rr _);rwa [e]at this
   exact aq (h1 _ _ (a.put o.dst _) _ ⟨oB,dX _ _ _,put_defers _ _ _,rfl,rfl⟩ (by rw[fi];exact bm) (cj.gX (s:=⟨s.T,s.H++[.cells l e]⟩) (aF.mono oB) hd pf) hn)
  have e2:(λj=>some (j* i.size,i.size))=iz.at (.elems i.size):=rfl;rw[e2];by_cases h0:len* i.size=0
  ·rw[if_pos h0];refine az (aq ?_);rw[h0]at nB⊢;rw[show WK 0=#[]from rfl]at nB⊢;simp only[List.map_toArray,List.map_nil,VK]at nB⊢;rw[nB];unfold newRow;exact az (az (az (oJ λrr hf=>cI (aq (aq (aq (fin rr hf)))))))
  ·rw[if_neg h0];refine az (az ?_);unfold typeInfo;refine az (qG (cI ?_));rw[hi];refine aq ?_;rw[hz];refine aq (az (aq ?_));rw[VK,nB];unfold newRow;exact az (az (az (oJ λrr hf=>cI (aq (aq (aq (fin rr hf)))))))
 ·cases ht
end
section
variable {lv:Bool}{P:SI}{r:Option Nat}{o:Tu}{s:AS}{G:List aa}{k:AV->List aa->Prop}
theorem j5.ex(h:j5 lv P G s o k):∃av H',j5 lv P G s o (λa h=>a=av/\h=H')/\k av H':=by
 unfold j5 at h⊢;generalize o.op=op at h⊢;cases op with
 |box t x=>
  obtain⟨a,h1,h⟩:=h.out;obtain⟨l,h2,h⟩:=h.out;exact⟨_,_,d_ h1 (d_ h2 ⟨rfl,rfl⟩),h⟩
 |alloc t=>
  obtain⟨z,h1,h⟩:=h.out;exact⟨_,_,d_ h1 ⟨rfl,rfl⟩,h⟩
 |store t x y=>
  obtain⟨p,h1,hA⟩:=h.out;obtain⟨a,h2,hB⟩:=hA.out;obtain⟨lp,h3,hC⟩:=hB.out;obtain⟨id,off,e1,hD⟩:=BI hC;subst e1;clear h hA hB hC;split at hD
  ·rename_i l el hk;refine⟨_,_,d_ h1 (d_ h2 (d_ h3 ?_)),hD.2.2.2⟩;unfold AV.pU;dsimp only;rw[hk];exact⟨hD.1,hD.2.1,hD.2.2.1,rfl,rfl⟩
  ·rename_i p l el hk;refine⟨_,_,d_ h1 (d_ h2 (d_ h3 ?_)),hD.2.2.2⟩;unfold AV.pU;dsimp only;rw[hk];exact⟨hD.1,hD.2.1,hD.2.2.1,rfl,rfl⟩
  ·exact hD.elim
 |call c=>
  dsimp only at h⊢;generalize c.callee=cl at h⊢;generalize c.args.toList=xs at h⊢;generalize c.argTypes.toList=ts at h⊢;cases cl with
  |builtin b=>
   cases b with
   |append=>
    dsimp only at h⊢;split at h
    ·obtain⟨⟨elem,sz,z⟩,h1,hA⟩:=h.out;obtain⟨a,h2,hB⟩:=hA.out;obtain⟨b,h3,hC⟩:=hB.out;rcases Il hC with⟨id,off,n,c0,e1,hD⟩|⟨n,l,e,e1,hD⟩
     ·obtain⟨⟨m,l'⟩,h4,h5⟩:=hD.out;subst e1;obtain⟨av,H',g1,g2⟩:=h5.ex;refine⟨av,H',d_ h1 (d_ h2 (d_ h3 ?_)),g2⟩;simp only[AV.pV];exact d_ h4 g1
     ·obtain⟨⟨m,l'⟩,h4,h5,h6,h7,h8⟩:=hD.out;subst e1;obtain⟨av,H',g1,g2⟩:=h8.ex;refine⟨av,H',d_ h1 (d_ h2 (d_ h3 ?_)),g2⟩;simp only[AV.pV];exact d_ h4 ⟨h5,h6,h7,g1⟩
    ·exact h.elim
   |_=>exact h.elim
  |value x=>
   obtain⟨f,h1,hA⟩:=h.out;obtain⟨aE,h2,hB⟩:=hA.out;obtain⟨av,H',g1,g2⟩:=hB;exact⟨av,H',d_ h1 (d_ h2 ⟨av,H',g1,rfl,rfl⟩),g2⟩
  |invoke x name=>
   obtain⟨f,h1,hA⟩:=h.out;obtain⟨aE,h2,hB⟩:=hA.out;obtain⟨av,H',g1,g2⟩:=hB;exact⟨av,H',d_ h1 (d_ h2 ⟨av,H',g1,rfl,rfl⟩),g2⟩
 |makeSlice t x y=>
  obtain⟨⟨e,sz,z⟩,h1,hA⟩:=h.out;obtain⟨a,h2,hB⟩:=hA.out;obtain⟨b,h3,hC⟩:=hB.out;obtain⟨j,n,e1,hD⟩:=n9 hC;obtain⟨j',n',e2,hE⟩:=n9 hD;clear h hA hB hC hD;subst e1 e2;exact⟨_,_,d_ h1 (d_ h2 (d_ h3 ⟨hE.1,hE.2.1,hE.2.2.1,rfl,rfl⟩)),hE.2.2.2⟩
 |buildSlice t len parts=>
  obtain⟨⟨e,sz,z⟩,h1,h2,hA⟩:=h.out;obtain⟨ma,h3,hB⟩:=hA.out;obtain⟨l,h4,hC⟩:=hB.out;exact⟨_,_,d_ h1 ⟨h2,d_ h3 (d_ h4 ⟨rfl,rfl⟩)⟩,hC⟩
 |_=>exact h.elim
theorem j5.step{av:AV}{H':List aa}{bad:AV->AS->Prop}(h:j5 lv P G s o (λa h=>a=av/\h=H')):Step lv P r o s (λs'=>s'=(⟨s.T,H'⟩:AS).put o.dst av) bad:=by
 unfold j5 at h;split at h
 ·rename_i t x ho;obtain⟨a,h1,h⟩:=h.out;obtain⟨l,h2,h⟩:=h.out;obtain⟨e1,e2⟩:=h;exact acL ho h1 h2 (by rw[e1,e2])
 ·rename_i t ho;obtain⟨z,h1,h⟩:=h.out;obtain⟨e1,e2⟩:=h;exact acI ho h1 (by rw[e1,e2])
 ·rename_i t x y ho;obtain⟨p,h1,hA⟩:=h.out;obtain⟨a,h2,hB⟩:=hA.out;obtain⟨lp,h3,hC⟩:=hB.out;obtain⟨id,off,e1,hD⟩:=BI hC;clear h hA hB hC;subst e1;split at hD
  ·rename_i l el hk;obtain⟨q1,q2,q3,q4,Nh⟩:=hD;obtain⟨⟨n,g⟩,q5,q6⟩:=q1.out;exact acQ ho q5 h1 hk h2 h3 q6 q2 q3 (by rw[q4,Nh])
  ·rename_i p l el hk;obtain⟨q1,q2,q3,q4,Nh⟩:=hD;obtain⟨⟨n,g⟩,q5,q6⟩:=q1.out;exact acR ho q5 h1 hk h2 h3 q6 q2 q3 (by rw[q4,Nh])
  ·exact hD.elim
 ·rename_i c ho;split at h
  ·rename_i aY;split at h
   ·rename_i x y t t' ha ht;obtain⟨⟨elem,sz,z⟩,h1,hA⟩:=h.out;obtain⟨a,h2,hB⟩:=hA.out;obtain⟨b,h3,hC⟩:=hB.out;rcases Il hC with⟨id,off,n,c0,e1,hD⟩|⟨n,l,e,e1,hD⟩
    ·clear h hA hB hC;subst e1;obtain⟨⟨m,l'⟩,h4,rfl,g2,g3,g4,g5,hE⟩:=hD.out;split at hE
     ·rename_i hk;obtain⟨rfl,rfl,g6,g7,g8⟩:=hE;exact acJ ho aY (nb ha) (sk ht) h1 h2 g2 hk rfl h3 h4 g6 g3 g4 g5 (by rw[g7,g8])
     ·exact hE.elim
    ·clear h hA hB hC;subst e1;obtain⟨⟨m,l'⟩,h4,h5,h6,h7,h8⟩:=hD.out;cases e with
     |exact=>
      rcases QA (t:=⟨0⟩) h8 with⟨_,h0,e1,e2⟩|⟨_,e1,e2⟩
      ·exact acK ho aY (nb ha) (sk ht) h1 h2 h3 h4 h5 h6 h7 h0 (by rw[e1,e2])
      ·exact step_append ho aY (nb ha) (sk ht) h1 h2 h3 h4 h5 h6 h7 (by show (_:AS)=_;rw[<- e1,<- e2])
     |shut=>
      obtain⟨e0,e1,e2⟩:=h8;exact step_append ho aY (nb ha) (sk ht) h1 h2 h3 h4 h5 h6 h7 ⟨e0,by rw[<- e1,<- e2]⟩
     |opn i=>
      obtain⟨e0,e0',e1,e2⟩:=h8;exact step_append ho aY (nb ha) (sk ht) h1 h2 h3 h4 h5 h6 h7 ⟨e0,e0',by rw[<- e1,<- e2]⟩
   ·exact h.elim
  ·rename_i x aY;obtain⟨f,h1,hA⟩:=h.out;obtain⟨aE,h2,hB⟩:=hA.out;obtain⟨a0,H0,g1,g2,g3⟩:=hB;subst g2 g3;exact NC ho aY h1 h2 (g1.mono (λa H h=>by rw[h.1,h.2]) λ_ _ h=>h.elim)
  ·rename_i x name aY;obtain⟨f,h1,hA⟩:=h.out;obtain⟨aE,h2,hB⟩:=hA.out;obtain⟨a0,H0,g1,g2,g3⟩:=hB;subst g2 g3;exact acN ho aY h1 h2 (λE V cv vs hc hd pi=>(g1 E V cv vs hc hd pi).mono (λ_ _ x=>Nx.mono (λ_ _ y=>y.mono (λa H h=>by rw[h.1,h.2]) λ_ _ h=>h.elim) x) λ_ _ y=>y.mono (λa H h=>by rw[h.1,h.2]) λ_ _ h=>h.elim)
  ·exact h.elim
 ·rename_i t x y ho;obtain⟨⟨e,sz,z⟩,h1,hA⟩:=h.out;obtain⟨a,h2,hB⟩:=hA.out;obtain⟨b,h3,hC⟩:=hB.out;obtain⟨j,n,e1,hD⟩:=n9 hC;obtain⟨j',n',e2,hE⟩:=n9 hD;clear h hA hB hC hD;subst e1 e2;obtain⟨e3,h4,h5,h6,h7⟩:=hE;subst e3;obtain⟨m,rfl⟩:∃m:Nat,n'=m:=⟨n'.toNat,by omega⟩;exact acO ho h1 h2 h3 (by omega) (by rw[VP]at h6 h7;rw[h6,h7])
 ·rename_i t len parts ho;obtain⟨⟨e,sz,z⟩,h1,h2,hA⟩:=h.out;obtain⟨ma,h3,hB⟩:=hA.out;obtain⟨l,h4,h5,h6⟩:=hB.out;exact acM ho h1 h2 h3 h4 (by rw[h5,h6])
 ·exact h.elim
theorem j5.congr{T T':List (Nat×AV)}{H:List aa}(h:∀x∈o.op.operands,AS.ev ⟨T,H⟩ x=AS.ev ⟨T',H⟩ x)(ha:j5 lv P G ⟨T,H⟩ o k):j5 lv P G ⟨T',H⟩ o k:=by
 unfold j5 at ha⊢;generalize o.op=op at h ha⊢;cases op with
 |box t x=>dsimp only at ha⊢;rw[<- h x (by simp[Tt])];exact ha
 |alloc t=>exact ha
 |store t x y=>dsimp only at ha⊢;rw[<- h x (by simp[Tt]),<- h y (by simp[Tt])];exact ha
 |call c=>
  have cN:∀x∈c.args.toList,AS.ev ⟨T,H⟩ x=AS.ev ⟨T',H⟩ x:=λx hx=>h x (by simp[Tt,VO];exact .inr (by simpa using hx));dsimp only at ha⊢;split at ha
  ·split at ha
   ·rename_i x y t t' hx ht;rw[hx]at cN;rw[<- cN x (by simp),<- cN y (by simp)];exact ha
   ·exact ha.elim
  ·rename_i x aY;rw[<- h x (by simp[Tt,VO,aY]),<- BX _ cN];exact ha
  ·rename_i x name aY;rw[<- h x (by simp[Tt,VO,aY]),<- BX _ cN];exact ha
  ·exact ha.elim
 |makeSlice t x y=>dsimp only at ha⊢;rw[<- h x (by simp[Tt]),<- h y (by simp[Tt])];exact ha
 |buildSlice t len parts=>
  have e:j_ ⟨T',H⟩ parts.toList=j_ ⟨T,H⟩ parts.toList:=by
   have hp:∀p∈parts.toList,AS.ev ⟨T,H⟩ p.2=AS.ev ⟨T',H⟩ p.2:=λp hp=>h p.2 (by simp[Tt];exact⟨p.1,by simpa using hp⟩);clear ha;generalize parts.toList=l at hp;induction l with
   |nil=>rfl
   |cons p l ih=>simp only[j_,hp p TC,ih λq hq=>hp q (Tb _ hq)]
  dsimp only at ha⊢;rw[e];exact ha
 |_=>exact ha.elim
end
def nm (acc:List (Nat×List Nat))(j:Nat):List Nat:=((acc.find? (·.1==j)).map (·.2)).getD []
def gF (ops:Array Tu):List Nat->List (Nat×List Nat)->List (Nat×List Nat)
 |[],acc=>acc
 |i::l,acc=>match ops[i]?with
  |some o=>gF ops l ((i,(cR o++(cR o).flatMap (nm acc)).eraseDups)::acc)
  |none=>gF ops l acc
def tZ:List Nat->List (List Nat)
 |[]=>[[]]
 |x::l=>tZ l++(tZ l).map (x::·)
def wG (cl:List (Nat×List Nat))(es:List Nat)(i:Nat)(D:List Nat):Bool:=
 !D.contains i&&es.all λe=>(!(nm cl i).contains e||D.contains e)&&(!D.contains e||(!(nm cl e).contains i&&es.all λe'=> !(nm cl e).contains e'||D.contains e'))
def tN (es:List Nat)(i:Nat)(D:List Nat):List Nat:=es.filter λe=>e==i||D.contains e
structure qT where
 i:Nat
 eff:Bool
 aft:List Nat
 MQ:List (List Nat×List Nat)
 deriving DecidableEq
def entry (cl:List (Nat×List Nat))(es X:List Nat)(i:Nat):qT:=
 let cur:=es.filter λe=>X.contains e
 ⟨i,es.contains i,tN es i cur,((tZ es).filter λD=>wG cl es i D&&D !=cur).map λD=>(D,tN es i D)⟩
def qE (cl:List (Nat×List Nat))(es:List Nat):List Nat->List Nat->List qT
 |_,[]=>[]
 |X,i::B=>entry cl es X i::qE cl es (i::X) B
def abJ (ops:Array Tu)(es ord:List Nat):List qT:=qE (gF ops ord []) es [] ord
def kz (ops:Array Tu):List Nat->List Nat->Bool
 |_,[]=>true
 |X,i::B=> !X.contains i&&(match ops[i]?with
  |some o=>(cR o).all X.contains
  |none=>false)&&kz ops (i::X) B
def ri (nt:Nat)(ops:Array Tu)(es ord:List Nat):Bool:=
 let cl:=gF ops ord [];decide (ord.length=ops.size)&&kz ops [] ord&&ord.all λi=>match ops[i]?with
  |some o=>o.dst.all (·<nt)&& !mo o.op&&o.guard.isNone&&
   (ord.all λj=>i==j||match o.dst,cY ops j with
    |some d,some d'=>d !=d'
    |_,_=>true)&&
   (o.op.operands.toList.all λx=>match x with
    |.tmp t=>ord.all λj=>cY ops j !=some t||(cR o).contains j||(nm cl j).contains i
    |_=>true)
  |none=>false
theorem QD{acc:List (Nat×List Nat)}{j k:Nat}(h:k∈nm acc j):∃l,(j,l)∈acc/\k∈l:=by
 unfold nm at h;cases e:acc.find? (·.1==j)with
 |none=>rw[e]at h;simp at h
 |some x=>
  rw[e]at h;obtain⟨j',l⟩:=x;have h1:=List.mem_of_find?_eq_some e;have h2:=List.find?_some e;simp only[beq_iff_eq]at h2;subst h2;exact⟨l,h1,by simpa using h⟩
theorem IG{ops:Array Tu}:∀(ord:List Nat)(acc:List (Nat×List Nat)),(∀i l,(i,l)∈acc->∀j∈l,Reach ops i j)->∀i l,(i,l)∈gF ops ord acc->∀j∈l,Reach ops i j
 |[],acc,h=>h
 |x::ord,acc,h=>by
  unfold gF;split
  ·rename_i o ho;refine IG ord _ λi l hm j hj=> ?_;rcases SK.1 hm with e|hm
   ·cases e;rw[Y7,SR]at hj;rcases hj with hj|hj
    ·exact .I5 ho hj
    ·obtain⟨k,hk,hj⟩:=S5.1 hj;obtain⟨l',h1,h2⟩:=QD hj;exact .more ho hk (h _ _ h1 _ h2)
   ·exact h i l hm j hj
  ·exact IG ord acc h
theorem zh{ops:Array Tu}{ord:List Nat}{i j:Nat}(h:j∈nm (gF ops ord []) i):Reach ops i j:=by
 obtain⟨l,h1,h2⟩:=QD h;exact IG ord [] (by simp) i l h1 j h2
theorem Fa(p:Nat->Bool):∀l:List Nat,l.filter p∈tZ l
 |[]=>by simp[tZ]
 |x::l=>by
  unfold tZ;rw[SR];by_cases h:p x=true
  ·rw[Yr h];exact .inr (Tl.2 ⟨_,Fa p l,rfl⟩)
  ·rw[Ys h];exact .inl (Fa p l)
structure yR (nt:Nat)(ops:Array Tu)(ord:List Nat):Prop where
 full:∀i,i<ops.size->i∈ord
 lt:∀i∈ord,i<ops.size
 top:kz ops [] ord=true
 dst:∀(i:Nat) o d,ops[i]?=some o->o.dst=some d->d<nt
 vS:∀(i:Nat) o,ops[i]?=some o->mo o.op=false
 B_:∀(i:Nat) o,ops[i]?=some o->o.guard=none
 A1:∀(i j d:Nat),cY ops i=some d->cY ops j=some d->i=j
 MP:∀(i:Nat) o t j,ops[i]?=some o-> .tmp t∈o.op.operands->cY ops j=some t->j∈cR o\/Reach ops j i
theorem DZ{ops:Array Tu}:∀{ord X:List Nat},kz ops X ord=true->ord.Nodup/\(∀i∈ord,i∉X)/\∀i∈ord,i<ops.size
 |[],_,_=>⟨WM,by simp,by simp⟩
 |i::B,X,h=>by
  simp only[kz,Ti,TY,Uq,decide_eq_false_iff_not]at h;obtain⟨⟨h1,h2⟩,h3⟩:=h;obtain⟨q1,q2,q3⟩:=DZ h3;refine⟨VS.2 ⟨λhm=>q2 i hm (TC ..),q1⟩,λj hj=> ?_,λj hj=> ?_⟩
  ·rcases SK.1 hj with rfl|hj
   ·exact h1
   ·exactλhx=>q2 j hj (Tb _ hx)
  ·rcases SK.1 hj with rfl|hj
   ·apply Tm;intro hn;rw[Yx (by omega)]at h2;cases h2
   ·exact q3 j hj
theorem ri.out{nt:Nat}{ops:Array Tu}{es ord:List Nat}(h:ri nt ops es ord=true):yR nt ops ord:=by
 unfold ri at h;simp only[Ti,decide_eq_true_eq]at h;obtain⟨⟨hlen,nL⟩,h⟩:=h;obtain⟨wu,_,hlt⟩:=DZ nL;have zQ:∀i,i<ops.size->i∈ord:=λi hi=>by
  apply Tm;intro hn;have lS:(i::ord)⊆SZ ops.size:=λj hj=>by
   rcases SK.1 hj with rfl|hj
   ·simpa using hi
   ·simpa using hlt j hj
  have:=(VS.2 ⟨hn,wu⟩).length_le_of_subset lS;simp at this;omega
 have key:∀(i:Nat) o,ops[i]?=some o->o.dst.all (·<nt)=true/\mo o.op=false/\o.guard.isNone=true/\(∀j∈ord,(i==j||match o.dst,cY ops j with
    |some d,some d'=>d !=d'
    |_,_=>true)=true)/\(∀x∈o.op.operands.toList,(match x with
    |.tmp t=>ord.all λj=>cY ops j !=some t||(cR o).contains j||(nm (gF ops ord []) j).contains i
    |_=>true)=true):=λi o ho=>by
  have hi:i<ops.size:=(SS.1 ho).1;have:=Tv.1 h i (zQ i hi);rw[ho]at this;simp only[Ti,Tv,TY]at this;exact⟨this.1.1.1.1,this.1.1.1.2,this.1.1.2,this.1.2,this.2⟩
 have Rr:∀j d,cY ops j=some d->j<ops.size:=λj d e=>by
  apply Tm;intro hn;rw[cY,Yx (by omega)]at e;cases e
 refine⟨zQ,hlt,nL,λi o d ho hd=> ?_,λi o ho=>(key i o ho).2.1,λi o ho=>by simpa using(key i o ho).2.2.1,λi j d hi hj=> ?_,λi o t j ho ht hj=> ?_⟩
 ·have:=(key i o ho).1;rw[hd]at this;simpa using this
 ·apply Tm;intro aH;obtain⟨o,ho,td⟩:=Te.1 hi;have:=(key i o ho).2.2.2.1 j (zQ j (Rr j d hj));rw[td,hj]at this;simp[aH]at this
 ·have:=(key i o ho).2.2.2.2 (.tmp t) (by simpa using ht);simp only[Tv]at this;have:=this j (zQ j (Rr j t hj));rw[hj]at this;simp only[bne_self_eq_false,Zu,XZ,Uq,decide_eq_true_eq]at this;exact this.imp id zh
section
variable (lv:Bool)(P:SI)(Hf:List Nat->List aa)
def BQ (T:List (Nat×AV))(o:Tu)(av:AV):List (List Nat×List Nat)->Prop
 |[]=>True
 |(D,_)::l=>(AQ lv P ⟨T,Hf D⟩ o λa=>a=av)/\BQ T o av l
def BE (T:List (Nat×AV))(o:Tu)(av:AV):List (List Nat×List Nat)->Prop
 |[]=>True
 |(D,D')::l=>(j5 lv P (Hf D') ⟨T,Hf D⟩ o λa H'=>a=av/\H'=Hf D')/\BE T o av l
structure Bg (K:AS->Prop):Type where
 n:Nat
def fZ (ops:Array Tu):List qT->AS->(K:AS->Prop)->Bg K->Prop
 |[],s,K,_=>K s
 |⟨i,false,_,l⟩::rest,s,K,t=>ao (ops[i]?) λo=>AQ lv P s o λav=>BQ lv P Hf s.T o av l/\fZ ops rest (s.put o.dst av) K t
 |⟨i,true,D,l⟩::rest,s,K,t=>ao (ops[i]?) λo=>j5 lv P (Hf D) s o λav H'=>H'=Hf D/\BE lv P Hf s.T o av l/\fZ ops rest ((⟨s.T,H'⟩:AS).put o.dst av) K t
end
def TX (ops:Array Tu)(T0:List (Nat×AV))(f:Nat->AV):List Nat->List (Nat×AV)
 |[]=>T0
 |i::X=>match cY ops i with
  |some d=>(d,f i)::TX ops T0 f X
  |none=>TX ops T0 f X
section
variable {ops:Array Tu}{T0:List (Nat×AV)}{f g:Nat->AV}
theorem Bs:∀{X:List Nat},(∀j∈X,f j=g j)->TX ops T0 f X=TX ops T0 g X
 |[],_=>rfl
 |i::X,h=>by
  simp only[TX,Bs (X:=X) λj hj=>h j (Tb _ hj),h i (TC ..)]
theorem Bt(aai:∀(i j d:Nat),cY ops i=some d->cY ops j=some d->i=j):∀{X:List Nat}{j t:Nat},j∈X->cY ops j=some t->look (TX ops T0 f X) t=some (f j)
 |i::X,j,t,hj,ht=>by
  by_cases ku:i=j
  ·subst ku;simp[TX,ht,look]
  ·have iB:j∈X:=(SK.1 hj).resolve_left (Ne.symm ku);have ih:=Bt aai (X:=X) iB ht;unfold TX;split
   ·rename_i d hd;have:d≠t:=λe=>ku (aai i j d hd (by rw[e];exact ht));simp only[look,if_neg this];exact ih
   ·exact ih
theorem w9:∀{X:List Nat}{t:Nat},(∀j∈X,cY ops j≠some t)->look (TX ops T0 f X) t=look T0 t
 |[],_,_=>rfl
 |i::X,t,h=>by
  have ih:=w9 (X:=X) (t:=t) λj hj=>h j (Tb _ hj);unfold TX;split
  ·rename_i d hd;have:d≠t:=λe=>h i (TC ..) (by rw[hd,e]);simp only[look,if_neg this];exact ih
  ·exact ih
theorem w_{H:List aa}{X:List Nat}{i:Nat}{o:Tu}{av:AV}(ho:ops[i]?=some o)(hf:f i=av):(⟨TX ops T0 f X,H⟩:AS).put o.dst av=⟨TX ops T0 f (i::X),H⟩:=by
 have hd:cY ops i=o.dst:=by simp[cY,ho]
 have e:TX ops T0 f (i::X)=match cY ops i with
  |some d=>(d,f i)::TX ops T0 f X
  |none=>TX ops T0 f X:=rfl
 rw[e,hd];cases o.dst with
 |none=>rfl
 |some d=>simp[AS.put,hf]
def kT (ops:Array Tu)(X:List Nat):Prop:=∀i∈X,∀o,ops[i]?=some o->∀j∈cR o,j∈X
theorem kT.reach{X:List Nat}(hX:kT ops X){i j:Nat}(hi:i∈X)(h:Reach ops i j):j∈X:=AK hX h λo ho k hk=>hX i hi o ho k hk
theorem kT.cons{X:List Nat}(hX:kT ops X){i:Nat}{o:Tu}(ho:ops[i]?=some o)(hd:∀j∈cR o,j∈X):kT ops (i::X):=λk hk o' bf j hj=>by
 rcases SK.1 hk with rfl|hk
 ·rw[ho]at bf;cases bf;exact Tb _ (hd j hj)
 ·exact Tb _ (hX k hk o' bf j hj)
theorem adQ{nt:Nat}{ord:List Nat}(au:yR nt ops ord){X X':List Nat}{i:Nat}{o:Tu}(ho:ops[i]?=some o)(hX:kT ops X)(ou:kT ops X')(hi:i∉X)(cC:i∉X')(hd:∀j∈cR o,j∈X)(cz:∀j∈cR o,j∈X'){t:Nat}(ht: .tmp t∈o.op.operands):
  look (TX ops T0 f X) t=look (TX ops T0 f X') t:=by
 by_cases hex:∃j,cY ops j=some t
 ·obtain⟨j,hj⟩:=hex;rcases au.MP i o t j ho ht hj with h|h
  ·rw[Bt au.A1 (hd j h) hj,Bt au.A1 (cz j h) hj]
  ·rw[w9 λj' iB e=>hi (hX.reach (au.A1 j j' t hj e▸iB) h),w9 λj' iB e=>cC (ou.reach (au.A1 j j' t hj e▸iB) h)]
 ·rw[w9 λj _ e=>hex ⟨j,e⟩,w9 λj _ e=>hex ⟨j,e⟩]
end
section
variable {lv:Bool}{P:SI}{r:Option Nat}{ops:Array Tu}{Hf:List Nat->List aa}{T0:List (Nat×AV)}{es ord:List Nat}{nt:Nat}
def done (es X:List Nat):List Nat:=es.filter λe=>X.contains e
theorem EU{X:List Nat}{i:Nat}:tN es i (done es X)=done es (i::X):=by
 unfold tN done;apply Vm;intro e he;by_cases h:e=i
 ·subst h;simp
 ·simp[Uw,he,h]
theorem IW{X:List Nat}{i:Nat}(hi:i∉es):done es (i::X)=done es X:=by
 unfold done;apply Vm;intro e he;have:e≠i:=λh=>hi (h▸he);simp[this]
theorem IX{X:List Nat}(hX:kT ops X){i:Nat}{o:Tu}(ho:ops[i]?=some o)(hi:i∉X)(hd:∀j∈cR o,j∈X):wG (gF ops ord []) es i (done es X)=true:=by
 have cK:∀e,e∈es->(e∈done es X<->e∈X):=λe he=>by simp[done,Uw,he]
 have hX2:=hX.cons ho hd;unfold wG;simp only[Ti,TY,Uq,decide_eq_false_iff_not,Tv,XZ,decide_eq_true_eq];refine⟨λh=>hi (by simpa[done]using(Uw.1 h).2),λe he=>⟨?_,?_⟩⟩
 ·by_cases h:e∈nm (gF ops ord []) i
  ·right;rw[cK e he];exact AK hX (zh h) λo' bf k hk=>by rw[ho]at bf;cases bf;exact hd k hk
  ·exact .inl h
 ·by_cases h:e∈X
  ·right;refine⟨λhm=>hi (hX.reach h (zh hm)),λe' ko=> ?_⟩;by_cases hm:e'∈nm (gF ops ord []) e
   ·right;rw[cK e' ko];exact hX.reach h (zh hm)
   ·exact .inl hm
  ·left;rw[cK e he];exact h
def OB (lv:Bool)(P:SI)(r:Option Nat)(ops:Array Tu)(Hf:List Nat->List aa)(T0:List (Nat×AV))(es:List Nat)(f:Nat->AV)(i:Nat)(o:Tu)(X:List Nat):Prop:=
 if i∈es then j5 lv P (Hf (done es (i::X))) ⟨TX ops T0 f X,Hf (done es X)⟩ o (λa H'=>a=f i/\H'=Hf (done es (i::X)))
 else∃T,(∀t a,look T t=some a->look (TX ops T0 f X) t=some a)/\dB lv P r o ⟨T,Hf (done es X)⟩ (f i)
theorem BQ.mem{T:List (Nat×AV)}{o:Tu}{av:AV}:∀{l:List (List Nat×List Nat)},BQ lv P Hf T o av l->∀p∈l,AQ lv P ⟨T,Hf p.1⟩ o λa=>a=av
 |(D,D')::l,h,p,hp=>by
  rcases SK.1 hp with rfl|hp
  ·exact h.1
  ·exact BQ.mem h.2 p hp
theorem BE.mem{T:List (Nat×AV)}{o:Tu}{av:AV}:∀{l:List (List Nat×List Nat)},BE lv P Hf T o av l->∀p∈l,j5 lv P (Hf p.2) ⟨T,Hf p.1⟩ o λa H'=>a=av/\H'=Hf p.2
 |(D,D')::l,h,p,hp=>by
  rcases SK.1 hp with rfl|hp
  ·exact h.1
  ·exact BE.mem h.2 p hp
def canon (T:List (Nat×AV)):List Th->List (Nat×AV)
 |[]=>[]
 |.tmp t::l=>match look T t with
  |some a=>(t,a)::canon T l
  |none=>canon T l
 |_::l=>canon T l
theorem IE{T:List (Nat×AV)}:∀{l:List Th}{t:Nat}{a:AV},look (canon T l) t=some a->look T t=some a
 |[],_,_,h=>by cases h
 |x::l,t,a,h=>by
  have ih:=@IE T l t a;cases x with
  |tmp t'=>
   simp only[canon]at h;split at h
   ·rename_i b hb;simp only[look]at h;split at h
    ·rename_i e;subst e;cases h;exact hb
    ·exact ih h
   ·exact ih h
  |_=>exact ih h
theorem Pc{T:List (Nat×AV)}:∀{l:List Th}{t:Nat},.tmp t∈l->look (canon T l) t=look T t
 |x::l,t,h=>by
  by_cases hx:x=.tmp t
  ·subst hx;simp only[canon];split
   ·rename_i b hb;simp[look,hb]
   ·rename_i hb;rw[hb];cases e:look (canon T l) t with
    |none=>rfl
    |some a=>have:=IE e;rw[hb]at this;cases this
  ·have hm: .tmp t∈l:=(SK.1 h).resolve_left (Ne.symm hx);have ih:=Pc (T:=T) hm;cases x with
   |tmp t'=>
    have aH:t'≠t:=λe=>hx (by rw[e]);simp only[canon];split
    ·simp only[look,if_neg aH];exact ih
    ·exact ih
   |_=>exact ih
theorem Pb{T:List (Nat×AV)}:∀{l:List Th}{t:Nat}{a:AV},look (canon T l) t=some a-> .tmp t∈l
 |[],_,_,h=>by cases h
 |x::l,t,a,h=>by
  have ih:=@Pb T l t a;cases x with
  |tmp t'=>
   simp only[canon]at h;split at h
   ·simp only[look]at h;split at h
    ·rename_i e;subst e;exact TC ..
    ·exact Tb _ (ih h)
   ·exact Tb _ (ih h)
  |_=>exact Tb _ (ih h)
theorem Pa{T:List (Nat×AV)}{H:List aa}{l:List Th}{x:Th}(h:x∈l):AS.ev ⟨T,H⟩ x=AS.ev ⟨canon T l,H⟩ x:=by
 cases x with
 |tmp t=>exact(Pc h).symm
 |_=>rfl
theorem BN(au:yR nt ops ord){K:AS->Prop}{tk:Bg K}:∀(B X:List Nat)(acc:Nat->AV),kz ops X B=true->kT ops X->fZ lv P Hf ops (qE (gF ops ord []) es X B) ⟨TX ops T0 acc X,Hf (done es X)⟩ K tk->
  ∃f,(∀j∈X,f j=acc j)/\(∀i∈B,∀o,ops[i]?=some o->∀X',kT ops X'->i∉X'->(∀j∈cR o,j∈X')->OB lv P r ops Hf T0 es f i o X')/\K ⟨TX ops T0 f (B.reverse++X),Hf (done es (B.reverse++X))⟩
 |[],X,acc,_,_,h=>⟨acc,λ_ _=>rfl,by simp,by simpa[qE,fZ]using h⟩
 |i::B,X,acc,nL,hX,h=>by
  have atH:=nL;simp only[kz,Ti,TY,Uq,decide_eq_false_iff_not]at nL;obtain⟨⟨hi,h2⟩,h3⟩:=nL;cases ho:ops[i]?with
  |none=>rw[ho]at h2;cases h2
  |some o=>
  rw[ho]at h2;have hd:∀j∈cR o,j∈X:=λj hj=>by have:=Tv.1 h2 j hj;simpa using this
  have ou:=hX.cons ho hd;have atq:wG (gF ops ord []) es i (done es X)=true:=IX hX ho hi hd;have MQ:∀D,D∈tZ es->wG (gF ops ord []) es i D=true->D≠done es X->(D,tN es i D)∈((tZ es).filter λD=>wG (gF ops ord []) es i D&&D !=done es X).map λD=>(D,tN es i D):=λD h1 h2 h3=>Tl.2 ⟨D,Uw.2 ⟨h1,by simp[h2,h3]⟩,rfl⟩;have On:∀av:AV,TX ops T0 acc X=TX ops T0 (λj=>if j=i then av else acc j) X:=λav=>Bs λj hj=>by
   have:j≠i:=λe=>hi (e▸hj);simp[this]
  have seen:∀(f:Nat->AV) X',(∀j∈X,f j=acc j)->kT ops X'->i∉X'->(∀j∈cR o,j∈X')->∀(H:List aa),∀x∈o.op.operands,AS.ev ⟨TX ops T0 acc X,H⟩ x=AS.ev ⟨TX ops T0 f X',H⟩ x:=λf X' hf hc hn cz H x hx=>by
   cases x with
   |tmp t=>
    show look _ t=look _ t;rw[<- Bs (f:=f) (g:=acc) hf];exact adQ au ho hX hc hi hn hd cz hx
   |_=>rfl
  unfold qE at h;by_cases dx:i∈es
  ·have Km:entry (gF ops ord []) es X i=⟨i,true,tN es i (done es X),((tZ es).filter λD=>wG (gF ops ord []) es i D&&D !=done es X).map λD=>(D,tN es i D)⟩:=by
    unfold entry done;simp[dx]
   rw[Km,fZ,ho,ao]at h;obtain⟨av,H',g1,e1,g2,g3⟩:=h.ex;subst e1;rw[EU]at g1 g3;rw[On av,w_ ho (by simp)]at g3;obtain⟨f,q1,q2,q3⟩:=BN au B (i::X) _ h3 ou g3;have Kr:f i=av:=(by have:=q1 i (TC ..);simpa using this);have Cx:∀j∈X,f j=acc j:=λj hj=>by
    have:=q1 j (Tb _ hj);have aH:j≠i:=λe=>hi (e▸hj);simpa[aH]using this
   refine⟨f,Cx,λk hk o' bf X' hc hn cz=> ?_,by simpa using q3⟩;rcases SK.1 hk with rfl|hk
   ·rw[ho]at bf;cases bf;unfold OB;rw[if_pos dx,Kr];refine j5.congr (T:=TX ops T0 acc X) (seen f X' Cx hc hn cz _) ?_;by_cases hD:done es X'=done es X
    ·rw[<- EU,hD,EU];exact g1
    ·have:=g2.mem _ (MQ _ (Fa _ es) (IX hc ho hn cz) hD);rw[<- EU];exact this
   ·exact q2 k hk o' bf X' hc hn cz
  ·have Km:entry (gF ops ord []) es X i=⟨i,false,tN es i (done es X),((tZ es).filter λD=>wG (gF ops ord []) es i D&&D !=done es X).map λD=>(D,tN es i D)⟩:=by
    unfold entry done;simp[dx]
   rw[Km,fZ,ho,ao]at h;have h':=AQ.congr (T':=canon (TX ops T0 acc X) o.op.operands.toList) (λx hx=>Pa (by simpa using hx)) h;obtain⟨av,g1,g2,g3⟩:=h'.sound (r:=r);rw[On av,w_ ho (by simp),<- IW (X:=X) dx]at g3;obtain⟨f,q1,q2,q3⟩:=BN au B (i::X) _ h3 ou g3;have Kr:f i=av:=(by have:=q1 i (TC ..);simpa using this);have Cx:∀j∈X,f j=acc j:=λj hj=>by
    have:=q1 j (Tb _ hj);have aH:j≠i:=λe=>hi (e▸hj);simpa[aH]using this
   refine⟨f,Cx,λk hk o' bf X' hc hn cz=> ?_,by simpa using q3⟩;rcases SK.1 hk with rfl|hk
   ·rw[ho]at bf;cases bf;unfold OB;rw[if_neg dx,Kr];refine⟨canon (TX ops T0 acc X) o.op.operands.toList,λt a e=> ?_,?_⟩
    ·have h1:=seen f X' Cx hc hn cz [] (.tmp t) (by simpa using Pb e);have h2:look (TX ops T0 acc X) t=look (TX ops T0 f X') t:=h1;rw[<- h2];exact IE e
    ·by_cases hD:done es X'=done es X
     ·rw[hD];exact g1
     ·have h1:=g2.mem _ (MQ _ (Fa _ es) (IX hc ho hn cz) hD);have h2:=AQ.congr (T':=canon (TX ops T0 acc X) o.op.operands.toList) (λx hx=>Pa (by simpa using hx)) h1;obtain⟨mI,h3,rfl⟩:=h2.sound (r:=r);exact h3
   ·exact q2 k hk o' bf X' hc hn cz
theorem Ev{f:Nat->AV}(au:yR nt ops ord){X X':List Nat}(h:∀i,i∈X<->i∈X')(t:Nat):look (TX ops T0 f X) t=look (TX ops T0 f X') t:=by
 by_cases hex:∃j∈X,cY ops j=some t
 ·obtain⟨j,hj,hd⟩:=hex;rw[Bt au.A1 hj hd,Bt au.A1 ((h j).1 hj) hd]
 ·rw[w9 λj hj e=>hex ⟨j,hj,e⟩,w9 λj hj e=>hex ⟨j,(h j).2 hj,e⟩]
theorem EV{X X':List Nat}(h:∀i,i∈X<->i∈X'):done es X=done es X':=by
 unfold done;apply Vm;intro e _;have:=h e;by_cases h1:e∈X
 ·have h2:=this.1 h1;simp[h1,h2]
 ·have h2:e∉X':=λx=>h1 (this.2 x);simp[h1,h2]
theorem agU{f:Nat->AV}(au:yR nt ops ord)(ay:∀i∈ord,∀o,ops[i]?=some o->∀X',kT ops X'->i∉X'->(∀j∈cR o,j∈X')->OB lv P r ops Hf T0 es f i o X'){X l:List Nat}(hs:l9 ops X l):
  (∀i∈X,i<ops.size)->kT ops X->∀(E:Env)(V:View)(a:Act)(Q:Ex->Act->View->Prop),At E V ⟨TX ops T0 f X,Hf (done es X)⟩ a nt->
   (∀E' V' a' X',Kept E E' V V' a a'->At E' V' ⟨TX ops T0 f X',Hf (done es X')⟩ a' nt->(∀i,i∈X'<->i<ops.size)->Q .normal a' V')->dl lv P r ops Q l a V:=by
 induction hs with
 |nil X h=>
  intro hX hc E V a Q ah hQ;exact hQ E V a X (Kept.refl E V a) ah λi=>⟨hX i,h i⟩
 |cons o ho hn hd lP ih=>
  rename_i X i l;intro hX hc E V a Q ah hQ;have hi:i<ops.size:=(SS.1 ho).1;simp only[dl,ho];have ou:∀k∈i::X,k<ops.size:=λk hk=>(SK.1 hk).elim (λe=>by rw[e];exact hi) (hX k);have bm:=hc.cons ho hd;have hw:Tg o (yielded ops a.tmps)=true:=by unfold Tg;rw[au.B_ i o ho]
  rw[if_pos hw];refine .inl ?_;have dp:∀d,o.dst=some d->d<a.tmps.size:=λd e=>by rw[ah.size];exact au.dst i o d ho e
  have lO:=ay i (au.full i hi) o ho X hc hn hd;unfold OB at lO;by_cases dx:i∈es
  ·rw[if_pos dx]at lO;have aQ:=lO.step (r:=r) (bad:=λ_ _=>False);refine aQ E V a _ Q ah.br ah.tok dp (.inr (au.vS i o ho)) (λE' V' a' s' hk ce ht e=> ?_) λ_ _ _ _ _ _ _ _ _ h=>h.elim;subst e;rw[w_ ho rfl]at ht ce;exact ih ou bm E' V' a' Q ⟨ce,ht,hk.size.trans ah.size⟩ λbP aR cm mH aJ dh fD=>hQ bP aR cm mH (hk.trans aJ) dh fD
  ·rw[if_neg dx]at lO;obtain⟨T,hT,hq⟩:=lO;refine hq E V a _ Q ah.br (λt av e=>ah.tok t av (hT t av e)) (.inr (au.vS i o ho)) λE' V' v hle b8 eW ce hv=> ?_;have ht:cj E' ((⟨TX ops T0 f X,Hf (done es X)⟩:AS).put o.dst (f i)).T (a.put o.dst v).tmps:=cj.gX (s:=⟨TX ops T0 f X,Hf (done es X)⟩) (ah.tok.mono hle) dp hv;rw[w_ ho rfl]at ht;refine ih ou bm E' V' (a.put o.dst v) Q ⟨by rw[IW dx];exact ce,ht,(dX _ _ _).trans ah.size⟩ λbP aR cm mH hk dh fD=>
    hQ bP aR cm mH ⟨hle.trans hk.le,hk.size.trans (dX _ _ _),hk.defers.trans (put_defers _ _ _),hk.role.trans b8,hk.deaf.trans eW⟩ dh fD
theorem aff{s:AS}{id:Nat}{Φ:an->AS->Prop}(es ord:List Nat)(pl:List qT)(Hf:List Nat->List aa)(hm:P.follows .mixedOrders=true)(au:ri nt ops es ord=true)(dG:abJ ops es ord=pl)(h0:s.H=Hf [])
  (h:fZ lv P Hf ops pl s (Φ .normal) ⟨0⟩):aP lv P r nt (.region id ops true) s Φ:=by
 intro E V a Q ah hQ;have au:=ri.out au;obtain⟨wu,_,hlt⟩:=DZ au.top;have db:s=⟨TX ops s.T (λ_=> .val undef) [],Hf (done es [])⟩:=by
  have:done es []=[]:=by simp[done]
  rw[this,<- h0];rfl
 subst dG;have h':fZ lv P Hf ops (qE (gF ops ord []) es [] ord) ⟨TX ops s.T (λ_=> .val undef) [],Hf (done es [])⟩ (Φ .normal) ⟨0⟩:=by rw[<- db];exact h
 obtain⟨f,_,q2,q3⟩:=BN (r:=r) au ord [] _ au.top (λi hi=>by cases hi) h';have zQ:∀i,i∈ord<->i<ops.size:=λi=>⟨hlt i,au.full i⟩;refine NY λt=> ?_;rw[show VM (P.follows .mixedOrders) ops t=UI .any ops ops.size t (TL ops.size false) [] by unfold VM;rw[hm];simp[Y9]];have binds:∀(A B:List Nat)(X:List Nat),kz ops X (A++B)=true->True:=λ_ _ _ _=>trivial;have ready:∀(ord X:List Nat),kz ops X ord=true->∀A i B,ord=A++i::B->∃o,ops[i]?=some o/\∀j∈cR o,j∈A\/j∈X:=by
  intro ord;induction ord with
  |nil=>intro X _ A i B e;cases A<;>cases e
  |cons x l ih=>
   intro X nL A i B e;simp only[kz,Ti,TY,Uq,decide_eq_false_iff_not]at nL;obtain⟨⟨h1,h2⟩,h3⟩:=nL;cases A with
   |nil=>
    have e1:x=i:=(by have:=congrArg List.head? e;simpa using this);rw[e1]at h2;cases ho:ops[i]?with
    |none=>rw[ho]at h2;cases h2
    |some o=>
     rw[ho]at h2;exact⟨o,rfl,λj hj=> .inr (by have:=Tv.1 h2 j hj;simpa using this)⟩
   |cons y A=>
    cases e;obtain⟨o,ho,hb⟩:=ih (x::X) h3 A i B rfl;refine⟨o,ho,λj hj=> ?_⟩;rcases hb j hj with h|h
    ·exact .inl (Tb _ h)
    ·rcases SK.1 h with rfl|h
     ·exact .inl (TC ..)
     ·exact .inr h
 have hs:=Mq (ops:=ops) (λi o ho j hj=>by
   obtain⟨A,B,e⟩:=List.append_of_mem (au.full i (SS.1 ho).1);obtain⟨o',bf,hb⟩:=ready ord [] au.top A i B e;rw[ho]at bf;cases bf;rcases hb j hj with h|h
   ·exact hlt j (by rw[e];exact Tf _ h)
   ·cases h)
  (λX ⟨i,hi,hn⟩=>by
   obtain⟨A,i',B,e,h1,h2⟩:=Jq (X:=X) ⟨i,au.full i hi,hn⟩;obtain⟨o',bf,hb⟩:=ready ord [] au.top A i' B e;refine⟨i',o',bf,h1,λj hj=> ?_⟩;rcases hb j hj with h|h
   ·exact h2 j h
   ·cases h)
  ops.size t (TL ops.size false) [] ⟨by simp,λi hi=>by simp[hi]⟩ (UM Y0 (by simp))
 have s8:At E V ⟨TX ops s.T f [],Hf (done es [])⟩ a nt:=by
  have e:(⟨TX ops s.T f [],Hf (done es [])⟩:AS)=s:=db.symm;rw[e];exact ah
 refine agU (Hf:=Hf) (es:=es) au q2 hs (by simp) (λi hi=>by cases hi) E V a Q s8 λE' V' a' X' hk aS fD=> ?_;have fG:∀i,i∈X'<->i∈ord.reverse++[]:=λi=>by simp[fD,zQ]
 refine hQ .normal .normal E' V' a' _ hk ⟨?_,λt x e=> ?_,aS.size⟩ trivial q3
 ·rw[<- EV fG];exact aS.br
 ·rw[<- Ev au fG]at e;exact aS.tok t x e
end
open Go.Proofs
theorem F.Oc:lE SA 77=(SM Go.Gg.yW.map):=by kernel_rfl
theorem F.Oj:eN SA 4=(SM (W_ Bool.false)):=by kernel_rfl
theorem F.Ol:eN SA 88=(SM (TE #[(W_ Bool.false),(Zq Option.none),(SF S6 (0)),(SF S6 (0)),(SF S6 (0)),(SF S6 (0)),(SF S6 (0)),(SF S6 (0)),(SF S6 (0)),(SF S6 (0)),(SF S6 (0)),(SF S6 (0)),(SF S6 (0)),(SF S6 (0)),(SF S6 (0)),(SF S6 (0)),(SF S6 (0)),(SF SD (0)),(SF SD (0)),(SF SD (0)),(SF SD (0)),(SF SD (0)),(SF SD (0)),(SF SD (0)),(SF SD (0)),(SF SD (0)),(SF SD (0)),(SF SD (0))])):=by kernel_rfl
theorem F.alK:mq SA 116=(SM Bool.false):=by kernel_rfl
theorem F.C8:mq SA 126=(SM Bool.true):=by kernel_rfl
theorem F.L6:mq SA 136=(SM Bool.false):=by kernel_rfl
theorem F.alL:mq SA 156=(SM Bool.false):=by kernel_rfl
theorem F.aar:mq SA 97=(SM Bool.false):=by kernel_rfl
theorem F.f31:SA.funcs[31]?=some Tryz.f31:=by kernel_rfl
theorem F.f71:SA.funcs[71]?=some Tryz.f71:=by kernel_rfl
theorem F.f77:SA.funcs[77]?=some XJ:=by kernel_rfl
theorem F.f91:SA.funcs[91]?=some Tryz.f91:=by kernel_rfl
theorem F.f95:SA.funcs[95]?=some Tryz.f95:=by kernel_rfl
theorem F.f97:SA.funcs[97]?=some asg:=by kernel_rfl
theorem F.mixed:SA.follows .mixedOrders=true:=by kernel_rfl
inductive dI (lv:Bool)(P:SI)(r:Option Nat)(nt:Nat):T4->(an->AS->Prop)->T4->(an->AS->Prop)->Prop
 |base {c:T4} {Φ:an->AS->Prop}:dI lv P r nt c Φ c Φ
 |seq {x y h:T4} {Φ Ψ:an->AS->Prop} (i:dI lv P r nt x (an.then (λs=>aP lv P r nt y s Φ) Φ) h Ψ):dI lv P r nt (.seq x y) Φ h Ψ
 |block {id:Nat} {x h:T4} {Φ Ψ:an->AS->Prop} (i:dI lv P r nt x (an.inBlock id Φ) h Ψ):dI lv P r nt (.block id x) Φ h Ψ
section
variable {lv:Bool}{P:SI}{r:Option Nat}{s:AS}{nt id:Nat}{ops:Array Tu}{c h:T4}{Φ Ψ:an->AS->Prop}
theorem bF{f:TO}{H:List aa}{args:List AV}{k kp:AV->List aa->Prop}{rs:List UO}(fn:YB)
  (h:bI H->(∀a∈args,Lt H.length a)->aP lv P none nt c ⟨bk 0 args,H⟩ (uc P rs H.length k kp)) (hf:P.funcs[f]?=some fn:=by kernel_rfl) (hb:fn.body=some c:=by rfl) (hr:fn.results=rs.toArray:=by rfl) (hn:fn.ntmps=nt:=by rfl) (cN:args.length<=nt:=by simp):bh lv P f H args k kp:=aiW hf hb hr hn cN h
theorem dI.go(i:dI lv P r nt c Φ h Ψ):∀{s:AS},aP lv P r nt h s Ψ->aP lv P r nt c s Φ:=by
 induction i with
 |base=>exactλh=>h
 |seq _ ih=>exactλk=>iA (ih k)
 |block _ ih=>exactλk=>OH (ih k)
theorem ai(h:iy lv P ops ops.toList s (Ψ .normal) (λpv s=>Ψ (.panic pv) s))(i:dI lv P r nt c Φ (.region id ops false) Ψ:=by repeat first|exact .base|apply dI.seq|apply dI.block)(hd:jX nt ops=true:=by kernel_rfl):aP lv P r nt c s Φ:=i.go (OP hd h)
theorem asZ{o:Th}{x y:T4}(h:ao (s.ev o) λa=>a.asBool λb=>(b=true->aP lv P r nt x s Ψ)/\(b=false->aP lv P r nt y s Ψ))(i:dI lv P r nt c Φ (.cond o x y) Ψ:=by repeat first|exact .base|apply dI.seq|apply dI.block):aP lv P r nt c s Φ:=i.go (OI h)
theorem afp(h:Ψ .normal s)(i:dI lv P r nt c Φ .skip Ψ:=by repeat first|exact .base|apply dI.seq|apply dI.block):aP lv P r nt c s Φ:=i.go (OS h)
theorem n_(h:Ψ .ret s)(i:dI lv P r nt c Φ .ret Ψ:=by repeat first|exact .base|apply dI.seq|apply dI.block):aP lv P r nt c s Φ:=i.go (OQ h)
theorem as1(h:Ψ (.exit id) s)(i:dI lv P r nt c Φ (.exit id) Ψ:=by repeat first|exact .base|apply dI.seq|apply dI.block):aP lv P r nt c s Φ:=i.go (OJ h)
theorem cq{x:T4}(h:aP lv P r nt x s (an.inBlock id Ψ))(i:dI lv P r nt c Φ (.block id x) Ψ:=by repeat first|exact .base|apply dI.seq|apply dI.block):aP lv P r nt c s Φ:=i.go (OH h)
theorem ak{p:Prop}(h:p)(i:dI lv P r nt c Φ (.region id ops false) Ψ:=by repeat first|exact .base|apply dI.seq|apply dI.block)(e:iy lv P ops ops.toList s (Ψ .normal) (λpv s=>Ψ (.panic pv) s)=p:=by conv=>lhs;simp only[seval])(hd:jX nt ops=true:=by kernel_rfl):aP lv P r nt c s Φ:=i.go (OP hd (e.mpr h))
theorem aD{p:Prop}{o:Th}{x y:T4}(h:p)(i:dI lv P r nt c Φ (.cond o x y) Ψ:=by repeat first|exact .base|apply dI.seq|apply dI.block)(e:(ao (s.ev o) λa=>a.asBool λb=>(b=true->aP lv P r nt x s Ψ)/\(b=false->aP lv P r nt y s Ψ))=p:=by conv=>lhs;simp only[seval]):aP lv P r nt c s Φ:=i.go (OI (e.mpr h))
theorem aN{p:Prop}(h:p)(i:dI lv P r nt c Φ .skip Ψ:=by repeat first|exact .base|apply dI.seq|apply dI.block)(e:Ψ .normal s=p:=by conv=>lhs;simp only[seval]):aP lv P r nt c s Φ:=i.go (OS (e.mpr h))
theorem aZ{p:Prop}(h:p)(i:dI lv P r nt c Φ .ret Ψ:=by repeat first|exact .base|apply dI.seq|apply dI.block)(e:Ψ .ret s=p:=by conv=>lhs;simp only[seval]):aP lv P r nt c s Φ:=i.go (OQ (e.mpr h))
theorem bX{p:Prop}(h:p)(i:dI lv P r nt c Φ (.exit id) Ψ:=by repeat first|exact .base|apply dI.seq|apply dI.block)(e:Ψ (.exit id) s=p:=by conv=>lhs;simp only[seval]):aP lv P r nt c s Φ:=i.go (OJ (e.mpr h))
theorem eO{Φ Ψ:an->AS->Prop}{c:T4}(p:Nat)(h:mX lv P ops (ops.toList.take p) s (λs'=>iy lv P ops (ops.toList.drop p) s' (Ψ .normal) (λpv s=>Ψ (.panic pv) s)))(i:dI lv P r nt c Φ (.region id ops true) Ψ:=by repeat first|exact .base|apply dI.seq|apply dI.block)(hm:P.follows .mixedOrders=true:=by kernel_rfl)(au:zm nt p ops=true:=by kernel_rfl):aP lv P r nt c s Φ:=i.go (afe hm p au h)
theorem oW{Φ Ψ:an->AS->Prop}{c:T4}(es ord:List Nat)(pl:List qT)(Hf:List Nat->List aa)(h:fZ lv P Hf ops pl s (Ψ .normal) ⟨0⟩)(i:dI lv P r nt c Φ (.region id ops true) Ψ:=by repeat first|exact .base|apply dI.seq|apply dI.block)(hm:P.follows .mixedOrders=true:=by kernel_rfl)(au:ri nt ops es ord=true:=by kernel_rfl)(dG:abJ ops es ord=pl:=by kernel_rfl)(h0:s.H=Hf []:=by first|rfl|simp only[seval]):aP lv P r nt c s Φ:=i.go (aff es ord pl Hf hm au dG h0 h)
theorem sJ(n:Nat)(V:Nat->List (Nat×AV))(Hf:Nat->List aa)(ok:Nat->Prop)(hm:ok 0)
  (h:bI s.H->(∀t a,look s.T t=some a->Lt s.H.length a)->∀m,m<=n->ok m->∀R:AS->Prop,(∀s',(m<n/\ok (m+1)/\qV s.T (V m) (V (m+1)) (Hf (m+1)) s')->R s')->aP lv P r nt c ⟨V m++s.T,Hf m⟩ (an.then R Φ)) (uM:∀m m',(V m).map (·.1)=(V m').map (·.1):=by exactλ_ _=>rfl) (gG:∀p∈V 0,∃b,look s.T p.1=some b/\Wk b p.2:=by(simp only[seval];simp[bu,Wk.refl])) (uy:Hf 0=s.H:=by rfl) (hl:∀m,m<=n->ok m->(Hf m).length=s.H.length:=by exactλ_ _ _=>rfl):aP lv P r nt (.loop c) s Φ:=gD n V Hf ok uM gG uy hl hm h
theorem da{base Vi Vn T:List (Nat×AV)}{H:List aa}(hk:sC T (Vi++base) Vn:=by exact pE rfl rfl)(hv:∀p∈Vn,∃b,look T p.1=some b/\Wk b p.2:=by(simp only[seval];simp[bu,Wk.refl])):qV base Vi Vn H ⟨T,H⟩:=apC hk hv
theorem abZ{base Vi Vn T:List (Nat×AV)}{H H':List aa}(au:bI H)(hg:∃G,H++G=H':=by first|exact⟨_,rfl⟩|exact⟨_,SC ..⟩)(hk:sC T (Vi++base) Vn:=by exact pE rfl rfl)(hv:∀p∈Vn,∃b,look T p.1=some b/\Wk b p.2:=by(simp only[seval];simp[bu,Wk.refl]))(hlt:∀p∈Vn,Lt H.length p.2:=by simp[eK]):qV base Vi Vn H ⟨T,H'⟩:=by
 obtain⟨G,rfl⟩:=hg;exact abY hk hv au hlt
theorem cx{H:List aa}{args:List AV}{k kp:AV->List aa->Prop}{g:TO}{first cT:List AV}(hf:bh lv P g H (first++args++cT) k kp)(hg:qM P g=true:=by kernel_rfl):i_ lv P (.fn (.func g) first cT) H args k kp:=IB hg hf
end
theorem aI{lv:Bool}{P:SI}{H:List aa}{args:List AV}{k kp:AV->List aa->Prop}{g:TO}{first cT:List AV}{t:Er k kp}(hf:bh lv P g H (first++args++cT) k kp)(hg:qM P g=true:=by kernel_rfl):A_ lv P (.fn (.func g) first cT) H args k kp t:=xh (IB hg hf)
theorem F.q0:jR SA 22 22=(SM (3,(1,(SF SD (0)))))/\jR SA 23 23=(SM (61,(3,(TE #[(SF SD (0)),(SF SD (0)),(SF SD (0))]))))/\jR SA 24 24=(SM (48,(4,(TE #[(SF SD (0)),(SF SD (0)),(SF SD (0)),(SF SD (0))]))))/\jR SA 57 57=(SM (22,(1,(Us Option.none 0 0))))/\oO SA 136=(SM ((Go.Gg.iz.fields []),(TE #[])))/\oO SA 26=(SM ((Go.Gg.iz.fields [(0,1),(1,1),(2,1),(3,1),(4,1),(5,1)]),(TE #[(SF SD (0)),(SF SD (0)),(SF SD (0)),(Us Option.none 0 0),(Us Option.none 0 0),(Us Option.none 0 0)])))/\oO SA 46=(SM ((Go.Gg.iz.fields [(0,1),(1,1)]),(TE #[(SF SD (0)),(SF SD (0))])))/\oO SA 48=(SM ((Go.Gg.iz.fields [(0,2),(2,2)]),(TE #[(SF SD (0)),(SF SD (0)),(SF SD (0)),(SF SD (0))])))/\oO SA 61=(SM ((Go.Gg.iz.fields [(0,1),(1,2)]),(TE #[(SF SD (0)),(SF SD (0)),(SF SD (0))])))/\oO SA 73=(SM ((Go.Gg.iz.fields [(0,1),(1,1),(2,1)]),(TE #[(Us Option.none 0 0),(SF SD (0)),(SF TA (0))])))/\oO SA 76=(SM ((Go.Gg.iz.fields [(0,6)]),(TE #[(SF SD (0)),(SF SD (0)),(SF SD (0)),(Us Option.none 0 0),(Us Option.none 0 0),(Us Option.none 0 0)])))/\oO SA 86=(SM ((Go.Gg.iz.fields [(0,4),(4,4),(8,3)]),(TE #[(SF SD (0)),(SF SD (0)),(SF SD (0)),(SF SD (0)),(SF SD (0)),(SF SD (0)),(SF SD (0)),(SF SD (0)),(SF SD (0)),(SF SD (0)),(SF SD (0))])))/\oO SA 88=(SM ((Go.Gg.iz.fields [(0,1),(1,1),(2,4),(6,4),(10,4),(14,3),(17,11)]),(TE #[(W_ Bool.false),(Zq Option.none),(SF S6 (0)),(SF S6 (0)),(SF S6 (0)),(SF S6 (0)),(SF S6 (0)),(SF S6 (0)),(SF S6 (0)),(SF S6 (0)),(SF S6 (0)),(SF S6 (0)),(SF S6 (0)),(SF S6 (0)),(SF S6 (0)),(SF S6 (0)),(SF S6 (0)),(SF SD (0)),(SF SD (0)),(SF SD (0)),(SF SD (0)),(SF SD (0)),(SF SD (0)),(SF SD (0)),(SF SD (0)),(SF SD (0)),(SF SD (0)),(SF SD (0))])))/\oO SA 97=(SM ((Go.Gg.iz.fields [(0,1),(1,1)]),(TE #[(SF SD (0)),(SF SD (0))])))/\A' SA 3 71=(SM (SM TA))/\A' SA 71 3=(SM (SM SD)):=by and_intros<;>kernel_rfl
theorem F.q1:e_ SA 112 0=(SM 0)/\e_ SA 112 1=(SM 1)/\e_ SA 112 2=(SM 2)/\e_ SA 26 0=(SM 0)/\e_ SA 26 1=(SM 1)/\e_ SA 26 2=(SM 2)/\e_ SA 26 3=(SM 3)/\e_ SA 26 4=(SM 4)/\e_ SA 26 5=(SM 5)/\e_ SA 46 0=(SM 0)/\e_ SA 46 1=(SM 1)/\e_ SA 48 0=(SM 0)/\e_ SA 48 1=(SM 2)/\e_ SA 61 0=(SM 0)/\e_ SA 61 1=(SM 1)/\e_ SA 73 0=(SM 0):=by and_intros<;>kernel_rfl
theorem F.q2:e_ SA 73 1=(SM 1)/\e_ SA 73 2=(SM 2)/\e_ SA 76 0=(SM 0)/\e_ SA 86 0=(SM 0)/\e_ SA 86 1=(SM 4)/\e_ SA 86 2=(SM 8)/\e_ SA 88 0=(SM 0)/\e_ SA 88 1=(SM 1)/\e_ SA 88 2=(SM 2)/\e_ SA 88 3=(SM 6)/\e_ SA 88 4=(SM 10)/\e_ SA 88 5=(SM 14)/\e_ SA 88 6=(SM 17)/\e_ SA 97 0=(SM 0)/\e_ SA 97 1=(SM 1)/\nX SA 22=(SM (Option.none,1)):=by and_intros<;>kernel_rfl
theorem F.q3:nX SA 23=(SM (Option.none,3))/\nX SA 24=(SM (Option.none,4))/\nX SA 57=(SM (Option.none,1))/\nX SA 80=(SM ((SM 4),1))/\nX SA 81=(SM ((SM 3),1))/\nX SA 82=(SM ((SM 4),1))/\nX SA 83=(SM ((SM 4),1))/\nX SA 84=(SM ((SM 3),1))/\wZ SA 82=(SM (4,1))/\wZ SA 83=(SM (4,1))/\wZ SA 84=(SM (3,1))/\kB SA 22=(SM (3,1))/\kB SA 24=(SM (48,4))/\kB SA 82=Option.none/\kB SA 83=Option.none/\kB SA 84=Option.none:=by and_intros<;>kernel_rfl
theorem F.q4:lE SA 22=(SM Go.Gg.yW.slice)/\lE SA 23=(SM Go.Gg.yW.slice)/\lE SA 24=(SM Go.Gg.yW.slice)/\lE SA 57=(SM Go.Gg.yW.slice)/\Bj SA 22=(SM (3,(1,(SF SD (0)))))/\oR SA 77=(SM (83,4))/\qX SA 22=(SM (3,(1,(SF SD (0)))))/\qX SA 23=(SM (61,(3,(TE #[(SF SD (0)),(SF SD (0)),(SF SD (0))]))))/\qX SA 24=(SM (48,(4,(TE #[(SF SD (0)),(SF SD (0)),(SF SD (0)),(SF SD (0))]))))/\qX SA 57=(SM (22,(1,(Us Option.none 0 0))))/\Ty SA 130=(SM (1,Bool.false))/\Ty SA 132=(SM (1,Bool.false))/\Ty SA 136=(SM (0,Bool.true))/\Ty SA 139=(SM (1,Bool.false))/\Ty SA 157=(SM (1,Bool.false))/\Ty SA 22=(SM (1,Bool.false)):=by and_intros<;>kernel_rfl
theorem F.q5:Ty SA 23=(SM (1,Bool.false))/\Ty SA 24=(SM (1,Bool.false))/\Ty SA 26=(SM (6,Bool.true))/\Ty SA 3=(SM (1,Bool.false))/\Ty SA 4=(SM (1,Bool.false))/\Ty SA 46=(SM (2,Bool.true))/\Ty SA 48=(SM (4,Bool.true))/\Ty SA 61=(SM (3,Bool.true))/\Ty SA 68=(SM (1,Bool.false))/\Ty SA 71=(SM (1,Bool.false))/\Ty SA 76=(SM (6,Bool.true))/\Ty SA 77=(SM (1,Bool.false))/\Ty SA 79=(SM (1,Bool.false))/\Ty SA 81=(SM (3,Bool.true))/\Ty SA 83=(SM (4,Bool.true))/\Ty SA 86=(SM (11,Bool.true)):=by and_intros<;>kernel_rfl
theorem F.q6:Ty SA 88=(SM (28,Bool.true))/\Ty SA 97=(SM (2,Bool.true))/\eN SA 112=(SM (TE #[(SF SD (0)),(SF SD (0)),(W_ Bool.false)]))/\eN SA 116=(SM (TE #[(SF SD (0)),(SF SD (0))]))/\eN SA 136=(SM (TE #[]))/\eN SA 139=(SM (XM Option.none))/\eN SA 147=(SM (TE #[(SF TA (0)),(SF ah_ (0))]))/\eN SA 153=(SM (TE #[(SF SD (0)),(SF SD (0))]))/\eN SA 157=(SM YQ)/\eN SA 26=(SM (TE #[(SF SD (0)),(SF SD (0)),(SF SD (0)),(Us Option.none 0 0),(Us Option.none 0 0),(Us Option.none 0 0)]))/\eN SA 3=(SM (SF SD (0)))/\eN SA 46=(SM (TE #[(SF SD (0)),(SF SD (0))]))/\eN SA 48=(SM (TE #[(SF SD (0)),(SF SD (0)),(SF SD (0)),(SF SD (0))]))/\eN SA 61=(SM (TE #[(SF SD (0)),(SF SD (0)),(SF SD (0))]))/\eN SA 68=(SM YQ)/\eN SA 76=(SM (TE #[(SF SD (0)),(SF SD (0)),(SF SD (0)),(Us Option.none 0 0),(Us Option.none 0 0),(Us Option.none 0 0)])):=by and_intros<;>kernel_rfl
theorem F.q7:eN SA 79=(SM (SF S6 (0)))/\eN SA 80=(SM (TE #[(SF S6 (0)),(SF S6 (0)),(SF S6 (0)),(SF S6 (0))]))/\eN SA 81=(SM (TE #[(SF S6 (0)),(SF S6 (0)),(SF S6 (0))]))/\eN SA 83=(SM (TE #[(SF SD (0)),(SF SD (0)),(SF SD (0)),(SF SD (0))]))/\eN SA 86=(SM (TE #[(SF SD (0)),(SF SD (0)),(SF SD (0)),(SF SD (0)),(SF SD (0)),(SF SD (0)),(SF SD (0)),(SF SD (0)),(SF SD (0)),(SF SD (0)),(SF SD (0))]))/\eN SA 97=(SM (TE #[(SF SD (0)),(SF SD (0))])):=by and_intros<;>kernel_rfl
attribute [seval] F.q0 F.q1 F.q2 F.q3 F.q4 F.q5 F.q6 F.q7 F.Oc F.Ol
def isDone (j:Nat)(D:List Nat):Bool:=D.contains j
theorem alJ(j:Nat):isDone j []=false:=by simp[isDone]
theorem alI(i j:Nat)(D:List Nat):isDone j (i::D)=((j==i)||isDone j D):=by
 by_cases h:j=i<;>simp[isDone,h]
theorem af8(lv:Bool)(P:SI)(Hf:List Nat->List aa)(T:List (Nat×AV))(o:Tu)(av:AV):BQ lv P Hf T o av []=True:=by rw[BQ]
theorem af7(lv:Bool)(P:SI)(Hf:List Nat->List aa)(T:List (Nat×AV))(o:Tu)(av:AV)(D D':List Nat)(l:List (List Nat×List Nat)):BQ lv P Hf T o av ((D,D')::l)=((AQ lv P ⟨T,Hf D⟩ o λa=>a=av)/\BQ lv P Hf T o av l):=by rw[BQ]
theorem afG(lv:Bool)(P:SI)(Hf:List Nat->List aa)(T:List (Nat×AV))(o:Tu)(av:AV):BE lv P Hf T o av []=True:=by rw[BE]
theorem afF(lv:Bool)(P:SI)(Hf:List Nat->List aa)(T:List (Nat×AV))(o:Tu)(av:AV)(D D':List Nat)(l:List (List Nat×List Nat)):BE lv P Hf T o av ((D,D')::l)=((j5 lv P (Hf D') ⟨T,Hf D⟩ o λa H'=>a=av/\H'=Hf D')/\BE lv P Hf T o av l):=by rw[BE]
theorem afC:type_of% @fZ.eq_1:=by intros;rw[fZ.eq_1]
theorem afD:type_of% @fZ.eq_2:=by intros;rw[fZ.eq_2]
theorem afB:type_of% @fZ.eq_3:=by intros;rw[fZ.eq_3]
theorem ad2:type_of% @j5.eq_1:=by intros;rw[j5.eq_1]
theorem ag7(G H:List aa)(k:AV->List aa->Prop)(n m sz:Nat)(elem:TypeId)(l l':List AV):qP G H k n m sz elem l l' .exact=j7 G[H.length]? (0<m/\k (.bw H.length 0 (n+m) 0) (H++[.own sz (l++l') elem])) (k (.sl (n+m) (l++l') (.opn H.length)) (H++[.tail (n+m) sz elem])) ⟨0⟩:=by rw[qP]
theorem ajh(X Y:Prop)(t:l8 X Y):j7 none X Y t=Y:=by rw[j7];simp
theorem aji(a:Nat)(b:List AV)(c:TypeId)(X Y:Prop)(t:l8 X Y):j7 (some (.own a b c)) X Y t=X:=by rw[j7]
theorem ajg(b:List AV)(c:TypeId)(X Y:Prop)(t:l8 X Y):j7 (some (.cells b c)) X Y t=Y:=by rw[j7];simp
theorem ajl(a b:Nat)(c:TypeId)(X Y:Prop)(t:l8 X Y):j7 (some (.tail a b c)) X Y t=Y:=by rw[j7];simp
theorem ajf(b:Obj)(X Y:Prop)(t:l8 X Y):j7 (some (.obj b)) X Y t=Y:=by rw[j7];simp
theorem ajk(a:Nat)(b:List AV)(c:TypeId)(X Y:Prop)(t:l8 X Y):j7 (some (.part a b c)) X Y t=Y:=by rw[j7];simp
@[congr] theorem atj {x x' : Option aa} {X Y : Prop} {t : l8 X Y} (h : x = x') : j7 x X Y t = j7 x' X Y t := by rw [h]
theorem ag8(G H:List aa)(k:AV->List aa->Prop)(n m sz:Nat)(elem:TypeId)(l l':List AV)(i:Nat):qP G H k n m sz elem l l' (.opn i)=((match H[i]?with
   |some (.tail n' ez gR)=>n'=n/\ez=sz/\gR=elem
   |_=>False)/\(∀a∈l',a.leaf=true)/\k (.sl (n+m) (l++l') (.opn i)) (H.set i (.tail (n+m) sz elem))):=by first|(rw[qP];done)|(rw[qP];rfl)
section
variable {lv:Bool}{P:SI}{s s':AS}
@[congr] theorem asG {G G' : List aa} {o : Tu} {k : AV -> List aa -> Prop} (hG : G = G') (h : s = s') : j5 lv P G s o k = j5 lv P G' s' o k := by rw [hG, h]
@[congr] theorem as7 {Hf : List Nat -> List aa} {ops : Array Tu} {l l' : List qT} {K : AS -> Prop} {t : Bg K} (hl : l = l') (h : s = s') : fZ lv P Hf ops l s K t = fZ lv P Hf ops l' s' K t := by rw [hl, h]
@[congr] theorem ata {Hf : List Nat -> List aa} {T T' : List (Nat × AV)} {o : Tu} {av mI : AV} {l l' : List (List Nat × List Nat)} (h1 : T = T') (h2 : av = mI) (h3 : l = l') : BQ lv P Hf T o av l = BQ lv P Hf T' o mI l' := by rw [h1, h2, h3]
@[congr] theorem as8 {Hf : List Nat -> List aa} {T T' : List (Nat × AV)} {o : Tu} {av mI : AV} {l l' : List (List Nat × List Nat)} (h1 : T = T') (h2 : av = mI) (h3 : l = l') : BE lv P Hf T o av l = BE lv P Hf T' o mI l' := by rw [h1, h2, h3]
@[congr] theorem ate {f f' : AV} {H H' : List aa} {aE uk : List AV} {k : AV -> List aa -> Prop} {t : Bh k} (h1 : f = f') (h2 : H = H') (h3 : aE = uk) : Ej lv P f H aE k t = Ej lv P f' H' uk k t := by rw [h1, h2, h3]
@[congr] theorem atf {f f' : AV} {name : String} {H H' : List aa} {aE uk : List AV} {k : AV -> List aa -> Prop} {t : Bh k} (h1 : f = f') (h2 : H = H') (h3 : aE = uk) : H2 lv P f name H aE k t = H2 lv P f' name H' uk k t := by rw [h1, h2, h3]
@[congr] theorem atd {G G' H H' : List aa} {k : AV -> List aa -> Prop} {n n' m m' sz : Nat} {elem : TypeId} {l l' x x' : List AV} {e e' : End} (hG : G = G') (h0 : H = H') (h1 : n = n') (h2 : m = m') (h3 : l = l') (h4 : x = x') (h5 : e = e') : qP G H k n m sz elem l x e = qP G' H' k n' m' sz elem l' x' e' := by rw [hG, h0, h1, h2, h3, h4, h5]
end
attribute [seval] alJ alI af8 af7 afG afF afC afD afB ad2 ag7 ag8 ajh aji ajg ajl ajf ajk Bool.true_or Bool.false_or Bool.or_true Bool.or_false cond_true cond_false
def an.stay (Φ:an->AS->Prop):an->AS->Prop
 |.goto _,_=>False
 |e,s=>Φ e s
theorem aqQ(Φ:an->AS->Prop)(s:AS):an.stay Φ .normal s=Φ .normal s:=by rw[an.stay];simp
theorem aqS(Φ:an->AS->Prop)(s:AS):an.stay Φ .ret s=Φ .ret s:=by rw[an.stay];simp
theorem aqP(Φ:an->AS->Prop)(i:Nat)(s:AS):an.stay Φ (.exit i) s=Φ (.exit i) s:=by rw[an.stay];simp
theorem aqR(Φ:an->AS->Prop)(a:AV)(s:AS):an.stay Φ (.panic a) s=Φ (.panic a) s:=by rw[an.stay];simp
theorem OR{lv:Bool}{P:SI}{r:Option Nat}{s:AS}{nt:Nat}{c:T4}{Φ:an->AS->Prop}(h:aP lv P r nt c s (an.stay Φ)):aP lv P r nt (.scope c) s Φ:=by
 refine afo (λ_ _ _=>False) ⟨0,h.mono λe s hs=> ?_⟩ λ_ _ _ _ _ hf=>hf.elim;cases e<;>first|exact hs|exact hs.elim
@[congr] theorem atS {s s' : AS} {Φ : an -> AS -> Prop} {e e' : an} (he : e = e') (h : s = s') : an.stay Φ e s = an.stay Φ e' s' := by rw [he, h]
attribute [seval] aqQ aqS aqP aqR
theorem alG{α:Type}(n:Nat)(x:α):(if(n:Int)<0 then none else some x)=some x:=by rw[if_neg (by omega)]
theorem af5:(XG==Wx)=false:=by decide
theorem af6:(Wx==Wx)=true:=by decide
theorem aro{α β:Type}(f:α->β)(xs:List α):(xs.map f).take xs.length=xs.map f:=SX (by simp)
theorem anT(o:V_):(o=o\/o=.neq)=True:=by simp
theorem anU:(Wx=.eql\/Wx=.neq)=True:=by simp
theorem alN{α:Type}(a b:α):(if false=true then a else b)=b:=by simp
theorem alO{α:Type}(a b:α):(if true=true then a else b)=a:=by simp
theorem af1(s:AS):s.jb none=some none:=by rw[AS.jb]
theorem af2(s:AS)(x:Th):s.jb (some x)=(s.ev x).bind λa=>a.vK.map some:=by
 rw[AS.jb];cases s.ev x<;>rfl
theorem aeZ(j:TW)(n:Int):AV.vK (.val (.int j n))=some n:=by rw[AV.vK]
theorem aeh(P:SI)(t:TypeId)(id off:Nat)(l h m:Option Int)(k:AV->Prop):su P t (.op id off) l h m k=ao (wZ P t) λp=>sE id off p.1 p.1 p.2 l h m k:=by rw[su]
theorem aei(P:SI)(t:TypeId)(id off n c:Nat)(l h m:Option Int)(k:AV->Prop):su P t (.bw id off n c) l h m k=ao (kB P t) λp=>sE id off n c p.2 l h m k:=by rw[su]
theorem aej(P:SI)(t:TypeId)(n:Nat)(li:List AV)(e:End)(l h m:Option Int)(k:AV->Prop):su P t (.sl n li e) l h m k=ao (kB P t) λp=>w8 n li e p.2 l h m k:=by rw[su]
theorem an1:type_of% @sE.eq_1:=by intros;rw[sE.eq_1]
theorem aqr:type_of% @w8.eq_1:=by intros;rw[w8.eq_1]
@[congr] theorem atM {id oE off Dt n n' cap cap' sz ez : Nat} {lo Dh hi cC mx Dm : Option Int} {k : AV -> Prop} (h1 : id = oE) (h2 : off = Dt) (h3 : n = n') (h4 : cap = cap') (h5 : sz = ez) (h6 : lo = Dh) (h7 : hi = cC) (h8 : mx = Dm) : sE id off n cap sz lo hi mx k = sE oE Dt n' cap' ez Dh cC Dm k := by rw [h1, h2, h3, h4, h5, h6, h7, h8]
@[congr] theorem atP {n n' sz ez : Nat} {l l' : List AV} {e e' : End} {lo Dh hi cC mx Dm : Option Int} {k : AV -> Prop} (h3 : n = n') (h1 : l = l') (h2 : e = e') (h5 : sz = ez) (h6 : lo = Dh) (h7 : hi = cC) (h8 : mx = Dm) : w8 n l e sz lo hi mx k = w8 n' l' e' ez Dh cC Dm k := by rw [h1, h2, h3, h5, h6, h7, h8]
theorem ano:((1:Nat):Int)=1:=rfl
theorem anp:((2:Nat):Int)=2:=rfl
theorem anq:((3:Nat):Int)=3:=rfl
theorem anr:((4:Nat):Int)=4:=rfl
theorem ans:((5:Nat):Int)=5:=rfl
theorem ant:((6:Nat):Int)=6:=rfl
theorem arM(p:Prop):(True\/p)=True:=by simp
theorem anY(p:Prop):(p\/True)=True:=by simp
attribute [seval] ano anp anq anr ans ant arM anY Int.le_refl List.length_map
theorem aeQ(H L:List aa):(H++L)[H.length+1+1]?=L[2]?:=vI H L 2
theorem aeR(H L:List aa):(H++L)[H.length+1+1+1]?=L[3]?:=vI H L 3
theorem aeU(H L:List aa)(x:aa):(H++L).set (H.length+1+1) x=H++L.set 2 x:=vJ H L 2 x
theorem aeV(H L:List aa)(x:aa):(H++L).set (H.length+1+1+1) x=H++L.set 3 x:=vJ H L 3 x
attribute [seval] aeQ aeR aeU aeV
attribute [seval] af1 af2 aeZ aeh aei aej an1 aqr Option.getD_none Option.getD_some Int.toNat_zero Nat.sub_zero Option.bind_some Option.map_some Nat.zero_le Option.isSome_none Option.isSome_some Bool.false_eq_true false_implies
attribute [seval] alG af5 af6 aro anT anU alN alO
section
variable {P:SI}{α β:Type}
theorem iH(a:α):cM P (pure a) a:=λw es=>by simp only[pure,VH]
theorem lB{x:Sem α}{f:α->Sem β}{a:α}{b:β}(h:cM P x a)(k:cM P (f a) b):cM P (x>>=f) b:=λw es=>by
 show (x.bind f).runT P w es=_;rw[Sem.runT_bind',h w es];exact k w es
theorem arc{k:SI->Sem α}{a:α}(h:cM P (k P) a):cM P (.program k) a:=λw es=>by simp only[VH];exact h w es
theorem NF{k:SI->Sem α}{a:α}(h:cM P (k P) a):cM P (program>>=k) a:=lB (a:=P) (arc (iH P)) h
theorem yI{t:TypeId}{d:TypeDesc}{k:TypeDesc->Sem α}{a:α}(h:P.underlying t=some d)(hk:cM P (k d) a):cM P (underlying t>>=k) a:=by
 unfold underlying;refine lB (a:=d) (NF ?_) hk;rw[h];exact iH d
def y9:TypeDesc->Bool
 |.struct _|.array _ _=>true
 |_=>false
theorem ac0{t:TypeId}{d:TypeDesc}{k:Bool->Sem α}{a:α}(h:P.underlying t=some d)(hk:cM P (k (y9 d)) a):cM P (isAgg t>>=k) a:=by
 unfold isAgg;refine lB (yI (a:=y9 d) h ?_) hk;cases d<;>exact iH _
theorem NG{t:TypeId}{i:Wj}{k:Nat->Sem α}{a:α}(h:P.info? t=some i)(hk:cM P (k i.size) a):cM P (sizeOf t>>=k) a:=by
 unfold sizeOf typeInfo;refine lB (lB (a:=i) (NF ?_) (iH _)) hk;rw[h];exact iH i
theorem DX{t:TypeId}{d:TypeDesc}{xs:Array SP}{off:Nat}{v:SP}{k:SP->Sem α}{a:α}(h:P.underlying t=some d)(hd:y9 d=false)(hv:xs[off]?=some v)(hk:cM P (k v) a):cM P (part t xs off>>=k) a:=by
 unfold part;refine lB (a:=v) (ac0 h ?_) hk;rw[hd,hv];exact iH v
theorem ac1{t:TypeId}{d:TypeDesc}{i:Wj}{xs:Array SP}{off:Nat}{k:SP->Sem α}{a:α}(h:P.underlying t=some d)(hd:y9 d=true)(hi:P.info? t=some i)(hk:cM P (k (.agg (xs.extract off (off+i.size)))) a):cM P (part t xs off>>=k) a:=by
 unfold part;refine lB (ac0 h ?_) hk;rw[hd];exact NG hi (iH _)
theorem acZ{t:TypeId}{k0 k:TW}{d:Nat}{x y:Int}(h:P.underlying t=some (.int k0)):cM P (VA (d+1) t (.int k x) (.int k y)) (x==y):=by
 rw[VA];refine yI h ?_;dsimp only;rw[if_pos rfl];exact iH _
theorem acT{ι:Type}{body:ι->Option Bool×Unit->Sem (ForInStep (Option Bool×Unit))}{p:ι->Bool}:∀(l:List ι),(∀i∈l,cM P (body i (none,())) (if p i then .yield (none,())else .done (some false,())))->cM P (forIn l (none,()) body) (if l.all p then(none,())else(some false,()))
 |[],_=>by simpa using iH (none,())
 |i::l,h=>by
  rw[WZ];refine lB (h i (TC ..)) ?_;by_cases hp:p i=true
  ·simp only[hp,if_true,ZO,Vu];exact acT l λj hj=>h j (Tb _ hj)
  ·have z_:p i=false:=(by simpa using hp);simp only[z_,TN,if_false,ZO,YD];exact iH _
theorem aeI{α:Type}[BEq α][LawfulBEq α]{xs ys:List α}{n:Nat}(hx:xs.length=n)(hy:ys.length=n):((TS 0 n).all λi=>xs[i]?==ys[i]?)=(xs==ys):=by
 rw[Va,Tv,beq_iff_eq];constructor
 ·intro h;apply Yk;intro i;by_cases hi:i<n
  ·have:=h i (by simp[XU];omega);simpa using this
  ·rw[Uv (by omega),Uv (by omega)]
 ·rintro rfl i _;simp
theorem aq9{t e:TypeId}{k0 k:TW}{n d:Nat}{i:Wj}{xs ys:List Int}(ht:P.underlying t=some (.array n e))(he:P.underlying e=some (.int k0))(hi:P.info? e=some i)(hs:i.size=1)(hx:xs.length=n)(hy:ys.length=n):
  cM P (VA (d+2) t (.agg (xs.map (SF k)).toArray) (.agg (ys.map (SF k)).toArray)) (xs==ys):=by
 rw[VA];refine yI ht ?_;dsimp only;refine NG hi ?_;rw[hs];simp only[Wy,Xr];refine lB (a:=if(xs==ys)then(none,())else(some false,())) ?_ (by cases xs==ys<;>exact iH _);have hn:(n-0+1-1)/1=n:=by simp
 rw[hn,<- aeI hx hy];refine acT _ λj hj=> ?_;have oz:j<n:=by simp[XU]at hj;omega
 have gx:xs[j]?=some (xs[j]'(by omega)):=SY _;have gy:ys[j]?=some (ys[j]'(by omega)):=SY _;rw[X8];refine DX he rfl (v:=.int k (xs[j]'(by omega))) (by simp[gx]) ?_;refine DX he rfl (v:=.int k (ys[j]'(by omega))) (by simp[gy]) ?_;refine lB (acZ he) ?_;rw[gx,gy];by_cases h:xs[j]'(by omega)=ys[j]'(by omega)
 ·rw[h];simp;exact iH _
 ·have h1:(xs[j]'(by omega)==ys[j]'(by omega))=false:=by simpa using h
  have h2:(some (xs[j]'(by omega))==some (ys[j]'(by omega)))=false:=by simpa using h
  rw[h1,h2];exact iH _
theorem cM.uniq{x:Sem α}{a b:α}(h:cM P x a)(k:cM P x b):a=b:=by
 have e:=(h default #[]).symm.trans (k default #[]);have e1:=congrArg Prod.fst e;exact(ao' e1).1
theorem acW{t e:TypeId}{k0:TW}{n:Nat}{i:Wj}{xs ys:List Int}(ht:P.underlying t=some (.array n e))(he:P.underlying e=some (.int k0))(hi:P.info? e=some i)(hs:i.size=1)(hx:xs.length=n)(hy:ys.length=n):
  cM P (Xn t (.agg (xs.map (SF .i64)).toArray) (.agg (ys.map (SF .i64)).toArray)) (xs==ys):=aq9 (d:=9998) ht he hi hs hx hy
theorem yy(xs:List Int):AV.raw (.agg (xs.map iv))=some (.agg (xs.map (SF .i64)).toArray):=by
 have:∀l:List Int,(l.map iv).mapM AV.AJ=some (l.map (SF .i64)):=by
  intro l;induction l with
  |nil=>rfl
  |cons x l ih=>simp only[UW,T_,ih];rfl
 simp only[AV.raw,this];rfl
theorem aoA{xs:List Int}{i:Nat}{y:Int}(h:i<xs.length):iG (xs.map iv) i [iv y]=(xs.set i y).map iv:=by
 unfold iG;rw[List.map_set,XK,if_pos (by simpa using h)];simp
theorem wM{xs:List Int}{i:Nat}{y:Int}(h:i<xs.length):(xs.map iv).take i++[iv y]++(xs.map iv).drop (i+1)=(xs.set i y).map iv:=aoA h
theorem kX{xs:List Int}{i:Nat}{x:Int}(h:xs[i]?=some x):(xs.map iv).drop i=iv x::(xs.drop (i+1)).map iv:=by
 have h1:=eR h;rw[<- af_,TQ h1,UW];rw[SY h1]at h;cases h;rfl
end
theorem aaH(xs:List Int):(∀a∈xs.map iv,a.leaf=true)=True:=by
 simp only[Tl,eq_iff_iff,iff_true]
 rintro a ⟨x,_,rfl⟩;rfl
attribute [seval] List.append_nil aaH
def yQ (lv:Bool)(P:SI)(g:TO)(args:Array SP)(md:U_)(V:View)(R:U_->View->Prop):Prop:=
 ∀(main:Bool)(J:View->SG->Prop),Closed lv P main J->∀(fr:Ua)(cs:List Ua),fr.mode=md->(∀nQ V',R nQ V'->J V' (G {fr with mode:=nQ} cs))->J V (G (Frame.enter P g args .deferred) (fr::cs))
def rc:U_->U_
 |.panicking ({recovered:=true, .. }::MO)=>match MO.dropWhile (!·.goexit)with
  |[]=> .returning
  |rest=> .panicking rest
 |m=>m
theorem aaI{lv:Bool}{P:SI}{main:Bool}{J:View->SG->Prop}(C:Closed lv P main J){fr c:Ua}{cs:List Ua}{f:TO}{v:SP}{V:View}(h:Leaves P fr f .deferred (.ret v) V)(hJ:J V (G {c with mode:=rc c.mode} cs)):J V (G fr (c::cs)):=by
 obtain⟨rfl,hd,hk,fn,hf,hm,hr⟩:=h;refine C.step _ _ rfl λw hw=> ?_;obtain⟨es,w',V',h1,h2,h3⟩:=hr.runs hw;rcases h3 with⟨x,h3,rfl,rfl⟩|⟨_,_,h⟩
 ·refine⟨G {c with mode:=rc c.mode} cs,w',seen P fr.fn es,V',?_,h1.seen P fr.fn,hJ⟩;simp only[G,stepG,unwind,doReturn,hm,hd,hk,hf,TB,h3,h2,T1];cases FT:c.mode with
  |run=>simp[rc,<- FT]
  |returning=>simp[rc,<- FT]
  |panicking ch=>
   cases ch with
   |nil=>simp[rc,<- FT]
   |cons p MO=>
    obtain⟨v,rec,ge⟩:=p;cases rec with
    |false=>simp[rc,<- FT]
    |true=>
     simp only[rc];cases hdw:MO.dropWhile (!·.goexit)with
     |nil=>simp
     |cons x y=>simp
 ·exact h.elim
theorem PV{ρ:Th->SP}{o:Tu}{cl:Xo}(ay:o.op=.call cl)(aY:cl.callee=.builtin .recover)(P:SI)(w:Tp)(es:Array Ur):(execOp ρ o).runT P w es=(.ok .recover w,es):=by
 unfold execOp;rw[ay];dsimp only;unfold resolve;rw[aY];rfl
theorem apS{P:SI}{main:Bool}{b c:Ua}{a:Act}{k:List WT}{cs:List Ua}{w:Tp}{ops:Array Tu}{i:Nat}{rest:List Nat}{o:Tu}{cl:Xo}{v:SP}(ho:ops[i]?=some o)(hg:o.guard=none)(ay:o.op=.call cl)(aY:cl.callee=.builtin .recover)(hb:b.kind=.deferred)(hr:b.roundOf=none)
  (hm:c.mode=.panicking [{v,recovered:=false}]):stepG P main (G (on b a (.inRegion ops (i::rest)::k)) (c::cs)) w=.go (G (on b (a.put o.dst v) (.inRegion ops rest::k)) ({c with mode:=.panicking [{v,recovered:=true}]}::cs)) w #[]:=by
 have dY:(on b a (.inRegion ops (i::rest)::k)).finish v=on b (a.put o.dst v) (.inRegion ops rest::k):=by
  rw[AA,ho];rfl
 rw[s_op ho (by unfold Tg;rw[hg]) (.inl hr),<- dY];have jY:((on b a (.inRegion ops (i::rest)::k)).kind==U6)=false:=by simp[on,hb]
 simp only[stepG.apply,if_true,PV ay aY,jY,T1,TN,if_false];have h1:(on b a (.inRegion ops (i::rest)::k)).roundOf=none:=hr;have h2:(on b a (.inRegion ops (i::rest)::k)).kind=.deferred:=hb;rw[h1];simp only[tryRecover,h2,hm];simp[seen,G]
theorem apU{P:SI}{main:Bool}{b c:Ua}{a:Act}{k:List WT}{cs:List Ua}{w:Tp}{ops:Array Tu}{i:Nat}{rest:List Nat}{o:Tu}{cl:Xo}(ho:ops[i]?=some o)(hg:o.guard=none)(ay:o.op=.call cl)(aY:cl.callee=.builtin .recover)(hb:b.kind=.deferred)(hr:b.roundOf=none)
  (hm:c.mode=.returning):stepG P main (G (on b a (.inRegion ops (i::rest)::k)) (c::cs)) w=.go (G (on b (a.put o.dst .nilIface) (.inRegion ops rest::k)) (c::cs)) w #[]:=by
 have dY:(on b a (.inRegion ops (i::rest)::k)).finish .nilIface=on b (a.put o.dst .nilIface) (.inRegion ops rest::k):=by
  rw[AA,ho];rfl
 rw[s_op ho (by unfold Tg;rw[hg]) (.inl hr),<- dY];have jY:((on b a (.inRegion ops (i::rest)::k)).kind==U6)=false:=by simp[on,hb]
 simp only[stepG.apply,if_true,PV ay aY,jY,T1,TN,if_false];have h1:(on b a (.inRegion ops (i::rest)::k)).roundOf=none:=hr;have h2:(on b a (.inRegion ops (i::rest)::k)).kind=.deferred:=hb;rw[h1];simp only[tryRecover,h2,hm];simp[seen,G]
def Ek (P:SI)(fn:YB)(K:View->Prop):Ex->Act->View->Prop
 |.normal,a,V|.ret,a,V=>a.defers=[]/\∃v,aO P V (results fn a.tmps) (λx V'=>x=v/\V'=V) (λ_ _=>False)/\K V
 |_,_,_=>False
theorem agF{lv:Bool}{P:SI}{g:TO}{fn:YB}{id:Nat}{ops:Array Tu}{c2:T4}{o:Tu}{cl:Xo}{args:Array SP}{md:U_}{v0:SP}{V:View}{R:U_->View->Prop}
  (hf:P.funcs[g]?=some fn) (hb:fn.body=some (.seq (.region id ops false) c2)) (ho:ops[0]?=some o) (hg:o.guard=none) (ay:o.op=.call cl) (aY:cl.callee=.builtin .recover)
  (qt:md=.panicking [{v:=v0,recovered:=false}]\/(md=.returning/\v0=.nilIface))
  (h:dl lv P none ops (Ex.then (WP lv P none c2 (Ek P fn (R .returning))) (Ek P fn (R .returning))) (TS 1 (ops.size-1)) (({tmps:=args++TL (fn.ntmps-args.size) undef,defers:=[]}:Act).put o.dst v0) V):yQ lv P g args md V R:=by
 intro main J C fr cs mf hR;let b:Ua:={(default:Ua)with fn:=g,kind:=.deferred,roundOf:=none};have uF:Frame.enter P g args .deferred=on b {tmps:=args++TL (fn.ntmps-args.size) undef,defers:=[]} [.code (.seq (.region id ops false) c2)]:=by
  simp[Frame.enter,on,hf,hb,b]
 rw[uF];have aV:0<ops.size:=(SS.1 ho).1;have Li:SZ ops.size=0::TS 1 (ops.size-1):=by
  rw[U8];obtain⟨n,hn⟩:∃n,ops.size=n+1:=⟨ops.size-1,by omega⟩;rw[hn,VU];rfl
 refine C.idle rfl (λ_=>ab5) (C.idle rfl (λ_=>ab4) ?_);rw[Li];have fin:∀(c:Ua),rc c.mode=.returning->{c with mode:=rc c.mode}={fr with mode:=.returning}->∀e a' V',Ek P fn (R .returning) e a' V'->vE J b [] (c::cs) e a' V':=by
  intro c hc wb e a' V' q;cases e with
  |normal=>
   obtain⟨hd,v,hs,hr⟩:=q;refine C.idle rfl (λw=>DI rfl) (aaI (f:=g) (v:=v) C ⟨rfl,hd,rfl,fn,hf,rfl,hs⟩ ?_);rw[wb];exact hR _ _ hr
  |ret=>
   obtain⟨hd,v,hs,hr⟩:=q;intro k;refine C.idle rfl (λw=>DJ rfl) (aaI (f:=g) (v:=v) C ⟨rfl,hd,rfl,fn,hf,rfl,hs⟩ ?_);rw[wb];exact hR _ _ hr
  |_=>exact q.elim
 have run:∀(c:Ua),rc c.mode=.returning->{c with mode:=rc c.mode}={fr with mode:=.returning}->J V (G (on b (({tmps:=args++TL (fn.ntmps-args.size) undef,defers:=[]}:Act).put o.dst v0) (.inRegion ops (TS 1 (ops.size-1))::[.code c2])) (c::cs)):=by
  intro c hc wb;refine wp_ops _ _ V h main J C b [.code c2] (c::cs) (by show YL≠U6;decide) rfl λe a' V' q=> ?_;cases e with
  |normal=>exact q main J C b [] (c::cs) (by show YL≠U6;decide) rfl λe cm aR q'=>fin c hc wb e cm aR q'
  |ret=>exact fin c hc wb .ret a' V' q
  |panic ch=>exact q.elim
  |exit i=>exact q.elim
  |goto i=>exact q.elim
 rcases qt with qt|⟨qt,hv⟩
 ·refine C.idle rfl (λw=>apS ho hg ay aY rfl rfl (by rw[mf,qt])) ?_;exact run {fr with mode:=.panicking [{v:=v0,recovered:=true}]} rfl rfl
 ·refine C.idle rfl (λw=>apU ho hg ay aY rfl rfl (by rw[mf,qt])) ?_;subst hv;have jF:fr.mode=.returning:=by rw[mf,qt]
  exact run fr (by rw[jF];rfl) (by rw[jF];rfl)
section
variable {lv:Bool}{P:SI}
theorem Np{g:TO}{args:Array SP}{V:View}{K:Next->View->Prop}{Kp:SP->View->Prop}(hg:qM P g=true)(h:K (.enter g args) V):aO P V (callFunc g args) K Kp:=by
 unfold callFunc;refine az (qG (cI ?_));unfold qM at hg;split at hg
 ·rename_i fn xP;simp only[Ti,TY]at hg;rw[xP];dsimp only;have wa:fn.body.isNone=false:=by
   have h1:=hg.1;cases hb:fn.body with
   |none=>rw[hb]at h1;cases h1
   |some _=>rfl
  rw[if_neg (by rw[hg.2];simp),if_neg (by rw[wa];simp)];exact aq h
 ·cases hg
theorem BJ{E:Env}{V:View}{H:List aa}{args:List AV}{vs:Array SP}{nt:Nat}(hc:Conc E V H)(hd:cJ E args vs)(cN:args.length<=nt):At E V ⟨bk 0 args,H⟩ {tmps:=vs++TL (nt-vs.size) undef,defers:=[]} nt:=by
 have aV:(vs++TL (nt-vs.size) undef).size=nt:=by simp[hd.1];omega
 refine⟨hc,λq a e=> ?_,aV⟩;obtain⟨_,e⟩:=Mu args 0 q a e;simp only[ZW]at e;have hq:q<args.length:=(SL.1 e).1;have tD:q<vs.size:=by rw[hd.1];exact hq
 refine⟨by rw[aV];omega,?_⟩;have:=hd.2 q a e;rw[SH,X7 tD];rwa [SH]at this
def yP (E:Env)(c:AV×List AV)(d:UY):Prop:=∃f first cT fa ca vs,c.1=.fn (.func f) first cT/\d=⟨.fn (.func f) ca,fa++vs⟩/\cJ E first fa/\cJ E cT ca/\cJ E c.2 vs
theorem yP.mono{E E':Env}(h:E.Le E'){c:AV×List AV}{d:UY}(k:yP E c d):yP E' c d:=by
 obtain⟨f,first,cT,fa,ca,vs,h1,h2,h3,h4,h5⟩:=k;exact⟨f,first,cT,fa,ca,vs,h1,h2,h3.mono h,h4.mono h,h5.mono h⟩
def Od (E:Env):Option AV->U_->Prop
 |none,md=>md=.returning
 |some pv,md=>∃v,md=.panicking [{v,recovered:=false}]/\ap E pv v
def qO (lv:Bool)(P:SI)(c:AV×List AV)(H:List aa)(m:Option AV)(kr kp:List aa->Prop):Prop:=
 ∀(E:Env)(V:View)(d:UY)(md:U_),Conc E V H->yP E c d->Od E m md->aO P V (invoke d.target d.args) (λnx V'=>∃g args,nx=.enter g args/\yQ lv P g args md V' λnQ aR=>∃E' H',E.Le E'/\aR.role=V.role/\aR.deaf=V.deaf/\Conc E' aR H'/\((nQ=.returning/\kr H')\/(nQ=md/\m.isSome=true/\kp H'))) (λ_ _=>False)
def Bb (n0:Nat)(kr:List aa->Prop):an->AS->Prop
 |.normal,s|.ret,s=>kr s.H\/∃H' G,s.H=H'++G/\n0<=H'.length/\bI H'/\kr H'
 |_,_=>False
theorem Bb.out{n0:Nat}{E0 E:Env}{V':View}{H:List aa}{kr:List aa->Prop}(h:kr H\/∃H' G,H=H'++G/\n0<=H'.length/\bI H'/\kr H')(hc:Conc E V' H)(hle:E0.Le E)(hn:E0.n=n0):∃E' H',E0.Le E'/\Conc E' V' H'/\kr H':=by
 rcases h with h|⟨H',G,rfl,h1,h2,h3⟩
 ·exact⟨E,H,hle,hc,h⟩
 ·exact⟨{E with n:=H'.length},H',D2 h1 (by rw[hc.n];simp) hle hn,hc.trim h2,h3⟩
theorem results_none{fn:YB}{tmps:Array SP}{V:View}(hr:fn.results=#[]):aO P V (results fn tmps) (λx V'=>x=.tuple #[]/\V'=V) (λ_ _=>False):=by
 unfold results;rw[show fn.results=([]:List UO).toArray from hr,XW];refine az ?_;refine az ?_;rw[UD];refine aq (aq (aq ⟨?_,rfl⟩));simp
theorem agE{g:TO}{fn:YB}{id nt:Nat}{ops:Array Tu}{c2:T4}{o:Tu}{cl:Xo}{first cT aE:List AV}{H:List aa}{m:Option AV}{kr kp:List aa->Prop}
  (hg:qM P g=true) (hf:P.funcs[g]?=some fn) (hb:fn.body=some (.seq (.region id ops false) c2)) (hr:fn.results=#[]) (hn:fn.ntmps=nt) (ho:ops[0]?=some o) (th:o.guard=none) (ay:o.op=.call cl) (aY:cl.callee=.builtin .recover) (dp:jX nt ops=true) (cN:(first++aE++cT).length<=nt)
  (h:iy lv P ops (ops.toList.drop 1) ((⟨bk 0 (first++aE++cT),H⟩:AS).put o.dst (m.getD (.val .nilIface))) (λs'=>aP lv P none nt c2 s' (Bb H.length kr)) (λ_ _=>False)):qO lv P (.fn (.func g) first cT,aE) H m kr kp:=by
 intro E V d md hc hd qt;obtain⟨f,atg,atc,fa,ca,vs,h1,rfl,h3,h4,h5⟩:=hd;cases h1;unfold invoke;dsimp only;refine Np hg ⟨g,_,rfl,?_⟩;obtain⟨v0,hv,akD⟩:∃v0,ap E (m.getD (.val .nilIface)) v0/\(md=.panicking [{v:=v0,recovered:=false}]\/(md=.returning/\v0=.nilIface)):=by
  cases m with
  |none=>exact⟨.nilIface,.val _,.inr ⟨qt,rfl⟩⟩
  |some pv=>obtain⟨v,e,hv⟩:=qt;exact⟨v,hv,.inl e⟩
 refine agF hf hb ho th ay aY akD ?_;have ah:=BJ (nt:=nt) hc (BU (BU h3 h5) h4) cN;rw[hn];have aV:0<ops.size:=(SS.1 ho).1;have fG:o∈ops:=W2 ho;have aS:At E V ((⟨bk 0 (first++aE++cT),H⟩:AS).put o.dst (m.getD (.val .nilIface))) (({tmps:=fa++vs++ca++TL (nt-(fa++vs++ca).size) undef,defers:=[]}:Act).put o.dst v0) nt:=
  ⟨by rw[fi];exact ah.br,ah.tok.gX (λd e=>by rw[ah.size];exact(jX.out dp fG).1 d e) hv,(dX _ _ _).trans ah.size⟩
 refine AC (r:=none) (Φ:=λe s'=>match e with
  |.normal=>aP lv P none nt c2 s' (Bb H.length kr)
  |_=>False) (λo ho d e=>(jX.out dp ho).1 d e) (λ_ _=> .inl rfl) (ops.size-1) 1 _ (by omega) h E V _ _ aS λae e E' V' a' s' hk ajK he hΦ=> ?_
 cases ae<;>cases e<;>first
  |exact he.elim
  |exact hΦ.elim
  |skip
 refine hΦ E' V' a' _ ajK λae e bP aR cm dj aJ dh ko tL=> ?_;have fin:(kr dj.H\/∃H' G,dj.H=H'++G/\H.length<=H'.length/\bI H'/\kr H')->Ek P fn (λaR=>∃E' H',E.Le E'/\aR.role=V.role/\aR.deaf=V.deaf/\Conc E' aR H'/\((Yo=.returning/\kr H')\/(Yo=md/\m.isSome=true/\kp H'))) .ret cm aR:=λtL=>by
  obtain⟨E3,H',q1,q2,q3⟩:=Bb.out (E0:=E) tL dh.br (hk.le.trans aJ.le) hc.n;have bz:cm.defers=[]:=by rw[aJ.defers,hk.defers];exact put_defers _ _ _
  exact⟨bz,_,results_none hr,E3,H',q1,aJ.role.trans hk.role,aJ.deaf.trans hk.deaf,q2,.inl ⟨rfl,q3⟩⟩
 cases ae<;>cases e<;>first
  |exact ko.elim
  |exact tL.elim
  |exact fin tL
theorem Po{g:TO}{fn:YB}{id nt:Nat}{ops:Array Tu}{c2:T4}{o:Tu}{l:List Tu}{d0:Option Nat}{cl:Xo}{first cT aE:List AV}{H:List aa}{m:Option AV}{kr kp:List aa->Prop}
  (hg:qM P g=true) (hf:P.funcs[g]?=some fn) (hb:fn.body=some (.seq (.region id ops false) c2)) (hr:fn.results=#[]) (hn:fn.ntmps=nt) (hl:ops.toList=o::l) (th:o.guard=none) (aT:o.dst=d0) (ay:o.op=.call cl) (aY:cl.callee=.builtin .recover) (dp:jX nt ops=true) (cN:(first++aE++cT).length<=nt)
  (h:iy lv P ops l ((⟨bk 0 (first++aE++cT),H⟩:AS).put d0 (m.getD (.val .nilIface))) (λs'=>aP lv P none nt c2 s' (Bb H.length kr)) (λ_ _=>False)):qO lv P (.fn (.func g) first cT,aE) H m kr kp:=by
 subst aT;refine agE hg hf hb hr hn (o:=o) (cl:=cl) ?_ th ay aY dp cN (by rw[hl];simpa using h);have:ops.toList[0]?=some o:=by rw[hl];rfl
 simpa using this
end
section
variable {lv:Bool}{P:SI}{r:Option Nat}{s:AS}
theorem GU{nt:Nat}{all:Array Tu}{Φ:an->AS->Prop}(dp:∀o∈all,∀d,o.dst=some d->d<nt)(nA:r=none):∀(n k:Nat)(s:AS),k+n<=all.size->iy lv P all ((all.toList.drop k).take n) s (Φ .normal) (λpv s=>Φ (.panic pv) s)->
  ∀(E:Env)(V:View)(a:Act)(Q:Ex->Act->View->Prop),At E V s a nt->(∀ae e E' V' a' s',Kept E E' V V' a a'->At E' V' s' a' nt->pN E' ae e->Φ ae s'->Q e a' V')->dl lv P r all Q (TS k n) a V
 |0,k,s,hk,h,E,V,a,Q,ah,hQ=>by
  rw[aj']at h;exact hQ .normal .normal E V a s (Kept.refl E V a) ah trivial h
 |n+1,k,s,hk,h,E,V,a,Q,ah,hQ=>by
  have hlt:k<all.size:=by omega
  have hd:all.toList.drop k=all[k]::all.toList.drop (k+1):=by
   rw[TQ (by simpa using hlt)];simp
  rw[hd,VR]at h;have fG:all[k]∈all:=XR hlt;have ho:all[k]?=some all[k]:=SJ hlt;simp only[VU,dl,ho];have go:∀s:AS,At E V s a nt->mB lv P s all[k] (λs'=>iy lv P all ((all.toList.drop (k+1)).take n) s' (Φ .normal) (λpv s=>Φ (.panic pv) s)) (λpv s=>Φ (.panic pv) s)->w6 lv P r all[k] a V (dl lv P r all Q (TS (k+1) n)) Q:=λs ah h=>by
   refine h.sound (lv:=lv) (r:=r) E V a _ Q ah.br ah.tok (λd e=>by rw[ah.size];exact dp _ fG d e) (.inl nA) (λE' V' a' s' aJ bm ml hn=> ?_) (λE' V' s' pv v aJ bm ml bp hb=> ?_)
   ·exact GU dp nA n (k+1) s' (by omega) hn E' V' a' Q ⟨bm,ml,aJ.size.trans ah.size⟩ (λae e bP aR cm dj fU dh he hΦ=>hQ ae e bP aR cm dj (aJ.trans fU) dh he hΦ)
   ·exact hQ (.panic pv) (.panic _) E' V' a s' aJ ⟨bm,ml,ah.size⟩ ⟨v,rfl,bp⟩ hb
  simp only[iy]at h;split at h
  ·rename_i hg;have hw:Tg all[k] (yielded all a.tmps)=true:=(by unfold Tg;rw[hg]);rw[if_pos hw];exact .inl (go s ah h)
  ·rename_i j bY hg;obtain⟨d,gn,h⟩:=h.out;obtain⟨av,h1,h⟩:=h.out;obtain⟨b,rfl,h2,h3⟩:=BH h;have hv:=(ah.tok d _ h1).2;have hy:yielded all a.tmps j=some b:=by
    obtain⟨oj,kJ,jg⟩:=Te.1 gn;generalize hx:a.tmps.getD d undef=x at hv;cases hv;have mh:d<a.tmps.size:=(ah.tok d _ h1).1;rw[SH,SJ mh]at hx;simp only[S7]at hx;simp[yielded,kJ,jg,SJ mh,hx]
   have rU:∀b',b=b'->At E V ⟨(d,.val (.bool b'))::s.T,s.H⟩ a nt:=λb' dD=>by
    subst dD;refine⟨ah.br,λt x e=> ?_,ah.size⟩;simp only[look]at e;split at e
    ·rename_i e';subst e';cases e;exact ah.tok d _ h1
    ·exact ah.tok t x e
   by_cases hb:b=bY
   ·have hw:Tg all[k] (yielded all a.tmps)=true:=(by unfold Tg;rw[hg];simp[hy,hb]);rw[if_pos hw];exact .inl (go _ (rU bY hb) (h2 hb))
   ·have hw:¬Tg all[k] (yielded all a.tmps)=true:=(by unfold Tg;rw[hg];simp[hy,hb]);rw[if_neg hw];have dD:b= !bY:=(by cases b<;>cases bY<;>simp_all);have vX:=h3 dD;have ah:=rU _ dD;exact GU dp nA n (k+1) ((⟨(d,.val (.bool !bY))::s.T,s.H⟩:AS).put all[k].dst (.val undef)) (by omega) vX E V (a.put all[k].dst undef) Q
     ⟨by rw[fi];exact ah.br,ah.tok.gX (λd e=>by rw[ah.size];exact dp _ fG d e) (.val undef),by rw[dX];exact ah.size⟩
     (λae e bP aR cm dj fU dh he hΦ=>hQ ae e bP aR cm dj ⟨fU.le,fU.size.trans (dX _ _ _),fU.defers.trans (put_defers _ _ _),fU.role,fU.deaf⟩ dh he hΦ)
theorem mG.mono{o:Tu}{a:Act}{N N':Act->View->Prop}{Q Q':Ex->Act->View->Prop}(hN:∀a V,N a V->N' a V)(hQ:∀ch a V,Q (.panic ch) a V->Q' (.panic ch) a V){nx:Next}{V:View}(h:mG lv P r o a N Q nx V):mG lv P r o a N' Q' nx V:=by
 cases nx with
 |value v=>exact hN _ _ h
 |skip=>exact hN _ _ h
 | «defer» d => exact ⟨h.1, hN _ _ h.2⟩
 |enter f args=>
  refine Body.mono (R:=fun
   |.ret v,V'=>N (a.put o.dst v) V'
   |.panic ch,V'=>Q (.panic ch) a V') (R':=fun
   |.ret v,V'=>N' (a.put o.dst v) V'
   |.panic ch,V'=>Q' (.panic ch) a V') h λot V' h=> ?_
  cases ot
  ·exact hN _ _ h
  ·exact hQ _ _ _ h
 |round l f tmps aE b=>
  refine mZ.mono (R:=fun
   |.ret v,V'=>N (a.put o.dst v) V'
   |.panic ch,V'=>Q (.panic ch) a V') (R':=fun
   |.ret v,V'=>N' (a.put o.dst v) V'
   |.panic ch,V'=>Q' (.panic ch) a V') h λot V' h=> ?_
  cases ot
  ·exact hN _ _ h
  ·exact hQ _ _ _ h
 |_=>exact h.elim
theorem A4{ops:Array Tu}{Q:Ex->Act->View->Prop}{l2:List Nat}:∀(l1:List Nat)(a:Act)(V:View),dl lv P r ops (Ex.then (dl lv P r ops Q l2) Q) l1 a V->dl lv P r ops Q (l1++l2) a V
 |[],a,V,h=>h
 |i::l1,a,V,h=>by
  simp only[Vh,dl]at h⊢;cases ho:ops[i]?with
  |none=>rw[ho]at h;exact A4 l1 a V h
  |some o=>
   rw[ho]at h;dsimp only at h⊢;split at h
   ·rename_i hw;rw[if_pos hw];rcases h with h|h
    rotate_left
    ·exact .inr (h.mono λa V h=>A4 l1 a V h)
    obtain⟨h1,h2⟩:=h;exact .inl ⟨h1,h2.mono (λnx V' h=>mG.mono (λa V h=>A4 l1 a V h) (λ_ _ _ h=>h) h) λ_ _ h=>h⟩
   ·rename_i hw;rw[if_neg hw];exact A4 l1 _ V h
def wW (E:Env):List (AV×List AV)->List UY->Prop
 |[],[]=>True
 |c::ds,d::l=>yP E c d/\wW E ds l
 |_,_=>False
theorem wW.mono{E E':Env}(h:E.Le E'):∀{ds:List (AV×List AV)}{l:List UY},wW E ds l->wW E' ds l
 |[],[],_=>trivial
 |_::_,_::_,k=>⟨k.1.mono h,wW.mono h k.2⟩
 |[],_::_,k=>k.elim
 |_::_,[],k=>k.elim
structure qR (E E':Env)(V V':View)(a a':Act):Prop where
 le:E.Le E'
 size:a'.tmps.size=a.tmps.size
 role:V'.role=V.role
 deaf:V'.deaf=V.deaf
theorem qR.trans{E E' bP:Env}{V V' aR:View}{a a' cm:Act}(h:qR E E' V V' a a')(k:qR E' bP V' aR a' cm):qR E bP V aR a cm:=⟨h.le.trans k.le,k.size.trans h.size,k.role.trans h.role,k.deaf.trans h.deaf⟩
theorem Kept.d{E E':Env}{V V':View}{a a':Act}(h:Kept E E' V V' a a'):qR E E' V V' a a':=⟨h.le,h.size,h.role,h.deaf⟩
def A8 (lv:Bool)(P:SI)(nt:Nat)(c:T4)(s:AS)(ds:List (AV×List AV))(Φ:an->AS->List (AV×List AV)->Prop):Prop:=
 ∀(E:Env)(V:View)(a:Act)(Q:Ex->Act->View->Prop),At E V s a nt->wW E ds a.defers->(∀ae e E' V' a' s' nj,qR E E' V V' a a'->At E' V' s' a' nt->wW E' nj a'.defers->pN E' ae e->Φ ae s' nj->Q e a' V')->WP lv P none c Q a V
def an.wP (next:AS->List (AV×List AV)->Prop)(Φ:an->AS->List (AV×List AV)->Prop):an->AS->List (AV×List AV)->Prop
 |.normal,s,ds=>next s ds
 |e,s,ds=>Φ e s ds
theorem afu{nt id n:Nat}{ops:Array Tu}{o:Tu}{c:Xo}{x:Th}{ds:List (AV×List AV)}{Φ:an->AS->List (AV×List AV)->Prop}(hn:ops.size=n+1)(ho:ops[n]?=some o)(hg:o.guard=none)(ay:o.op=.defer c)(aY:c.callee=.value x)
  (dp:(ops.all λo=>o.dst.all (·<nt))=true)
  (h:iy lv P ops (ops.toList.take n) s (λs'=>ao (s'.ev x) λf=>ao (ff s' c.args.toList) λaE=>(∃g first cT,f=.fn (.func g) first cT)/\Φ .normal (s'.put o.dst (.val undef)) ((f,aE)::ds)) (λpv s'=>Φ (.panic pv) s' ds)):A8 lv P nt (.region id ops false) s ds Φ:=by
 intro E V a Q ah hd hQ;refine wp_region ?_;have hr:SZ ops.size=TS 0 n++[n]:=by
  have:=Y6 (s:=0) (m:=n) (n:=1);rw[U8,hn,<- this];simp
 rw[hr];have Rt:∀o∈ops,∀d,o.dst=some d->d<nt:=λo ho d e=>by
  have:=(UK.1 dp) o ho;rw[e]at this;simpa using this
 refine A4 _ _ _ (GU (r:=none) (Φ:=λe s'=>match e with
  |.normal=>ao (s'.ev x) λf=>ao (ff s' c.args.toList) λaE=>(∃g first cT,f=.fn (.func g) first cT)/\Φ .normal (s'.put o.dst (.val undef)) ((f,aE)::ds)
  |e=>Φ e s' ds) Rt rfl n 0 s (by omega) (by simpa using h) E V a _ ah λae e E' V' a' s' hk aS he hΦ=> ?_)
 cases ae<;>cases e<;>first
  |exact he.elim
  |exact hQ _ _ E' V' a' s' ds hk.d aS (by rw[hk.defers];exact hd.mono hk.le) he hΦ
  |skip
 obtain⟨f,h1,hA⟩:=ao.out hΦ;obtain⟨aE,h2,⟨g,first,cT,rfl⟩,hB⟩:=hA.out;simp only[Ex.then,dl,ho];rw[if_pos (by unfold Tg;rw[hg])];refine .inl ⟨.inl rfl,?_⟩;unfold execOp;rw[ay];dsimp only;unfold resolve;rw[aY];dsimp only;have bz:=ap.ev aS.tok h1;generalize cu:a'.eval x=cv at bz;cases bz with
 |fn dP fW q1 q2=>
  rename_i fa ca;unfold U4;refine az (aq (aq ?_));refine⟨rfl,?_⟩;have fG:o∈ops:=W2 ho;have e:c.args.map a'.eval=(c.args.toList.map a'.eval).toArray:=by apply VF;simp
  refine hQ .normal .normal E' V' _ (s'.put o.dst (.val undef)) ((.fn (.func g) first cT,aE)::ds) ⟨hk.le,(dX _ _ _).trans hk.size,hk.role,hk.deaf⟩ ⟨by rw[fi];exact aS.br,aS.tok.gX (a:={a' with defers:=⟨.fn (.func g) ca,fa++c.args.map a'.eval⟩::a'.defers}) (λd e=>by rw[aS.size];exact Rt o fG d e) (.val _),(dX _ _ _).trans aS.size⟩ ?_ trivial hB;rw[put_defers];refine⟨⟨g,first,cT,fa,ca,_,rfl,rfl,⟨dP,q1⟩,⟨fW,q2⟩,?_⟩,by rw[hk.defers];exact hd.mono hk.le⟩;rw[e];exact zr aS.tok h2
theorem OU{nt id n:Nat}{ops:Array Tu}{o:Tu}{c:Xo}{x:Th}{ds:List (AV×List AV)}{Φ:an->AS->List (AV×List AV)->Prop}(hn:ops.size=n+1)(ho:ops[n]?=some o)(hg:o.guard=none)(aT:o.dst=none)(ay:o.op=.defer c)(aY:c.callee=.value x)
  (dp:(ops.all λo=>o.dst.all (·<nt))=true)
  (h:iy lv P ops (ops.toList.take n) s (λs'=>ao (s'.ev x) λf=>ao (ff s' c.args.toList) λaE=>(∃g first cT,f=.fn (.func g) first cT)/\Φ .normal s' ((f,aE)::ds)) (λpv s'=>Φ (.panic pv) s' ds)):A8 lv P nt (.region id ops false) s ds Φ:=by
 refine afu hn ho hg ay aY dp ?_;rw[aT];exact h
end
section
variable {lv:Bool}{P:SI}
theorem abX{rs:List UO}{fn:YB}{n nt:Nat}{k kp:AV->List aa->Prop}{E E':Env}{V V':View}{s':AS}{a':Act}(hr:fn.results=rs.toArray)(ah:At E' V' s' a' nt)(hle:E.Le E')(hn:E.n=n)(b8:V'.role=V.role)(eW:V'.deaf=V.deaf)(hΦ:ao (gY P s' rs) λl=>cF n s'.H (iY l) k):
  ∃v,aO P V' (results fn a'.tmps) (λx aR=>x=v/\aR=V') (λ_ _=>False)/\gQ E V k kp (.ret v) V':=by
 obtain⟨l,h1,h2⟩:=hΦ.out;have gr:∃v,ap E' (iY l) v/\aO P V' (results fn a'.tmps) (λx aR=>x=v/\aR=V') (λ_ _=>False):=by
  obtain⟨vs,hl,lV,xZ⟩:=Hb ah rs l h1;refine⟨if h:vs.length=1 then vs[0]else .tuple vs.toArray,?_,?_⟩
  ·match l,vs,hl,lV with
   |[x],[v],_,lV=>exact lV 0 x rfl
   |[],[],_,lV=>exact .aL rfl (by simp)
   |x::y::l,v::w::vs,hl,lV=>exact .aL (by simpa using hl) (λi z hz=>by simpa[SH,SE]using lV i z hz)
  ·unfold results;rw[hr,XW];refine az ?_;refine az (xZ ?_);refine aq (aq ⟨?_,rfl⟩);simp
 obtain⟨v,bp,qx⟩:=gr;obtain⟨b,bP,H',q1,q2,q3,q4⟩:=xo h2 ah.br bp hle hn;exact⟨v,qx,b,bP,H',q1,b8,eW,q2,q3,q4⟩
def yU (lv:Bool)(P:SI)(rs:List UO)(n:Nat)(k kp:AV->List aa->Prop):an->AS->List (AV×List AV)->Prop
 |.normal,s,[]|.ret,s,[]=>ao (gY P s rs) λl=>cF n s.H (iY l) k
 |.panic pv,s,[]=>cF n s.H pv kp
 |.normal,s,[c]|.ret,s,[c]=>qO lv P c s.H none (λH'=>ao (gY P ⟨s.T,H'⟩ rs) λl=>cF n H' (iY l) k) (λ_=>False)
 |.panic pv,s,[c]=>qO lv P c s.H (some pv) (λH'=>ao (gY P ⟨s.T,H'⟩ rs) λl=>cF n H' (iY l) k) (λH'=>cF n H' pv kp)
 |_,_,_=>False
theorem yQ.mono{g:TO}{args:Array SP}{md:U_}{V:View}{R R':U_->View->Prop}(h:yQ lv P g args md V R)(hr:∀m V,R m V->R' m V):yQ lv P g args md V R':=λmain J C fr cs hm hR=>h main J C fr cs hm λnQ V' r=>hR nQ V' (hr _ _ r)
@[congr] theorem as3 {nt : Nat} {c : T4} {s s' : AS} {ds nj : List (AV × List AV)} {Φ : an -> AS -> List (AV × List AV) -> Prop} (h : s = s') (hd : ds = nj) : A8 lv P nt c s ds Φ = A8 lv P nt c s' nj Φ := by rw [h, hd]
theorem arp(K:AS->List (AV×List AV)->Prop)(Φ:an->AS->List (AV×List AV)->Prop)(s:AS)(ds:List (AV×List AV)):an.wP K Φ .normal s ds=K s ds:=by rw[an.wP]
theorem ars(K:AS->List (AV×List AV)->Prop)(Φ:an->AS->List (AV×List AV)->Prop)(s:AS)(ds:List (AV×List AV)):an.wP K Φ .ret s ds=Φ .ret s ds:=by rw[an.wP];simp
theorem arq(K:AS->List (AV×List AV)->Prop)(Φ:an->AS->List (AV×List AV)->Prop)(a:AV)(s:AS)(ds:List (AV×List AV)):an.wP K Φ (.panic a) s ds=Φ (.panic a) s ds:=by rw[an.wP];simp
@[congr] theorem atT {K : AS -> List (AV × List AV) -> Prop} {Φ : an -> AS -> List (AV × List AV) -> Prop} {e e' : an} {s s' : AS} {ds nj : List (AV × List AV)} (he : e = e') (h : s = s') (hd : ds = nj) : an.wP K Φ e s ds = an.wP K Φ e' s' nj := by rw [he, h, hd]
@[congr] theorem ath {rs : List UO} {n : Nat} {k kp : AV -> List aa -> Prop} {e e' : an} {s s' : AS} {ds nj : List (AV × List AV)} (he : e = e') (h : s = s') (hd : ds = nj) : yU lv P rs n k kp e s ds = yU lv P rs n k kp e' s' nj := by rw [he, h, hd]
theorem aiZ(rs:List UO)(n:Nat)(k kp:AV->List aa->Prop)(s:AS):yU lv P rs n k kp .ret s []=ao (gY P s rs) λl=>cF n s.H (iY l) k:=by rw[yU]
theorem aiY(rs:List UO)(n:Nat)(k kp:AV->List aa->Prop)(s:AS)(pv:AV):yU lv P rs n k kp (.panic pv) s []=cF n s.H pv kp:=by rw[yU]
attribute [seval] arp ars arq aiZ aiY
end
section
variable {P:SI}
theorem acV{ι:Type}{body:ι->PUnit->Sem (ForInStep PUnit)}:∀(l:List ι),(∀i∈l,cM P (body i ⟨⟩) (.yield ⟨⟩))->cM P (forIn l ⟨⟩ body) ⟨⟩
 |[],_=>by simpa using iH PUnit.unit
 |i::l,h=>by
  rw[WZ];exact lB (h i (TC ..)) (acV l λj hj=>h j (Tb _ hj))
theorem ara{t:TypeId}{k0 k:TW}{d:Nat}{b:Bool}{x:Int}(h:P.underlying t=some (.int k0)):cM P (Vd b (d+1) t (.int k x)) ():=by
 rw[Vd];exact yI h (iH _)
theorem acU{t e:TypeId}{k0 k:TW}{n d:Nat}{i:Wj}{b:Bool}{xs:List Int}(ht:P.underlying t=some (.array n e))(he:P.underlying e=some (.int k0))(hi:P.info? e=some i)(hs:i.size=1)(hx:xs.length=n):
  cM P (Vd b (d+2) t (.agg (xs.map (SF k)).toArray)) ():=by
 rw[Vd];refine yI ht ?_;dsimp only;simp only[Wy,Xr];refine lB (a:=⟨⟩) ?_ (iH _);refine acV _ λj hj=> ?_;have hn:(n-0+1-1)/1=n:=by simp
 have oz:j<n:=by rw[hn]at hj;simp[XU]at hj;omega
 have gx:xs[j]?=some (xs[j]'(by omega)):=SY _;refine NG hi ?_;rw[hs,X8];refine DX he rfl (v:=.int k (xs[j]'(by omega))) (by simp[gx]) ?_;exact lB (ara he) (iH _)
def ew (x:List Int×Nat):Wl:={key:=.agg (x.1.map (SF .i64)).toArray,val:=.bool true,born:=x.2}
def p8 (x:List Int):List (List Int×Nat)->Nat->Option (Nat×SP)
 |[],_=>none
 |y::ts,i=>if x==y.1 then some (i,.bool true)else p8 x ts (i+1)
theorem acX{t e:TypeId}{k0:TW}{n:Nat}{i:Wj}{x:List Int}(ht:P.underlying t=some (.array n e))(he:P.underlying e=some (.int k0))(hi:P.info? e=some i)(hs:i.size=1)(hx:x.length=n):∀(ts:List (List Int×Nat))(j:Nat),(∀y∈ts,y.1.length=n)->
  cM P (XE t (.agg (x.map (SF .i64)).toArray) (ts.map ew) j) (p8 x ts j)
 |[],j,_=>by rw[List.map_nil,XE,p8];exact iH _
 |y::ts,j,h=>by
  rw[UW,XE,p8];refine lB (acW ht he hi hs hx (h y (TC ..))) ?_;by_cases wA:(x==y.1)=true
  ·rw[if_pos wA,if_pos wA];exact iH _
  ·rw[if_neg wA,if_neg wA];exact acX ht he hi hs hx ts (j+1) λz hz=>h z (Tb _ hz)
theorem acY{t e:TypeId}{k0:TW}{n:Nat}{i:Wj}{x:List Int}(ht:P.underlying t=some (.array n e))(he:P.underlying e=some (.int k0))(hi:P.info? e=some i)(hs:i.size=1)(hx:x.length=n){ts:List (List Int×Nat)}(h:∀y∈ts,y.1.length=n):
  cM P (VN t (.agg (x.map (SF .i64)).toArray) (ts.map ew)) (p8 x ts 0):=by
 unfold VN;refine yI ht ?_;cases ts with
 |nil=>exact iH _
 |cons y ts=>
  have e1:Instr.findNow (.array n e) (.agg (x.map (SF .i64)).toArray) ((y::ts).map ew) 0=none:=rfl;rw[e1];exact acX ht he hi hs hx (y::ts) 0 h
theorem Qd{x:List Int}:∀{ts:List (List Int×Nat)}{j i:Nat}{v:SP},p8 x ts j=some (i,v)->∃b,j<=i/\ts[i-j]?=some (x,b)/\v=.bool true
 |y::ts,j,i,v,h=>by
  rw[p8]at h;split at h
  ·rename_i wA;cases h;obtain⟨y1,b⟩:=y;have:x=y1:=(by simpa using wA);subst this;exact⟨b,SQ _,by simp,rfl⟩
  ·obtain⟨b,h1,h2,h3⟩:=Qd h;refine⟨b,by omega,?_,h3⟩;have:i-j=(i-(j+1))+1:=(by omega);rw[this,UL];exact h2
theorem Qc{x:List Int}:∀{ts:List (List Int×Nat)}{j:Nat},p8 x ts j=none->∀y∈ts,y.1≠x
 |y::ts,j,h,z,hz=>by
  rw[p8]at h;split at h
  ·cases h
  ·rename_i wA;rcases SK.1 hz with rfl|hz
   ·intro e;exact wA (by simp[e])
   ·exact Qc h z hz
end
theorem apZ(xs:List Int):WC 10000 (.agg (xs.map (SF .i64)).toArray) (.agg (xs.map (SF .i64)).toArray)=true:=by
 show WC (9999+1) _ _=true;rw[WC];simp only[beq_self_eq_true,Vu,Tv]
 rintro⟨a,b⟩ h
 have:a=b/\a∈xs.map (SF .i64):=by
  have key:∀l:List SP,(a,b)∈l.zip l->a=b/\a∈l:=by
   intro l;induction l with
   |nil=>intro h;cases h
   |cons x l ih=>
    intro h;rw[List.zip_cons_cons]at h;rcases SK.1 h with h|h
    ·cases h;exact⟨rfl,TC ..⟩
    ·exact⟨(ih h).1,Tb _ (ih h).2⟩
  exact key _ h
 obtain⟨rfl,hm⟩:=this;obtain⟨x,_,rfl⟩:=Tl.1 hm;simp[WC]
theorem abO(ts:List (List Int×Nat))(ck:Nat)(x:List Int):wL (ts.map ew).toArray ck (.agg (x.map (SF .i64)).toArray) (.bool true) none=.map ((ts++[(x,ck)]).map ew).toArray (ck+1):=by
 simp[wL,ew]
theorem aoE{ts:List (List Int×Nat)}{ck i b:Nat}{x:List Int}{v:SP}(h:ts[i]?=some (x,b)):wL (ts.map ew).toArray ck (.agg (x.map (SF .i64)).toArray) (.bool true) (some (i,v))=.map (ts.map ew).toArray ck:=by
 simp only[wL];congr 1;apply Array.ext_getElem?;intro j;rw[Wi];by_cases hj:i=j
 ·subst hj;rw[if_pos rfl];simp[h,ew]
 ·rw[if_neg hj]
theorem anN(xs:List Int):AV.of (.agg (xs.map (SF .i64)).toArray)=.agg (xs.map iv):=by
 simp only[AV.of,XV];congr 1
theorem O5(ts:List (List Int×Nat))(ck:Nat)(h:∀y∈ts,y.2<ck):((ts.map ew).toArray.all (λe=>decide (e.born>=ck))=false\/(ts.map ew).toArray.isEmpty=true):=by
 cases ts with
 |nil=>right;rfl
 |cons y ts=>
  left;have:=h y (TC ..);simp[ew];omega
theorem Dp{α β:Type}(f:α->β):∀{l:List α},(l.map f).Nodup->l.Nodup
 |[],_=>WM
 |x::l,h=>by
  rw[UW,VS]at h;exact VS.2 ⟨λhm=>h.1 (Tl.2 ⟨x,hm,rfl⟩),Dp f h.2⟩
theorem ab8{ts vs:List (List Int×Nat)}(hv:(vs.map (·.2)).Nodup)(ht:(ts.map (·.2)).Nodup)(lS:∀y∈vs,y∈ts)(fD:∀y∈ts,y.2∈vs.map (·.2)):vs.Perm ts:=by
 have yb:vs.Nodup:=Dp _ hv;have ml:ts.Nodup:=Dp _ ht;refine(List.perm_ext_iff_of_nodup yb ml).2 λy=>⟨lS y,λhy=> ?_⟩;obtain⟨z,hz,e⟩:=Tl.1 (fD y hy);have LQ:=lS z hz;have:∀(l:List (List Int×Nat)),(l.map (·.2)).Nodup->z∈l->y∈l->z=y:=by
  intro l;induction l with
  |nil=>intro _ h;cases h
  |cons x l ih=>
   intro hn h1 h2;rw[UW,VS]at hn;rcases SK.1 h1 with e1|JE
   ·rcases SK.1 h2 with e2|zB
    ·rw[e1,e2]
    ·exact absurd (show x.2∈l.map (·.2)from Tl.2 ⟨y,zB,by rw[<- e1];exact e.symm⟩) hn.1
   ·rcases SK.1 h2 with e2|zB
    ·exact absurd (show x.2∈l.map (·.2)from Tl.2 ⟨z,JE,by rw[<- e2];exact e⟩) hn.1
    ·exact ih hn.2 JE zB
 rw[<- this ts ht LQ hy];exact hz
theorem Qf{y:List Int×Nat}:∀{ts:List (List Int×Nat)},(ts.map (·.2)).Nodup->y∈ts->(ts.map ew).toArray.find? (λe=>e.born==y.2)=some (ew y):=by
 intro ts hn hy;rw[List.find?_toArray];induction ts with
 |nil=>cases hy
 |cons z ts ih=>
  rw[UW,VS]at hn;rw[UW];by_cases h:z.2=y.2
  ·rw[List.find?_cons_of_pos (by simp[ew,h])];rcases SK.1 hy with e|pC
   ·rw[e]
   ·exact absurd (show z.2∈ts.map (·.2)from Tl.2 ⟨y,pC,h.symm⟩) hn.1
  ·rw[List.find?_cons_of_neg (by simp[ew,h])];rcases SK.1 hy with e|pC
   ·exact absurd (by rw[e]) h
   ·exact ih hn.2 pC
theorem abo(y:List Int×Nat):AV.of (ew y).key=.agg (y.1.map iv):=anN y.1
section
variable {lv:Bool}{P:SI}
theorem ap4{l:Nat}{r:aq_}{V:View}(ho:V.own l=some (.loop r))(hs:r.state=.ready)(hc:V.role.chan≠some l):aO P V (do XF l;pure Next.skip) (λnx V'=>nx=.skip/\V'=V.upd l (.loop {r with state:=.busy})) (λ_ _=>False):=by
 unfold XF WJ;refine az (az (az ?_));unfold getObj;refine nU ho rfl rfl hc (cI ?_);dsimp only;refine aq ?_;refine az ?_;unfold setObj;refine yD ho rfl rfl hc (cI ?_);rw[hs];exact aq (aq ⟨rfl,rfl⟩)
theorem ap8{l:Nat}{r:aq_}{V:View}(pD:Option T4)(ho:V.own l=some (.loop r))(hc:V.role.chan≠some l):aO P V (W4 l pD) (λv V'=>v=.bool pD.isNone/\V'=V.upd l (.loop {r with state:=if pD.isNone then .ready else .done,pending:=pD})) (λ_ _=>False):=by
 unfold W4 WJ;refine az (az ?_);unfold getObj;refine nU ho rfl rfl hc (cI ?_);dsimp only;refine aq ?_;refine az ?_;unfold setObj;refine yD ho rfl rfl hc (cI ?_);exact aq ⟨rfl,rfl⟩
theorem ap7{l:Nat}{r:aq_}{V:View}(ho:V.own l=some (.loop r))(hs:r.state≠ .busy)(hc:V.role.chan≠some l):aO P V (ZJ l) (λv V'=>v=r.pending/\V'=V.upd l (.loop {r with state:=.exhausted})) (λ_ _=>False):=by
 unfold ZJ WJ;refine az (az ?_);unfold getObj;refine nU ho rfl rfl hc (cI ?_);dsimp only;refine aq ?_;have:(r.state==ap')=false:=by simpa using hs
 rw[if_neg (by rw[this];simp)];refine az ?_;unfold setObj;refine yD ho rfl rfl hc (cI ?_);exact aq ⟨rfl,rfl⟩
theorem ap9{fn:TO}{tmps:Array SP}{ps:Array Tmp}{bK body:T4}{V:View}:aO P V (WW fn tmps ps bK body none) (λx V1=>∃d l,V.fresh d/\(V.upd d (.deferred (some []))).fresh l/\x=(l,[{target:=.collected d,args:=#[]}])/\
  V1=(V.upd d (.deferred (some []))).upd l (.loop {state:=.ready,pending:=none,fn,tmps,params:=ps,assign:=bK,body,defers:=d})) (λ_ _=>False):=by
 unfold WW;dsimp only;refine az ?_;unfold newObj;refine oJ λd hd=>cI ?_;refine az (aq ?_);dsimp only;refine az (oJ λl hl=>cI (aq ?_));exact⟨d,l,hd,hl,rfl,rfl⟩
theorem Nt{d:Nat}{V:View}(ho:V.own d=some (.deferred (some [])))(hc:V.role.chan≠some d):aO P V (Y3 d) (λv V'=>v=[]/\V'=V.upd d (.deferred none)) (λ_ _=>False):=by
 unfold Y3;refine az ?_;unfold getObj;refine nU ho rfl rfl hc (cI ?_);dsimp only;refine az ?_;unfold setObj;refine yD ho rfl rfl hc (cI ?_);exact aq ⟨rfl,rfl⟩
def adO (l:Nat)(R:Out->View->Prop):Ex->Act->View->Prop
 |.normal,_,V=>∃r,V.own l=some (.loop r)/\V.role.chan≠some l/\R (.ret (.bool true)) (V.upd l (.loop {r with state:=.ready,pending:=none}))
 |.ret,_,V=>∃r,V.own l=some (.loop r)/\V.role.chan≠some l/\R (.ret (.bool false)) (V.upd l (.loop {r with state:=.done,pending:=some .ret}))
 |.exit i,_,V=>∃r,V.own l=some (.loop r)/\V.role.chan≠some l/\R (.ret (.bool false)) (V.upd l (.loop {r with state:=.done,pending:=some (.exit i)}))
 |.goto i,_,V=>∃r,V.own l=some (.loop r)/\V.role.chan≠some l/\R (.ret (.bool false)) (V.upd l (.loop {r with state:=.done,pending:=some (.goto i)}))
 |.panic ch,a,V=>a.defers=[]/\R (.panic ch) V
def adM (lv:Bool)(P:SI)(l:Nat)(body:T4)(R:Out->View->Prop):Ex->Act->View->Prop
 |.normal,a,V=>∃r,V.own l=some (.loop r)/\V.role.chan≠some l/\r.state=.ready/\WP lv P (some l) body (adO l R) a (V.upd l (.loop {r with state:=.busy}))
 |_,_,_=>False
theorem apJ{l f:Nat}{tmps:Array SP}{bK body:T4}{V:View}{R:Out->View->Prop}(h:WP lv P (some l) bK (adM lv P l body R) {tmps,defers:=[]} V):mZ lv P (W8 l f tmps bK body .normal) V R:=by
 intro main J C c cs h1 h2;let b:Ua:={(default:Ua)with fn:=f,kind:=.normal,roundOf:=some l};have alm:W8 l f tmps bK body .normal=on b {tmps,defers:=[]} [.code bK,.beginRound,.code body]:=rfl;rw[alm];have leave:∀(a:Act)(V':View)(r:aq_)(pD:Option T4)(todo:List WT),V'.own l=some (.loop r)->V'.role.chan≠some l->R (.ret (.bool pD.isNone)) (V'.upd l (.loop {r with state:=if pD.isNone then .ready else .done,pending:=pD}))->
   (∀w,stepG P main (G (on b a todo) (c::cs)) w=T1 (seen P b.fn ((W4 l pD).runT P w #[]).2) (match((W4 l pD).runT P w #[]).1 with
    |.ok v w=>doReturn P main (on b a todo) (c::cs) none v w
    | .halt _ w => .ended (.stuck "range over a function: no such loop" ((on b a todo).pos P)) w)) -> J V' (G (on b a todo) (c :: cs)) := by
  intro a V' r pD todo ho eI hR aQ;refine C.step _ _ rfl λw fx=> ?_;obtain⟨es,w',aR,k1,k2,k3⟩:=(ap8 (P:=P) pD ho eI).runs fx;rcases k3 with⟨v,k3,rfl,rfl⟩|⟨_,_,hx⟩
  ·refine⟨G (c.finish (.bool pD.isNone)) cs,w',seen P b.fn es,_,?_,k1.seen P b.fn,h1 _ _ hR⟩;rw[aQ w];simp[TB,k3,k2,doReturn,T1,on,b,G]
  ·exact hx.elim
 refine h main J C b [.beginRound,.code body] (c::cs) (by show Y5≠U6;decide) rfl λe a' V' q=> ?_;cases e with
 |normal=>
  obtain⟨r,ho,eI,hs,hw⟩:=q;refine C.step _ _ rfl λw fx=> ?_;obtain⟨es,w',aR,k1,k2,k3⟩:=(ap4 (P:=P) ho hs eI).runs fx;rcases k3 with⟨nx,k3,rfl,rfl⟩|⟨_,_,hx⟩
  ·refine⟨G (on b a' [.code body]) (c::cs),w',seen P b.fn es,_,?_,k1.seen P b.fn,?_⟩
   ·have:stepG P main (G (on b a' [.beginRound,.code body]) (c::cs)) w=stepG.apply P true (on b a' [.beginRound,.code body]) (c::cs) none (do XF l;pure Next.skip) w:=by
     simp[G,stepG,Uf,on,b]
    rw[this];have jY:((on b a' [.beginRound,.code body]).kind==U6)=false:=(by simp[on,b]);simp only[stepG.apply,TB,if_true,k3,k2,jY,T1];rfl
   ·refine hw main J C b [] (c::cs) (by show Y5≠U6;decide) rfl λe cm aR q=> ?_;cases e with
    |normal=>
     obtain⟨r',bf,ny,hR⟩:=q;refine leave cm aR r' none [] bf ny hR λw=> ?_;simp[G,stepG,Uf,on,b];rfl
    |ret=>
     obtain⟨r',bf,ny,hR⟩:=q;intro k;refine leave cm aR r' (some .ret) _ bf ny hR λw=> ?_;simp[G,stepG,Uf,on,b];rfl
    |exit i=>
     obtain⟨r',bf,ny,hR⟩:=q;refine .inr ⟨rfl,λk2 cG=> ?_⟩;refine leave cm aR r' (some (.exit i)) _ bf ny hR λw=> ?_;simp[G,stepG,Uf,on,b,cG];rfl
    |goto i=>
     obtain⟨r',bf,ny,hR⟩:=q;refine .inr ⟨rfl,λk2 cG=> ?_⟩;refine leave cm aR r' (some (.goto i)) _ bf ny hR λw=> ?_;simp[G,stepG,Uf,on,b,cG];rfl
    |panic ch=>
     obtain⟨hd,hR⟩:=q;intro todo alz;refine C.idle rfl (λw=> ?_) (h2 _ _ hR);have ajS:ZS P {on b cm todo with mode:=.panicking ch}=false:=by
      unfold ZS
      match todo,alz with
      |.call .. ::_,h=>cases h
      |[],_=>split<;>simp_all[on]
      |x::k,_=>cases x<;>(split<;>simp_all[on,aa6])
     have bz:({on b cm todo with mode:=.panicking ch}:Ua).defers=[]:=hd;simp only[G,stepG,unwind,bz,ajS];simp
  ·exact hx.elim
 |_=>exact q.elim
def mark (a:Act)(d:Nat):Act:={a with defers:={target:=.collected d,args:=#[]}::a.defers}
def w7 (l:Nat)(Q:Ex->Act->View->Prop)(a:Act):Out->View->Prop
 |.ret _,V=>∃r,V.own l=some (.loop r)/\V.role.chan≠some l/\r.state≠ .busy/\(match r.pending with
  |none=>Q .normal a (V.upd l (.loop {r with state:=.exhausted}))
  |some .ret=>Q .ret a (V.upd l (.loop {r with state:=.exhausted}))
  |some (.exit i)=>Q (.exit i) a (V.upd l (.loop {r with state:=.exhausted}))
  |some (.goto i)=>Q (.goto i) a (V.upd l (.loop {r with state:=.exhausted}))
  |_=>False)
 |.panic ch,V=>Q (.panic ch) a V
abbrev Eu (l d:Nat)(Q:Ex->Act->View->Prop)(a:Act):Out->View->Prop:=w7 l Q (mark a d)
theorem abU{rr:Option Nat}{f:Th}{ps:Array Tmp}{bK body:T4}{Q:Ex->Act->View->Prop}{a a1:Act}{V1:View}{l:Nat}{main:Bool}{J:View->SG->Prop}(C:Closed lv P main J){b:Ua}{k:List WT}{cs:List Ua}(hb:b.kind≠ .early)(hr:b.roundOf=rr)(hL:∀e a' V',Q e a' V'->vE J b k cs e a' V'){w w1:Tp}{es:Array Ur}{V:View}
  (h:aO P V1 (do let dd<- U4 (a.eval f) #[.func (.yield l) #[] #[]];invoke dd.target dd.args) (λnx V'=>Nx lv P (w7 l Q a1) nx V') (λv V'=>w7 l Q a1 (.panic [{v,recovered:=false}]) V'))
  (s1:dg V w V1 w1 (fI es)) (aQ:stepG P main (G (on b a (.code (.rangeFunc f ps bK body)::k)) cs) w=T1 (seen P b.fn es) (stepG.apply P true (on b a1 (.inRangeFunc l::k)) cs none (do let dd<- U4 (a.eval f) #[.func (.yield l) #[] #[]];invoke dd.target dd.args) w1)):
  ∃g' w' es V',stepG P main (G (on b a (.code (.rangeFunc f ps bK body)::k)) cs) w=.go g' w' es/\dg V w V' w' es/\J V' g':=by
 have fin:∀(v:SP)(V':View),w7 l Q a1 (.ret v) V'->J V' (G (on b a1 (.endRangeFunc l::k)) cs):=by
  intro v V' ⟨r,ho,eI,hs,hq⟩;refine C.step _ _ rfl λw fx=> ?_;obtain⟨es,w',aR,k1,k2,k3⟩:=(ap7 (P:=P) ho hs eI).runs fx;rcases k3 with⟨x,k3,rfl,rfl⟩|⟨_,_,hx⟩
  ·refine⟨G (on b a1 ((r.pending.map Item.code).toList++k)) cs,w',seen P b.fn es,_,?_,k1.seen P b.fn,?_⟩
   ·simp[G,stepG,Uf,on,TB,k3,k2,T1]
   ·generalize r.pending=pe at hq⊢
    match pe,hq with
    |none,hq=>exact hL _ _ _ hq
    |some .ret,hq=>exact hL _ _ _ hq _
    |some (.exit i),hq=>exact aax C (hL _ _ _ hq)
    |some (.goto i),hq=>exact alV C (hL _ _ _ hq)
  ·exact hx.elim
 obtain⟨nk,w2,V2,t1,t2,t3⟩:=h.runs s1.sat;have jY:((on b a1 (.inRangeFunc l::k)).kind==U6)=false:=by simpa[on]using hb
 rw[aQ];rcases t3 with⟨nx,t3,hU⟩|⟨v,t3,hU⟩
 ·cases nx with
  |value v=>exact⟨_,w2,seen P b.fn es++seen P b.fn nk,V2,by simp only[stepG.apply,TB,if_true,t3,t2,jY,T1];rfl,(s1.seen P _).trans (t1.seen P _),fin v _ hU⟩
  |skip=>exact⟨_,w2,seen P b.fn es++seen P b.fn nk,V2,by simp only[stepG.apply,TB,if_true,t3,t2,jY,T1];rfl,(s1.seen P _).trans (t1.seen P _),fin undef _ hU⟩
  |enter g args=>
   refine⟨G (Frame.enter P g args .normal) (on b a1 (.inRangeFunc l::k)::cs),w2,seen P b.fn es++seen P b.fn nk,V2,by simp only[stepG.apply,TB,if_true,t3,t2,jY,T1];rfl,(s1.seen P _).trans (t1.seen P _),?_⟩;refine Body.runs hU main J C _ cs (λv aR hR=> ?_) (λch aR hR=> ?_)
   ·exact fin v _ hR
   ·exact hL _ _ _ hR _ rfl
  |round l2 f2 arE as2 b2=>
   refine⟨G (W8 l2 f2 arE as2 b2 .normal) (on b a1 (.inRangeFunc l::k)::cs),w2,seen P b.fn es++seen P b.fn nk,V2,by simp only[stepG.apply,TB,if_true,t3,t2,jY,T1];rfl,(s1.seen P _).trans (t1.seen P _),?_⟩;refine hU main J C _ cs (λv aR hR=> ?_) (λch aR hR=> ?_)
   ·exact fin v _ hR
   ·exact hL _ _ _ hR _ rfl
  |_=>exact hU.elim
 ·exact⟨_,w2,seen P b.fn es++seen P b.fn nk,V2,by simp only[stepG.apply,TB,if_true,t3,t2,jY,T1];rfl,(s1.seen P _).trans (t1.seen P _),hL _ _ _ hU _ rfl⟩
theorem adx{f:Th}{ps:Array Tmp}{bK body:T4}{Q:Ex->Act->View->Prop}{a:Act}{V:View}
  (h:∀(fn d l:Nat),V.fresh d->(V.upd d (.deferred (some []))).fresh l->aO P ((V.upd d (.deferred (some []))).upd l (.loop {state:=.ready,pending:=none,fn,tmps:=a.tmps,params:=ps,assign:=bK,body,defers:=d}))
   (do let dd<- U4 (a.eval f) #[.func (.yield l) #[] #[]];invoke dd.target dd.args) (λnx V'=>Nx lv P (Eu l d Q a) nx V') (λv V'=>Eu l d Q a (.panic [{v,recovered:=false}]) V')):WP lv P none (.rangeFunc f ps bK body) Q a V:=by
 intro main J C b k cs hb hr hL;refine C.step _ _ rfl λw fx=> ?_;obtain⟨es,w1,V1,s1,s2,s3⟩:=(ap9 (P:=P) (fn:=b.fn) (tmps:=a.tmps) (ps:=ps) (bK:=bK) (body:=body)).runs fx;rcases s3 with⟨x,s3,d,l,hd,hl,rfl,rfl⟩|⟨_,_,hx⟩
 ·refine abU C hb hr hL (h b.fn d l hd hl) s1 ?_;have cu:∀(todo:List WT)(x:Th),(on b (mark a d) todo).eval x=a.eval x:=λtodo x=>by rw[GR];cases x<;>rfl
  have e:=cu (.inRangeFunc l::k) f;have e2:=cu (.inRangeFunc l::k) (.const (.func (.yield l) #[] #[]));simp only[on,mark]at e e2;simp[G,stepG,Uf,on,TB,s3,s2,hr,mark,resolve];rw[hr]at e;rw[e];rfl
 ·exact hx.elim
theorem aqa{fn:TO}{tmps:Array SP}{ps:Array Tmp}{bK body:T4}{V:View}{l0:Nat}{r0:aq_}(ho:V.own l0=some (.loop r0))(hc:V.role.chan≠some l0):aO P V (WW fn tmps ps bK body (some l0)) (λx V1=>∃l,V.fresh l/\x=(l,[])/\
  V1=V.upd l (.loop {state:=.ready,pending:=none,fn,tmps,params:=ps,assign:=bK,body,defers:=r0.defers})) (λ_ _=>False):=by
 unfold WW WJ;dsimp only;refine az (az ?_);unfold getObj;refine nU ho rfl rfl hc (cI ?_);dsimp only;refine aq (az (aq ?_));dsimp only;refine az ?_;unfold newObj;refine oJ λl hl=>cI (aq ?_);exact⟨l,hl,rfl,rfl⟩
theorem ash{f:Th}{ps:Array Tmp}{bK body:T4}{Q:Ex->Act->View->Prop}{a:Act}{V:View}{l0:Nat}{r0:aq_}(ho:V.own l0=some (.loop r0))(hc:V.role.chan≠some l0)
  (h:∀(fn l:Nat),V.fresh l->aO P (V.upd l (.loop {state:=.ready,pending:=none,fn,tmps:=a.tmps,params:=ps,assign:=bK,body,defers:=r0.defers}))
   (do let dd<- U4 (a.eval f) #[.func (.yield l) #[] #[]];invoke dd.target dd.args) (λnx V'=>Nx lv P (w7 l Q a) nx V') (λv V'=>w7 l Q a (.panic [{v,recovered:=false}]) V')):WP lv P (some l0) (.rangeFunc f ps bK body) Q a V:=by
 intro main J C b k cs hb hr hL;refine C.step _ _ rfl λw fx=> ?_;obtain⟨es,w1,V1,s1,s2,s3⟩:=(aqa (P:=P) (fn:=b.fn) (tmps:=a.tmps) (ps:=ps) (bK:=bK) (body:=body) ho hc).runs fx;rcases s3 with⟨x,s3,l,hl,rfl,rfl⟩|⟨_,_,hx⟩
 ·refine abU C hb hr hL (h b.fn l hl) s1 ?_;have e:=GR b a (.inRangeFunc l::k) f;simp only[on]at e;simp[G,stepG,Uf,on,TB,s3,s2,hr,resolve];rw[hr]at e;rw[e];rfl
 ·exact hx.elim
theorem Conc.yF{E:Env}{V:View}{H:List aa}(hc:Conc E V H){id r fn nt df:Nat}{st:Z6}{pe:Option T4}{T:List (Nat×AV)}{ps:Array Tmp}{bK body:T4}(hk:H[id]?=some (.loop r st pe fn T nt ps bK body df)):
  E.blk id=r/\V.role.chan≠some r/\∃tmps,V.own r=some (.loop {state:=st,pending:=pe,fn,tmps,params:=ps,assign:=bK,body,defers:=E.blk df})/\tmps.size=nt/\cj E T tmps/\
   ∀st' wK,Conc E (V.upd r (.loop {state:=st',pending:=wK,fn,tmps,params:=ps,assign:=bK,body,defers:=E.blk df})) (H.set id (.loop r st' wK fn T nt ps bK body df)):=by
 obtain⟨⟨tmps,p1,p2,p3⟩,p4,p5,p6⟩:=hc.obj id _ hk;have eI:=(hc.jk hk (b:=E.blk id) rfl).2;subst p6;refine⟨rfl,eI,tmps,p1,p2,p3,λst' wK=> ?_⟩;refine hc.iJ id (.loop (E.blk id) st' wK fn T nt ps bK body df) (Env.Le.refl E) hc.I (by simpa using hc.n) ly rfl (λ_ _ _=>rfl) (λb z hb hz=>⟨?_,λ_=>rfl⟩) ⟨⟨tmps,by simp[View.upd],p2,p3⟩,p4,p5,rfl⟩ (λb h=> .inl ⟨_,hk,h⟩);have:b≠E.blk id:=λe=>hb _ hk (by rw[e];rfl);simpa[View.upd,this]using hz
theorem Conc.DM{E:Env}{V:View}{H:List aa}(hc:Conc E V H){id:Nat}(x:aa)(hk:H[id]?=some x)(y:Obj){b:Nat}(hb:bL E id x=some b):Conc E (V.upd b y) (H.set id .gone):=by
 refine hc.iJ id .gone (Env.Le.refl E) hc.I (by simpa using hc.n) ly rfl (λ_ _ _=>rfl) (λb' z dD hz=>⟨?_,λ_=>rfl⟩) trivial (λb h=>by cases h);have:b'≠b:=λe=>dD _ hk (by rw[e];exact hb);simpa[View.upd,this]using hz
def sq:List Nat->List AV->List (Nat×AV)->List (Nat×AV)
 |t::ts,a::aE,T=>sq ts aE ((t,a)::T)
 |_,_,T=>T
theorem adC{E:Env}{nt:Nat}:∀(ts:List Nat)(aE:List AV)(vs:List SP)(T:List (Nat×AV))(tmps:Array SP),vs.length=aE.length->(∀(i:Nat) a,aE[i]?=some a->ap E a (vs.getD i undef))->(∀t∈ts,t<nt)->tmps.size=nt->cj E T tmps->
  cj E (sq ts aE T) ((ts.zip vs).foldl (λtmps (x:Nat×SP)=>tmps.setIfInBounds x.1 x.2) tmps)/\((ts.zip vs).foldl (λtmps (x:Nat×SP)=>tmps.setIfInBounds x.1 x.2) tmps).size=nt
 |[],aE,vs,T,tmps,_,_,_,hs,hT=>by cases aE<;>cases vs<;>exact⟨hT,hs⟩
 |t::ts,[],[],T,tmps,_,_,_,hs,hT=>⟨hT,hs⟩
 |t::ts,[],_::_,T,tmps,h,_,_,hs,hT=>by cases h
 |t::ts,_::_,[],T,tmps,h,_,_,hs,hT=>by cases h
 |t::ts,a::aE,v::vs,T,tmps,hl,hd,ht,hs,hT=>by
  have h0:ap E a v:=by simpa using hd 0 a rfl
  have h1:t<tmps.size:=by rw[hs];exact ht t (by simp)
  exact adC ts aE vs ((t,a)::T) (tmps.setIfInBounds t v) (by simpa using hl) (λi x hx=>by simpa using hd (i+1) x (by simpa using hx)) (λx hx=>ht x (by simp[hx])) (by simpa using hs) (hT.put h1 h0)
def oT (id n:Nat)(k:AV->List aa->Prop)(st':Z6)(wK:Option T4)(b:Bool)(s:AS):Prop:=∃r st pe fn T nt ps bK body df,s.H[id]?=some (.loop r st pe fn T nt ps bK body df)/\cF n (s.H.set id (.loop r st' wK fn T nt ps bK body df)) (.val (.bool b)) k
def adN (id n:Nat)(k kp:AV->List aa->Prop):an->AS->Prop
 |.normal,s=>oT id n k .ready none true s
 |.ret,s=>oT id n k .done (some .ret) false s
 |.exit i,s=>oT id n k .done (some (.exit i)) false s
 |.goto i,s=>oT id n k .done (some (.goto i)) false s
 |.panic pv,s=>cF n s.H pv kp
def ui (lv:Bool)(P:SI)(l nt id n:Nat)(body:T4)(k kp:AV->List aa->Prop):an->AS->Prop
 |.normal,s=>∃pe fn T jl ps bK fl df,s.H[id]?=some (.loop l .ready pe fn T jl ps bK fl df)/\aP lv P (some l) nt body ⟨s.T,s.H.set id (.loop l .busy pe fn T jl ps bK fl df)⟩ (adN id n k kp)
 |_,_=>False
theorem vR{l id fn nt df:Nat}{pe:Option T4}{T:List (Nat×AV)}{ps:Array Tmp}{bK body:T4}{H:List aa}{args:List AV}{k kp:AV->List aa->Prop}(bT:H[id]?=some (.loop l .ready pe fn T nt ps bK body df))(hlen:args.length=ps.size)(rK:ps.all (·<nt)=true)
  (h:bI H->(∀a∈args,Lt H.length a)->aP lv P (some l) nt bK ⟨sq ps.toList args T,H⟩ (ui lv P l nt id H.length body k kp)):i_ lv P (.fn (.yield l) [] []) H args k kp:=by
 intro E V cv vs hc hd pi;cases hd with
 |fn dP fW h1 h2=>
  rename_i fa ca;have e1:fa=#[]:=by apply VF;simpa using dP
  subst e1;have hlt:∀a∈args,Lt H.length a:=λa ha=>by
   obtain⟨i,hi⟩:=pF ha;rw[<- hc.n];exact(pi.2 i a hi).lt
  obtain⟨hb,eI,tmps,ho,aV,hT,_⟩:=hc.yF bT;unfold U4;refine az (aq ?_);unfold invoke;dsimp only;unfold Instr.yield WJ;refine az (az ?_);unfold getObj;refine nU ho rfl rfl eI (cI ?_);dsimp only;refine aq ?_;have lV:(#[]++vs).size=ps.size:=by simp[pi.1,hlen]
  rw[if_neg (by simp[pi.1,hlen])];refine aq ?_;show mZ lv P _ V (gQ E V k kp);have hz:=adC (nt:=nt) ps.toList args vs.toList T tmps (by simpa using pi.1) (λi a e=>by
   have:=pi.2 i a e;simpa[SH,SE]using this) (λt ht=>by
    have:=(UK.1 rK) t (by simpa using ht);simpa using this) aV hT
  have ag9:(ps.zip (#[]++vs)).foldl (λtmps (x:Nat×SP)=>tmps.setIfInBounds x.1 x.2) tmps=(ps.toList.zip vs.toList).foldl (λtmps (x:Nat×SP)=>tmps.setIfInBounds x.1 x.2) tmps:=by
   rw[<- Array.foldl_toList,Array.toList_zip];simp
  have aha:Array.foldl (λtmps x=>match x with|(t,a)=>tmps.setIfInBounds t a) tmps (ps.zip (#[]++vs))=(ps.toList.zip vs.toList).foldl (λtmps (x:Nat×SP)=>tmps.setIfInBounds x.1 x.2) tmps:=ag9;rw[aha];refine apJ ?_;refine h hc.au hlt E V _ _ ⟨hc,hz.1,hz.2⟩ λae e E' V' a' s' hk aS he hΦ=> ?_;cases ae<;>cases e<;>first
   |exact he.elim
   |exact hΦ.elim
   |skip
  obtain⟨wK,fB,T',jl,gz,gf,fl,gg,akp,hw⟩:=hΦ;obtain⟨dD,ny,qK,bf,Lv,sZ,tF⟩:=aS.br.yF akp;refine⟨_,bf,ny,rfl,?_⟩;refine hw E' _ a' _ ⟨tF .busy wK,aS.tok,aS.size⟩ λae e bP aR cm dj cG dh Cw Gj=> ?_;have fin:∀(st':Z6)(G5:Option T4)(b:Bool),(∃r st pe fn T nt ps bK body df,dj.H[id]?=some (.loop r st pe fn T nt ps bK body df)/\cF H.length (dj.H.set id (.loop r st' G5 fn T nt ps bK body df)) (.val (.bool b)) k)->
    ∃r,aR.own l=some (.loop r)/\aR.role.chan≠some l/\gQ E V k kp (.ret (.bool b)) (aR.upd l (.loop {r with state:=st',pending:=G5})):=by
   intro st' G5 b ⟨r,st,pe3,fn3,T3,nt3,Ng,asY,as9,df3,akq,tg⟩;obtain⟨Fz,ajW,atX,K5,atF,hT3,alq⟩:=dh.br.yF akq;have hlt:id<E.n:=(by rw[hc.n];exact(SL.1 bT).1);have hle:E.Le bP:=hk.le.trans cG.le;have hr:r=l:=(by rw[<- Fz,<- hb];exact hle.blk id hlt);subst hr;obtain⟨x,E4,H4,q1,q2,q3,q4⟩:=xo tg (alq st' G5) (.val _) hle hc.n;exact⟨_,K5,ajW,x,E4,H4,q1,cG.role.trans hk.role,cG.deaf.trans hk.deaf,q2,q3,q4⟩
  cases ae<;>cases e<;>first
   |exact Cw.elim
   |exact fin .ready none true Gj
   |exact fin .done (some .ret) false Gj
   |(have e:_=_:=Cw
     subst e;exact fin .done _ false Gj)
   |skip
  obtain⟨v,ajV,bp⟩:=Cw;subst ajV;obtain⟨x,E4,H4,q1,q2,q3,q4⟩:=xo Gj dh.br bp (hk.le.trans cG.le) hc.n;refine⟨by rw[cG.defers,hk.defers],x,v,E4,H4,rfl,q1,cG.role.trans hk.role,cG.deaf.trans hk.deaf,q2,q3,q4⟩
def Marks (E:Env)(ms:List Nat)(l:List UY):Prop:=l=ms.map (λi=>({target:=.collected (E.blk i),args:=#[]}:UY))/\∀i∈ms,i<E.n
theorem Marks.mono{E E':Env}(h:E.Le E'){ms:List Nat}{l:List UY}(k:Marks E ms l):Marks E' ms l:=
 ⟨by rw[k.1];exact VC λi hi=>by rw[h.blk i (k.2 i hi)],λi hi=>Td (k.2 i hi) h.n⟩
def mC (lv:Bool)(P:SI)(nt:Nat)(c:T4)(s:AS)(ms:List Nat)(Φ:an->AS->List Nat->Prop):Prop:=
 ∀(E:Env)(V:View)(a:Act)(Q:Ex->Act->View->Prop),At E V s a nt->Marks E ms a.defers->(∀ae e E' V' a' s' cD,qR E E' V V' a a'->At E' V' s' a' nt->Marks E' cD a'.defers->pN E' ae e->Φ ae s' cD->Q e a' V')->WP lv P none c Q a V
variable {s:AS}{ms:List Nat}{nt:Nat}
theorem It{c:T4}{Φ:an->AS->List Nat->Prop}(h:aP lv P none nt c s λe s'=>Φ e s' ms):mC lv P nt c s ms Φ:=λE V a Q ah hd hQ=>
 h E V a Q ah λae e E' V' a' s' hk aS he hΦ=>hQ ae e E' V' a' s' ms hk.d aS (by rw[hk.defers];exact hd.mono hk.le) he hΦ
def an.si (next:AS->List Nat->Prop)(Φ:an->AS->List Nat->Prop):an->AS->List Nat->Prop
 |.normal,s,ms=>next s ms
 |e,s,ms=>Φ e s ms
theorem Iu{x y:T4}{Φ:an->AS->List Nat->Prop}(h:mC lv P nt x s ms (an.si (λs' cD=>mC lv P nt y s' cD Φ) Φ)):mC lv P nt (.seq x y) s ms Φ:=by
 intro E V a Q ah hd hQ;refine wp_seq (h E V a _ ah hd λae e E' V' a' s' cD hk aS cz he hΦ=> ?_);cases ae<;>cases e<;>first
  |exact he.elim
  |exact hΦ E' V' a' Q aS cz λae e bP aR cm dj Dl aJ dh zN ko tL=>hQ ae e bP aR cm dj Dl (hk.trans aJ) dh zN ko tL
  |exact hQ _ _ E' V' a' s' cD hk aS cz he hΦ
theorem nd{x y:T4}{Φ:an->AS->List Nat->Prop}(h:aP lv P none nt x s (an.then (λs'=>mC lv P nt y s' ms Φ) λe s'=>Φ e s' ms)):mC lv P nt (.seq x y) s ms Φ:=by
 refine Iu (It (h.mono λe s' hs=> ?_));cases e<;>exact hs
def sF (Φ:an->AS->List Nat->Prop)(s:AS)(ms:List Nat):Option T4->Prop
 |none=>Φ .normal s ms
 |some .ret=>Φ .ret s ms
 |some (.exit i)=>Φ (.exit i) s ms
 |some (.goto i)=>Φ (.goto i) s ms
 |_=>False
theorem afw{f:Th}{ps:Array Tmp}{bK body:T4}{fv:AV}{Φ:an->AS->List Nat->Prop}(hf:s.ev f=some fv)
  (h:∀l fn:Nat,i_ lv P fv (s.H++[.obj (.deferred (some [])),.loop l .ready none fn s.T nt ps bK body s.H.length]) [.fn (.yield l) [] []]
   (λ_ H'=>∃st pe fB T' jl gz gf fl gg,H'[s.H.length+1]?=some (.loop l st pe fB T' jl gz gf fl gg)/\st≠ .busy/\sF Φ ⟨s.T,H'.set (s.H.length+1) .gone⟩ (s.H.length::ms) pe)
   (λpv H'=>Φ (.panic pv) ⟨s.T,H'⟩ (s.H.length::ms))):mC lv P nt (.rangeFunc f ps bK body) s ms Φ:=by
 intro E V a Q ah hm hQ;refine adx λfn d l hd hl=> ?_;have hc:=ah.br;have dn:Conc (E.add d V.ab) (V.upd d (.deferred (some []))) (s.H++[.obj (.deferred (some []))]):=by
  refine hc.add hd _ ⟨?_,rfl,rfl,λo=> ?_⟩ (λb e=> ?_)
  ·rw[Env.dL];simp[View.upd]
  ·rw[Env.dL];exact hd.2 o
  ·simp only[bL,Env.dL,Tj]at e;exact e.symm
 have CD:E.Le (E.add d V.ab):=E.qC d (λb o v h=>by rw[<- hc.I];exact h);have Cn:(E.add d V.ab).blk s.H.length=d:=by rw[<- hc.n];exact E.dL d _
 let E1:=E.add d V.ab;let V1:=V.upd d (.deferred (some []));have pt:E1.n=s.H.length+1:=by rw[dn.n];simp
 have qp:E1.Le (E1.add l V1.ab):=E1.qC l (λb o v h=>by rw[<- dn.I];exact h);have ce:Conc (E1.add l V1.ab) (V1.upd l (.loop {state:=.ready,pending:=none,fn,tmps:=a.tmps,params:=ps,assign:=bK,body,defers:=d})) ((s.H++[.obj (.deferred (some []))])++[.loop l .ready none fn s.T nt ps bK body s.H.length]):=by
  refine dn.add hl _ ⟨⟨a.tmps,?_,ah.size,(ah.tok.mono CD).mono qp⟩,?_,λo=> ?_,?_⟩ (λb e=> ?_)
  ·have e:(E1.add l V1.ab).blk s.H.length=d:=(by rw[qp.blk s.H.length (by rw[pt];omega)];exact Cn);rw[e,Env.dL];simp[View.upd]
  ·show s.H.length<E1.n+1;omega
  ·rw[Env.dL];exact hl.2 o
  ·exact Env.dL _ _ _
  ·simp only[bL,Env.dL,Tj]at e;exact e.symm
 have hle:E.Le (E1.add l V1.ab):=CD.trans qp;have cO:(E1.add l V1.ab).blk (s.H.length+1)=l:=by rw[<- pt];exact E1.dL l _
 have J8:(E1.add l V1.ab).blk s.H.length=d:=by rw[qp.blk s.H.length (by rw[pt];omega)];exact Cn
 rw[SC]at ce;have rH:∀E',(E1.add l V1.ab).Le E'->Marks E' (s.H.length::ms) (mark a d).defers:=λE' hE=>by
  refine Marks.mono hE ⟨?_,λi hi=> ?_⟩
  ·have:=(hm.mono hle).1;simp only[mark,UW,J8];rw[<- this]
  ·rcases SK.1 hi with rfl|hi
   ·show _<E1.n+1;omega
   ·exact Td (hm.2 i hi) hle.n
 have bz:=ap.ev ah.tok hf;have Cq:=h l fn (E1.add l V1.ab) (V1.upd l (.loop {state:=.ready,pending:=none,fn,tmps:=a.tmps,params:=ps,assign:=bK,body,defers:=d})) (a.eval f) #[.func (.yield l) #[] #[]] ce (bz.mono hle) ⟨rfl,λi x hx=>by
  match i,hx with
  |0,hx=>cases hx;exact .fn rfl rfl (by simp) (by simp)⟩
 have key:∀o V',gQ (E1.add l V1.ab) (V1.upd l (.loop {state:=.ready,pending:=none,fn,tmps:=a.tmps,params:=ps,assign:=bK,body,defers:=d}))
   (λ_ H'=>∃st pe fB T' jl gz gf fl gg,H'[s.H.length+1]?=some (.loop l st pe fB T' jl gz gf fl gg)/\st≠ .busy/\sF Φ ⟨s.T,H'.set (s.H.length+1) .gone⟩ (s.H.length::ms) pe)
   (λpv H'=>Φ (.panic pv) ⟨s.T,H'⟩ (s.H.length::ms)) o V'->Eu l d Q a o V':=by
  intro o V' hr;cases o with
  |ret v=>
   obtain⟨av,E',H',hE,b8,eW,_,bm,st,pe,fB,T',jl,gz,gf,fl,gg,bT,aQ,hp⟩:=hr;obtain⟨dD,ny,qK,bf,Lv,sZ,tF⟩:=bm.yF bT;refine⟨_,bf,ny,aQ,?_⟩;have hg:Conc E' (V'.upd l (.loop {state:=.exhausted,pending:=pe,fn:=fB,tmps:=qK,params:=gz,assign:=gf,body:=fl,defers:=E'.blk gg})) (H'.set (s.H.length+1) .gone):=bm.DM _ bT _ (by simp only[bL,dD]);have aS:At E' (V'.upd l (.loop {state:=.exhausted,pending:=pe,fn:=fB,tmps:=qK,params:=gz,assign:=gf,body:=fl,defers:=E'.blk gg})) ⟨s.T,H'.set (s.H.length+1) .gone⟩ (mark a d) nt:=⟨hg,ah.tok.mono (hle.trans hE),ah.size⟩;have eo:qR E E' V (V'.upd l (.loop {state:=.exhausted,pending:=pe,fn:=fB,tmps:=qK,params:=gz,assign:=gf,body:=fl,defers:=E'.blk gg})) a (mark a d):=⟨hle.trans hE,rfl,b8,eW⟩;dsimp only
   match pe,hp,aS,eo with
   |none,hp,aS,eo=>exact hQ .normal .normal E' _ _ _ _ eo aS (rH E' hE) trivial hp
   |some .ret,hp,aS,eo=>exact hQ .ret .ret E' _ _ _ _ eo aS (rH E' hE) trivial hp
   |some (.exit i),hp,aS,eo=>exact hQ (.exit i) (.exit i) E' _ _ _ _ eo aS (rH E' hE) rfl hp
   |some (.goto i),hp,aS,eo=>exact hQ (.goto i) (.goto i) E' _ _ _ _ eo aS (rH E' hE) rfl hp
  |panic ch=>
   obtain⟨pv,v,E',H',rfl,hE,b8,eW,bp,bm,hp⟩:=hr;exact hQ (.panic pv) (.panic _) E' V' (mark a d) ⟨s.T,H'⟩ _ ⟨hle.trans hE,rfl,b8,eW⟩ ⟨bm,ah.tok.mono (hle.trans hE),ah.size⟩ (rH E' hE) ⟨v,rfl,bp⟩ hp
 exact Cq.mono (λnx V' hn=>Nx.mono key hn) (λv V' hr=>key _ _ hr)
def uh (Φ:an->AS->Prop)(s:AS):Option T4->Prop
 |none=>Φ .normal s
 |some .ret=>Φ .ret s
 |some (.exit i)=>Φ (.exit i) s
 |some (.goto i)=>Φ (.goto i) s
 |_=>False
theorem afk{f:Th}{ps:Array Tmp}{bK body:T4}{fv:AV}{Φ:an->AS->Prop}{l0 Gl Jy MH df:Nat}{NA:Z6}{MV:Option T4}{T0:List (Nat×AV)}{Nf:Array Tmp}{Io IA:T4}(hf:s.ev f=some fv)(h0:s.H[Gl]?=some (.loop l0 NA MV Jy T0 MH Nf Io IA df))
  (h:∀l fn:Nat,i_ lv P fv (s.H++[.loop l .ready none fn s.T nt ps bK body df]) [.fn (.yield l) [] []]
   (λ_ H'=>∃st pe fB T' jl gz gf fl gg,H'[s.H.length]?=some (.loop l st pe fB T' jl gz gf fl gg)/\st≠ .busy/\uh Φ ⟨s.T,H'.set s.H.length .gone⟩ pe)
   (λpv H'=>Φ (.panic pv) ⟨s.T,H'⟩)):aP lv P (some l0) nt (.rangeFunc f ps bK body) s Φ:=by
 intro E V a Q ah hQ;have hc:=ah.br;obtain⟨s9,ajU,atW,ho0,Lw,hT0,_⟩:=hc.yF h0;obtain⟨_,bz,_⟩:=hc.obj Gl _ h0;refine ash ho0 ajU λfn l hl=> ?_;have hle:E.Le (E.add l V.ab):=E.qC l (λb o v h=>by rw[<- hc.I];exact h);have cO:(E.add l V.ab).blk s.H.length=l:=by rw[<- hc.n];exact E.dL l _
 have ce:Conc (E.add l V.ab) (V.upd l (.loop {state:=.ready,pending:=none,fn,tmps:=a.tmps,params:=ps,assign:=bK,body,defers:=E.blk df})) (s.H++[.loop l .ready none fn s.T nt ps bK body df]):=by
  refine hc.add hl _ ⟨⟨a.tmps,?_,ah.size,ah.tok.mono hle⟩,?_,λo=> ?_,?_⟩ (λb e=> ?_)
  ·rw[Env.dL,hle.blk df bz];simp[View.upd]
  ·show df<E.n+1;omega
  ·rw[Env.dL];exact hl.2 o
  ·exact Env.dL _ _ _
  ·simp only[bL,Env.dL,Tj]at e;exact e.symm
 have akd:=ap.ev ah.tok hf;have Cq:=h l fn (E.add l V.ab) (V.upd l (.loop {state:=.ready,pending:=none,fn,tmps:=a.tmps,params:=ps,assign:=bK,body,defers:=E.blk df})) (a.eval f) #[.func (.yield l) #[] #[]] ce (akd.mono hle) ⟨rfl,λi x hx=>by
  match i,hx with
  |0,hx=>cases hx;exact .fn rfl rfl (by simp) (by simp)⟩
 have key:∀o V',gQ (E.add l V.ab) (V.upd l (.loop {state:=.ready,pending:=none,fn,tmps:=a.tmps,params:=ps,assign:=bK,body,defers:=E.blk df}))
   (λ_ H'=>∃st pe fB T' jl gz gf fl gg,H'[s.H.length]?=some (.loop l st pe fB T' jl gz gf fl gg)/\st≠ .busy/\uh Φ ⟨s.T,H'.set s.H.length .gone⟩ pe)
   (λpv H'=>Φ (.panic pv) ⟨s.T,H'⟩) o V'->w7 l Q a o V':=by
  intro o V' hr;cases o with
  |ret v=>
   obtain⟨av,E',H',hE,b8,eW,_,bm,st,pe,fB,T',jl,gz,gf,fl,gg,bT,aQ,hp⟩:=hr;obtain⟨dD,ny,qK,bf,Lv,sZ,tF⟩:=bm.yF bT;refine⟨_,bf,ny,aQ,?_⟩;have hg:Conc E' (V'.upd l (.loop {state:=.exhausted,pending:=pe,fn:=fB,tmps:=qK,params:=gz,assign:=gf,body:=fl,defers:=E'.blk gg})) (H'.set s.H.length .gone):=bm.DM _ bT _ (by simp only[bL,dD]);have aS:At E' (V'.upd l (.loop {state:=.exhausted,pending:=pe,fn:=fB,tmps:=qK,params:=gz,assign:=gf,body:=fl,defers:=E'.blk gg})) ⟨s.T,H'.set s.H.length .gone⟩ a nt:=⟨hg,ah.tok.mono (hle.trans hE),ah.size⟩;have eo:Kept E E' V (V'.upd l (.loop {state:=.exhausted,pending:=pe,fn:=fB,tmps:=qK,params:=gz,assign:=gf,body:=fl,defers:=E'.blk gg})) a a:=⟨hle.trans hE,rfl,rfl,b8,eW⟩;dsimp only
   match pe,hp,aS,eo with
   |none,hp,aS,eo=>exact hQ .normal .normal E' _ _ _ eo aS trivial hp
   |some .ret,hp,aS,eo=>exact hQ .ret .ret E' _ _ _ eo aS trivial hp
   |some (.exit i),hp,aS,eo=>exact hQ (.exit i) (.exit i) E' _ _ _ eo aS rfl hp
   |some (.goto i),hp,aS,eo=>exact hQ (.goto i) (.goto i) E' _ _ _ eo aS rfl hp
  |panic ch=>
   obtain⟨pv,v,E',H',rfl,hE,b8,eW,bp,bm,hp⟩:=hr;exact hQ (.panic pv) (.panic _) E' V' a ⟨s.T,H'⟩ ⟨hle.trans hE,rfl,rfl,b8,eW⟩ ⟨bm,ah.tok.mono (hle.trans hE),ah.size⟩ ⟨v,rfl,bp⟩ hp
 exact Cq.mono (λnx V' hn=>Nx.mono key hn) (λv V' hr=>key _ _ hr)
def xb (P:SI)(fn:YB)(R:Out->View->Prop):List UY->U_->Array SP->View->Prop
 |[],.returning,tmps,V=>∃v,aO P V (results fn tmps) (λx V'=>x=v/\V'=V) (λ_ _=>False)/\R (.ret v) V
 |[],.panicking ch,_,V=>R (.panic ch) V
 |d::ds,md,tmps,V=>(md matches .run)=false/\∃b,d={target:=.collected b,args:=#[]}/\V.own b=some (.deferred (some []))/\V.role.chan≠some b/\xb P fn R ds md tmps (V.upd b (.deferred none))
 |[],.run,_,_=>False
theorem HC{f:TO}{fn:YB}{kd:Xc}{R:Out->View->Prop}(hf:P.funcs[f]?=some fn){main:Bool}{J:View->SG->Prop}(C:Closed lv P main J){cs:List Ua}(hR:∀o V' B1,R o V'->Leaves P B1 f kd o V'->J V' (G B1 cs)):∀(ds:List UY)(md:U_)(V:View)(fr:Ua),fr.fn=f->fr.kind=kd->fr.mode=md->fr.defers=ds->xb P fn R ds md fr.tmps V->J V (G fr cs)
 |[],.returning,V,fr,h1,h2,h3,h4,h=>by
  obtain⟨v,hs,hr⟩:=h;exact hR _ _ _ hr ⟨h1,h4,h2,fn,hf,h3,hs⟩
 |[],.panicking ch,V,fr,h1,h2,h3,h4,h=>hR _ _ _ h ⟨h1,h4,h2,fn,hf,h3⟩
 |[],.run,_,_,_,_,_,_,h=>h.elim
 |d::ds,md,V,fr,h1,h2,h3,h4,h=>by
  obtain⟨hm,b,rfl,ho,eI,hu⟩:=h;refine C.step _ _ rfl λw hw=> ?_;obtain⟨es,w',V',k1,k2,k3⟩:=(Nt (P:=P) ho eI).runs hw;rcases k3 with⟨x,k3,rfl,rfl⟩|⟨_,_,hx⟩
  ·refine⟨G {fr with defers:=ds} cs,w',seen P fr.fn es,_,?_,k1.seen P fr.fn,?_⟩
   ·have e:∀main,stepG P main (G fr cs) w=unwind P main fr cs none w:=λmain=>by
     cases md with
     |run=>cases hm
     |returning=>simp[G,stepG,h3]
     |panicking ch=>simp[G,stepG,h3]
    rw[e];simp only[unwind,h4];simp[TB,k3,k2,T1,G]
   ·exact HC hf C hR ds md _ {fr with defers:=ds} h1 h2 h3 rfl hu
  ·exact hx.elim
def adH (P:SI)(fn:YB)(R:Out->View->Prop):Ex->Act->View->Prop
 |.normal,a,V|.ret,a,V=>xb P fn R a.defers .returning a.tmps V
 |.panic ch,a,V=>xb P fn R a.defers (.panicking ch) a.tmps V
 |_,_,_=>False
theorem af3{f:TO}{fn:YB}{c:T4}{args:Array SP}{kd:Xc}{V:View}{R:Out->View->Prop}(hk:kd≠ .early)(hf:P.funcs[f]?=some fn)(hb:fn.body=some c)
  (h:WP lv P none c (adH P fn R) {tmps:=args++TL (fn.ntmps-args.size) undef,defers:=[]} V):Body lv P f args kd V R:=by
 intro main J C cs hR;let b:Ua:={(default:Ua)with fn:=f,kind:=kd,roundOf:=none};have uF:Frame.enter P f args kd=on b {tmps:=args++TL (fn.ntmps-args.size) undef,defers:=[]} [.code c]:=by
  simp[Frame.enter,on,hf,hb,b]
 rw[uF];refine h main J C b [] cs hk rfl λe a' V' q=> ?_;cases e with
 |normal=>exact C.idle rfl (λw=>DI rfl) (HC hf C hR _ _ _ _ rfl rfl rfl rfl q)
 |ret=>intro k;exact C.idle rfl (λw=>DJ rfl) (HC hf C hR _ _ _ _ rfl rfl rfl rfl q)
 |panic ch=>intro todo _;exact HC hf C hR _ _ _ _ rfl rfl rfl rfl q
 |exit id=>exact q.elim
 |goto l=>exact q.elim
def iN:List Nat->List aa->Option (List aa)
 |[],H=>some H
 |i::ms,H=>match H[i]?with
  |some (.obj (.deferred (some [])))=>iN ms (H.set i .gone)
  |_=>none
def sB (P:SI)(rs:List UO)(n:Nat)(k kp:AV->List aa->Prop):an->AS->List Nat->Prop
 |.normal,s,ms|.ret,s,ms=>ao (iN ms s.H) λH'=>ao (gY P ⟨s.T,H'⟩ rs) λl=>cF n H' (iY l) k
 |.panic pv,s,ms=>ao (iN ms s.H) λH'=>cF n H' pv kp
 |_,_,_=>False
theorem NP{fn:YB}{R:Out->View->Prop}{tmps:Array SP}{md:U_}(hm:(md matches .run)=false):∀(ms:List Nat)(H H':List aa)(E:Env)(V:View)(l:List UY),iN ms H=some H'->Conc E V H->Marks E ms l->(∀V',V'.role=V.role->V'.deaf=V.deaf->Conc E V' H'->xb P fn R [] md tmps V')->xb P fn R l md tmps V
 |[],H,H',E,V,l,hg,hc,rI,hk=>by
  cases hg;have:l=[]:=rI.1;subst this;exact hk V rfl rfl hc
 |i::ms,H,H',E,V,l,hg,hc,rI,hk=>by
  simp only[iN]at hg;split at hg
  ·rename_i hi;obtain⟨e,hlt⟩:=rI;simp only[UW]at e;subst e;obtain⟨p1,p2,p3,p4⟩:=hc.obj i _ hi;exact⟨hm,_,rfl,p1,(hc.jk hi rfl).2,NP hm ms _ H' E _ _ hg (hc.DM _ hi _ rfl) ⟨rfl,λj hj=>hlt j (by simp[hj])⟩ λV' h1 h2 h3=>hk V' h1 h2 h3⟩
  ·cases hg
theorem Ql{f:TO}{fn:YB}{c:T4}{rs:List UO}{nt:Nat}{H:List aa}{args:List AV}{k kp:AV->List aa->Prop}(hf:P.funcs[f]?=some fn)(hb:fn.body=some c)(hr:fn.results=rs.toArray)(hn:fn.ntmps=nt)(cN:args.length<=nt)
  (h:bI H->(∀a∈args,Lt H.length a)->mC lv P nt c ⟨bk 0 args,H⟩ [] (sB P rs H.length k kp)):bh lv P f H args k kp:=by
 intro E V vs hc hd;have hlt:∀a∈args,Lt H.length a:=λa ha=>by
  obtain⟨i,hi⟩:=pF ha;rw[<- hc.n];exact(hd.2 i a hi).lt
 have ah:=BJ (nt:=nt) hc hd cN;refine af3 (by simp) hf hb ?_;rw[hn];refine h hc.au hlt E V _ _ ah ⟨rfl,by simp⟩ λae e E' V' a' s' cD hk aS fV he hΦ=> ?_;have fin:sB P rs H.length k kp .ret s' cD->xb P fn (gQ E V k kp) a'.defers .returning a'.tmps V':=λhΦ=>by
  obtain⟨H',hg,hΦ⟩:=ao.out hΦ;exact NP rfl cD _ H' E' V' _ hg aS.br fV λaR h1 h2 h3=>abX (s':=⟨s'.T,H'⟩) (a':=a') hr ⟨h3,aS.tok,aS.size⟩ hk.le hc.n (h1.trans hk.role) (h2.trans hk.deaf) hΦ
 cases ae<;>cases e<;>first
  |exact he.elim
  |exact fin hΦ
  |exact hΦ.elim
  |skip
 rename_i pv ch;obtain⟨v,eI,bp⟩:∃v,ch=[{v,recovered:=false}]/\ap E' pv v:=he;subst eI;obtain⟨H',hg,hΦ⟩:=ao.out hΦ;refine NP rfl cD _ H' E' V' _ hg aS.br fV λaR h1 h2 h3=> ?_;obtain⟨b,bP,ud,r1,r2,r3,r4⟩:=xo hΦ h3 bp hk.le hc.n;exact⟨b,v,bP,ud,rfl,r1,h1.trans hk.role,h2.trans hk.deaf,r2,r3,r4⟩
end
def Env.frame (E:Env)(f:Nat->Option Obj):Env:={E with fr:=f}
theorem ap.frame{E:Env}{a:AV}{v:SP}(h:ap E a v)(f:Nat->Option Obj):ap (E.frame f) a v:=by
 induction h with
 |val x=>exact .val x
 |agg hs _ ih=>exact .agg hs ih
 |aL hs _ ih=>exact .aL hs ih
 |sl b o cap g hc he h1 _ ih=>exact .sl b o cap g hc (by cases ko:‹End›<;>(subst ko;exact he)) h1 ih
 |nil he=>exact .nil (by cases ko:‹End›<;>(subst ko;exact he))
 |bw hi dO=>exact .bw (E:=E.frame f) hi dO
 |rp b o g h1 _ ih=>exact .rp b o g h1 ih
 |op hi=>exact .op (E:=E.frame f) hi
 |fn dP fW _ _ mP lx=>exact .fn dP fW mP lx
 |c9 _ ih=>exact .c9 ih
 |mp hi=>exact .mp (E:=E.frame f) hi
theorem cJ.frame{E:Env}{l:List AV}{cs:Array SP}(h:cJ E l cs)(f:Nat->Option Obj):cJ (E.frame f) l cs:=⟨h.1,λi a e=>(h.2 i a e).frame f⟩
theorem j6.frame{E:Env}{l:List AV}{cs:Array SP}(h:j6 E l cs)(f:Nat->Option Obj):j6 (E.frame f) l cs:=⟨h.1,λi a e=>(h.2 i a e).frame f⟩
theorem cj.frame{E:Env}{T:List (Nat×AV)}{tmps:Array SP}(h:cj E T tmps)(f:Nat->Option Obj):cj (E.frame f) T tmps:=λt a e=>⟨(h t a e).1,(h t a e).2.frame f⟩
theorem vN(E:Env)(f:Nat->Option Obj)(k:Nat)(x:aa):bL (E.frame f) k x=bL E k x:=by cases x<;>rfl
theorem fN.frame{E:Env}{V:View}{k:Nat}{x:aa}(h:fN E V k x)(f:Nat->Option Obj):fN (E.frame f) V k x:=by
 cases x with
 |cells l el=>obtain⟨⟨cs,h1,h2⟩,h3⟩:=h;exact⟨⟨cs,h1,h2.frame f⟩,h3⟩
 |part p l el=>obtain⟨⟨cs,h1,h2,h4⟩,h3⟩:=h;exact⟨⟨cs,h1,h2.frame f,h4⟩,h3⟩
 |own sz l el=>obtain⟨⟨cs,h1,h2,h4⟩,h3⟩:=h;exact⟨⟨cs,h1,h2.frame f,h4⟩,h3⟩
 |tail n sz el=>exact h
 |obj x=>exact h
 |iter=>exact h
 |loop=>obtain⟨⟨tmps,h1,h2,h3⟩,h4,h5⟩:=h;exact⟨⟨tmps,h1,h2,h3.frame f⟩,h4,h5⟩
 |gone=>trivial
 |main=>exact h
theorem Conc.yz{E:Env}{V V':View}{H:List aa}(h:Conc E V H)(f:Nat->Option Obj)(hI:V'.ab=V.ab)
  (ho:∀b x k y,H[k]?=some y->bL E k y=some b->V.own b=some x->V'.own b=some x)
  (hg:∀g,V'.role.group=some g->V'.own g≠none/\(∀o,V'.ab g o=none)/\∀(k:Nat) x,H[k]?=some x->bL E k x≠some g)
  (hc:∀g,V'.role.chan=some g->V'.own g≠none/\(∀o,V'.ab g o=none)/\∀(k:Nat) x,H[k]?=some x->bL E k x≠some g)
  (ht:E.main=true->V'.role=.plain/\V'.deaf=0) (hf:∀b y,f b=some y->V'.own b=some y/\(∀o,V'.ab b o=none)/\∀(k:Nat) x,H[k]?=some x->bL E k x≠some b):Conc (E.frame f) V' H:=by
 have hlt:∀(k:Nat) y,H[k]?=some y->k<E.n:=λk y e=>by rw[h.n];exact(SL.1 e).1
 refine⟨by rw[hI];exact h.I,h.n,λk x e=>fN.frame ((h.obj k x e).mono (Env.Le.refl E) (hlt k x e) rfl (λb y hb hy=>ho b y k x e hb hy) (λb _ o=>by rw[hI])) f,λi j x y b h1 h2 h3 h4=> ?_,λg e=> ?_,λg e=> ?_,ht,λb y e=> ?_⟩
 ·rw[vN]at h3 h4;exact h.inj i j x y b h1 h2 h3 h4
 ·obtain⟨a,b,c⟩:=hg g e;exact⟨a,b,λk x e=>by rw[vN];exact c k x e⟩
 ·obtain⟨a,b,c⟩:=hc g e;exact⟨a,b,λk x e=>by rw[vN];exact c k x e⟩
 ·obtain⟨a,b',c⟩:=hf b y e;exact⟨a,b',λk x e=>by rw[vN];exact c k x e⟩
theorem Conc.Dq{E:Env}{V:View}{H:List aa}(h:Conc E V H){b:Nat}{x:Obj}(hb:E.fr b=some x){k:Nat}{y:aa}(hk:H[k]?=some y){b':Nat}(dD:bL E k y=some b'):b'≠b:=λe=>by subst e;exact(h.fr _ x hb).2.2 k y hk dD
theorem Conc.ajd{E:Env}{V:View}{H:List aa}(h:Conc E V H){b:Nat}{x:Obj}(hb:E.fr b=some x)(y:Obj):Conc (E.frame λb'=>if b'=b then some y else E.fr b') (V.upd b y) H:=by
 obtain⟨p1,p2,p3⟩:=h.fr b x hb;refine h.yz _ rfl (λb' z k w hk kF hz=> ?_) (λg hg=> ?_) (λg hg=> ?_) h.top (λb' z hz=> ?_)
 ·have:b'≠b:=h.Dq hb hk kF;simpa[View.upd,this]using hz
 ·obtain⟨q1,q2,q3⟩:=h.group g hg;refine⟨?_,q2,q3⟩;simp only[View.upd];split
  ·simp
  ·exact q1
 ·obtain⟨q1,q2,q3⟩:=h.chan g hg;refine⟨?_,q2,q3⟩;simp only[View.upd];split
  ·simp
  ·exact q1
 ·by_cases e:b'=b
  ·subst e;rw[if_pos rfl]at hz;cases hz;exact⟨by simp[View.upd],p2,p3⟩
  ·rw[if_neg e]at hz;obtain⟨q1,q2,q3⟩:=h.fr b' z hz;exact⟨by simpa[View.upd,e]using q1,q2,q3⟩
theorem Conc.ajb{E:Env}{V:View}{H:List aa}(h:Conc E V H){b:Nat}(hb:V.fresh b)(y:Obj):Conc (E.frame λb'=>if b'=b then some y else E.fr b') (V.upd b y) H:=by
 have aH:∀(k:Nat) x,H[k]?=some x->bL E k x≠some b:=λk x hk e=>by
  obtain⟨z,hz⟩:=(h.obj k x hk).BL e;rw[hb.1]at hz;cases hz
 refine h.yz _ rfl (λb' z k w hk kF hz=> ?_) (λg hg=> ?_) (λg hg=> ?_) h.top (λb' z hz=> ?_)
 ·have:b'≠b:=λe=>by subst e;exact aH k w hk kF
  simpa[View.upd,this]using hz
 ·obtain⟨q1,q2,q3⟩:=h.group g hg;refine⟨?_,q2,q3⟩;simp only[View.upd];split
  ·simp
  ·exact q1
 ·obtain⟨q1,q2,q3⟩:=h.chan g hg;refine⟨?_,q2,q3⟩;simp only[View.upd];split
  ·simp
  ·exact q1
 ·by_cases e:b'=b
  ·subst e;rw[if_pos rfl]at hz;cases hz;exact⟨by simp[View.upd],hb.2,aH⟩
  ·rw[if_neg e]at hz;obtain⟨q1,q2,q3⟩:=h.fr b' z hz;exact⟨by simpa[View.upd,e]using q1,q2,q3⟩
theorem Conc.ajc{E:Env}{V:View}{H:List aa}(h:Conc E V H){id:Nat}{l:List AV}{el:TypeId}(hk:H[id]?=some (.cells l el)):∃cs,cJ E l cs/\V.own (E.blk id)=some (.cells cs el (0,0))/\(∀o,V.ab (E.blk id) o=none)/\
  Conc (E.frame λb'=>if b'=E.blk id then some (.cells cs el (0,0))else E.fr b') V (H.set id .gone):=by
 obtain⟨⟨cs,h1,h2⟩,h3⟩:=h.obj id _ hk;refine⟨cs,h2,h1,h3,?_⟩;have hg:Conc E V (H.set id .gone):=by
  refine h.iJ id .gone (Env.Le.refl E) h.I (by simpa using h.n) ly rfl (λ_ _ _=>rfl) (λb y _ hy=>⟨hy,λ_=>rfl⟩) trivial (λb e=>by cases e)
 have aH:∀(k:Nat) x,(H.set id .gone)[k]?=some x->bL E k x≠some (E.blk id):=λk x hx e=>by
  rcases ly k x hx with⟨rfl,rfl⟩|⟨aH,hx⟩
  ·cases e
  ·exact aH (h.inj k id x _ _ hx hk e rfl)
 refine hg.yz _ rfl (λ_ _ _ _ _ _ hz=>hz) hg.group hg.chan h.top (λb' z hz=> ?_);by_cases e:b'=E.blk id
 ·subst e;rw[if_pos rfl]at hz;cases hz;exact⟨h1,h3,aH⟩
 ·rw[if_neg e]at hz;exact hg.fr b' z hz
theorem Conc.G9{E:Env}{V:View}{H:List aa}(h:Conc E V H){id:Nat}{l:List AV}{el:TypeId}(hk:H[id]?=some (.cells l el))(p:Nat)(hp:p<=l.length):∃V',dR V V'/\V'.own=V.own/\V'.role=V.role/\V'.deaf=V.deaf/\E.Le {E with I:=V'.ab}/\Conc {E with I:=V'.ab} V' (H.set id (.part p l el))/\
  ap {E with I:=V'.ab} (.rp (l.take p)) (.pointer (some ⟨E.blk id,0,none⟩)):=by
 obtain⟨⟨cs,h1,h2⟩,h3⟩:=h.obj id _ hk;let V':=V.eM (E.blk id) cs λo=>decide (o<p);have lj:∀b o,b≠E.blk id->V'.ab b o=V.ab b o:=λb o hb=>by simp[V',View.eM,hb]
 have cK:∀o,o<p->V'.ab (E.blk id) o=cs[o]?:=λo ho=>by simp[V',View.eM,ho]
 have akU:∀o,p<=o->V'.ab (E.blk id) o=none:=λo ho=>by simp[V',View.eM,Nat.not_lt.2 ho,h3]
 have hle:E.Le {E with I:=V'.ab}:=⟨λb o v e=>by
  rw[h.I]at e;have hb:b≠E.blk id:=λhb=>by subst hb;rw[h3]at e;cases e
  show V'.ab b o=some v;rw[lj b o hb];exact e,SQ _,λ_ _=>rfl,λ_ _=>SQ _,λ_ _ _ _=>rfl,rfl,rfl⟩
 refine⟨V',xz h1 (λo _=>h3 o),rfl,rfl,rfl,hle,?_,?_⟩
 ·refine h.iJ (E':={E with I:=V'.ab}) id (.part p l el) hle rfl (by simpa using h.n) ly rfl (λ_ _ _=>rfl) (λb y hb hy=>⟨hy,λo=>lj b o λe=>hb _ hk (by rw[e];rfl)⟩) ⟨⟨cs,h1,(h2.mono hle).p,cK⟩,akU⟩ (λb e=> .inl ⟨_,hk,e⟩)
 ·refine .rp (E.blk id) 0 (λi=>cs.getD i undef) (λi hi=> ?_) λi x hx=> ?_
  ·have cC:i<p:=(by simp at hi;omega);rw[Ws];show V'.ab (E.blk id) i=_;rw[cK i cC];have:i<cs.size:=(by have:=h2.1;omega);simp[SH,SJ this]
  ·rw[Ue]at hx;split at hx
   ·exact(h2.2 i x hx).mono hle
   ·cases hx
theorem Conc.amy{E:Env}{V V':View}{H:List aa}(h:Conc E V H)(ho:V'.own=V.own)(lj:∀b o v,V.ab b o=some v->V'.ab b o=some v)(ep:∀b o,V.own b≠none->V.ab b o=none->V'.ab b o=none)
  (hg:V'.role.group=none) (hc:V'.role.chan=none) (ht:E.main=true->V'.role=.plain/\V'.deaf=0):E.Le {E with I:=V'.ab}/\Conc {E with I:=V'.ab} V' H:=by
 have hle:E.Le {E with I:=V'.ab}:=⟨λb o v e=>by rw[h.I]at e;exact lj b o v e,SQ _,λ_ _=>rfl,λ_ _=>SQ _,λ_ _ _ _=>rfl,rfl,rfl⟩;have hlt:∀(k:Nat) y,H[k]?=some y->k<E.n:=λk y e=>by rw[h.n];exact(SL.1 e).1
 have key:∀b o,V.own b≠none->V'.ab b o=V.ab b o:=λb o hb=>by
  cases e:V.ab b o with
  |none=>exact ep b o hb e
  |some v=>exact lj b o v e
 refine⟨hle,rfl,h.n,λk x e=>(h.obj k x e).mono hle (hlt k x e) rfl (λb y _ hy=>by rw[ho];exact hy) (λb hb o=> ?_),h.inj,λg e=>(by rw[hg]at e;cases e),λg e=>(by rw[hc]at e;cases e),ht,λb y e=> ?_⟩
 ·obtain⟨y,hy⟩:=(h.obj k x e).BL hb;exact key b o (by rw[hy];simp)
 ·obtain⟨q1,q2,q3⟩:=h.fr b y e;exact⟨by rw[ho];exact q1,λo=>by rw[key b o (by rw[q1];simp)];exact q2 o,q3⟩
section
variable {lv:Bool}{P:SI}{nt id:Nat}{ops:Array Tu}{s:AS}{E:Env}{V:View}{a:Act}{Q:Ex->Act->View->Prop}{K:AS->Prop}
theorem HJ(n m:Nat)(hn:ops.size=n+m)(dp:jX nt ops=true)(ah:At E V s a nt)(h:iy lv P ops (ops.toList.take n) s K (λ_ _=>False))
  (hk:∀E' V' a' s',Kept E E' V V' a a'->At E' V' s' a' nt->K s'->dl lv P none ops Q (TS n m) a' V'):WP lv P none (.region id ops false) Q a V:=by
 refine wp_region ?_;have hr:SZ ops.size=TS 0 n++TS n m:=by
  have:=Y6 (s:=0) (m:=n) (n:=m);rw[U8,hn,<- this];simp
 rw[hr];refine A4 _ _ _ (GU (r:=none) (Φ:=λe s'=>match e with
  |.normal=>K s'
  |_=>False) (λo ho d e=>(jX.out dp ho).1 d e) rfl n 0 s (by omega) (by simpa using h) E V a _ ah λae e E' V' a' s' aJ aS he hΦ=> ?_)
 cases ae<;>cases e<;>first
  |exact he.elim
  |exact hΦ.elim
  |exact hk E' V' a' s' aJ aS hΦ
theorem N0{n:Nat}{o:Tu}(ho:ops[n]?=some o)(hg:o.guard=none)(h:vG lv P o a V λa' V'=>Q .normal a' V'):dl lv P none ops Q (TS n 1) a V:=by
 simp only[List.range'_one,dl,ho];rw[if_pos (by unfold Tg;rw[hg])];exact .inr h
end
section
variable {lv main:Bool}{P:SI}{J:View->SG->Prop}
theorem adp(C:Closed lv P main J){V:View}{fr:Ua}{cs:List Ua}{g:TO}{ca aE:Array SP}{ds:List UY}(hd:fr.defers=⟨.fn (.func g) ca,aE⟩::ds)(hm:(fr.mode matches .run)=false)(hg:qM P g=true)
  (h:J V (G (Frame.enter P g (aE++ca) .deferred) ({fr with defers:=ds}::cs))):J V (G fr cs):=by
 refine C.step _ _ rfl λw hw=> ?_;have hs:aO P V (invoke (.fn (.func g) ca) aE) (λnx V'=>nx=.enter g (aE++ca)/\V'=V) (λ_ _=>False):=by
  unfold invoke;exact Np hg ⟨rfl,rfl⟩
 obtain⟨es,w',V',k1,k2,k3⟩:=hs.runs hw;rcases k3 with⟨nx,k3,rfl,rfl⟩|⟨_,_,h⟩
 ·refine⟨G (Frame.enter P g (aE++ca) .deferred) ({fr with defers:=ds}::cs),w',seen P fr.fn es,V',?_,k1.seen P fr.fn,h⟩;have e:stepG P main (G fr cs) w=unwind P main fr cs none w:=by
   obtain⟨fn,tmps,todo,defers,mode,kind,ro⟩:=fr;cases mode with
   |run=>cases hm
   |returning=>simp[G,stepG]
   |panicking ch=>simp[G,stepG]
  rw[e];simp only[unwind,hd];simp[callDeferred,TB,k3,k2,T1,G]
 ·exact h.elim
theorem ahf(C:Closed lv P main J){f:TO}{fn:YB}{c:T4}{args:Array SP}{kd:Xc}{V:View}{cs:List Ua}{Q:Act->View->Prop}(hk:kd≠ .early)(hf:P.funcs[f]?=some fn)(hb:fn.body=some c)
  (h:WP lv P none c (λe a V=>(match e with|.normal|.ret=>True|_=>False)/\Q a V) {tmps:=args++TL (fn.ntmps-args.size) undef,defers:=[]} V)
  (hQ:∀a V todo,Q a V->J V (G {fn:=f,tmps:=a.tmps,todo,defers:=a.defers,mode:=.returning,kind:=kd,roundOf:=none} cs)):J V (G (Frame.enter P f args kd) cs):=by
 let b:Ua:={(default:Ua)with fn:=f,kind:=kd,roundOf:=none};have uF:Frame.enter P f args kd=on b {tmps:=args++TL (fn.ntmps-args.size) undef,defers:=[]} [.code c]:=by
  simp[Frame.enter,on,hf,hb,b]
 rw[uF];refine h main J C b [] cs hk rfl λe a' V' q=> ?_;cases e with
 |normal=>exact C.idle rfl (λw=>DI rfl) (hQ a' V' [] q.2)
 |ret=>intro k;exact C.idle rfl (λw=>DJ rfl) (hQ a' V' (.code .ret::k) q.2)
 |panic ch=>exact q.1.elim
 |exit id=>exact q.1.elim
 |goto l=>exact q.1.elim
end
def Env.fj (E:Env)(m:Bool):Env:={E with main:=m}
theorem ap.fj{E:Env}{a:AV}{v:SP}(h:ap E a v)(m:Bool):ap (E.fj m) a v:=by
 induction h with
 |val x=>exact .val x
 |agg hs _ ih=>exact .agg hs ih
 |aL hs _ ih=>exact .aL hs ih
 |sl b o cap g hc he h1 _ ih=>exact .sl b o cap g hc (by cases ko:‹End›<;>(subst ko;exact he)) h1 ih
 |nil he=>exact .nil (by cases ko:‹End›<;>(subst ko;exact he))
 |bw hi dO=>exact .bw (E:=E.fj m) hi dO
 |rp b o g h1 _ ih=>exact .rp b o g h1 ih
 |op hi=>exact .op (E:=E.fj m) hi
 |fn dP fW _ _ mP lx=>exact .fn dP fW mP lx
 |c9 _ ih=>exact .c9 ih
 |mp hi=>exact .mp (E:=E.fj m) hi
theorem cJ.fj{E:Env}{l:List AV}{cs:Array SP}(h:cJ E l cs)(m:Bool):cJ (E.fj m) l cs:=⟨h.1,λi a e=>(h.2 i a e).fj m⟩
theorem j6.fj{E:Env}{l:List AV}{cs:Array SP}(h:j6 E l cs)(m:Bool):j6 (E.fj m) l cs:=⟨h.1,λi a e=>(h.2 i a e).fj m⟩
theorem cj.fj{E:Env}{T:List (Nat×AV)}{tmps:Array SP}(h:cj E T tmps)(m:Bool):cj (E.fj m) T tmps:=λt a e=>⟨(h t a e).1,(h t a e).2.fj m⟩
theorem vO(E:Env)(m:Bool)(k:Nat)(x:aa):bL (E.fj m) k x=bL E k x:=by cases x<;>rfl
theorem fN.fj{E:Env}{V:View}{k:Nat}{x:aa}(h:fN E V k x)(m:Bool)(hm:x=.main->m=true):fN (E.fj m) V k x:=by
 cases x with
 |cells l el=>obtain⟨⟨cs,h1,h2⟩,h3⟩:=h;exact⟨⟨cs,h1,h2.fj m⟩,h3⟩
 |part p l el=>obtain⟨⟨cs,h1,h2,h4⟩,h3⟩:=h;exact⟨⟨cs,h1,h2.fj m,h4⟩,h3⟩
 |own sz l el=>obtain⟨⟨cs,h1,h2,h4⟩,h3⟩:=h;exact⟨⟨cs,h1,h2.fj m,h4⟩,h3⟩
 |tail n sz el=>exact h
 |obj x=>exact h
 |iter=>exact h
 |loop=>obtain⟨⟨tmps,h1,h2,h3⟩,h4,h5⟩:=h;exact⟨⟨tmps,h1,h2,h3.fj m⟩,h4,h5⟩
 |gone=>trivial
 |main=>exact hm rfl
def strip:aa->aa
 |.main=> .gone
 |x=>x
theorem um(E:Env)(k:Nat)(x:aa):bL E k (strip x)=bL E k x:=by cases x<;>rfl
theorem Conc.agG{E:Env}{V:View}{H:List aa}(h:Conc E V H):Conc (E.fj false) V (H.map strip):=by
 have get:∀(k:Nat) y,(H.map strip)[k]?=some y->∃x,H[k]?=some x/\strip x=y:=λk y e=>by
  rw[To]at e;obtain⟨x,e1,e2⟩:=Tq.1 e;exact⟨x,e1,e2⟩
 refine⟨h.I,by rw[Tn];exact h.n,λk y e=> ?_,λi j x y b h1 h2 h3 h4=> ?_,λg hg=> ?_,λg hg=> ?_,(λe=>by cases e),λb y e=> ?_⟩
 ·obtain⟨x,hx,rfl⟩:=get k y e;have lO:=h.obj k x hx;cases x<;>first
   |exact fN.fj lO false (λe=>by cases e)
   |exact True.intro
 ·obtain⟨x',hx,rfl⟩:=get i x h1;obtain⟨y',hy,rfl⟩:=get j y h2;rw[vO,um]at h3 h4;exact h.inj i j x' y' b hx hy h3 h4
 ·obtain⟨a,b,c⟩:=h.group g hg;exact⟨a,b,λk y e=>by obtain⟨x,hx,rfl⟩:=get k y e;rw[vO,um];exact c k x hx⟩
 ·obtain⟨a,b,c⟩:=h.chan g hg;exact⟨a,b,λk y e=>by obtain⟨x,hx,rfl⟩:=get k y e;rw[vO,um];exact c k x hx⟩
 ·obtain⟨a,b',c⟩:=h.fr b y e;exact⟨a,b',λk y e=>by obtain⟨x,hx,rfl⟩:=get k y e;rw[vO,um];exact c k x hx⟩
theorem Conc.apo{E:Env}{V:View}{H:List aa}(h:Conc E V (H.map strip))(m:Bool)(f:Nat->Option Obj)(hm:∀(k:Nat),H[k]?=some aa.main->m=true)(ht:m=true->V.role=.plain/\V.deaf=0)(hf:∀b y,f b=some y->E.fr b=some y):Conc ((E.fj m).frame f) V H:=by
 have get:∀(k:Nat) x,H[k]?=some x->(H.map strip)[k]?=some (strip x):=λk x e=>by rw[To,e];rfl
 refine⟨h.I,h.n.trans (by rw[Tn]),λk x e=>fN.frame ?_ f,λi j x y b h1 h2 h3 h4=> ?_,λg hg=> ?_,λg hg=> ?_,ht,λb y e=> ?_⟩
 ·have lO:=h.obj k _ (get k x e);cases x<;>first
   |exact fN.fj lO m (λe=>by cases e)
   |exact hm k e
 ·rw[vN,vO]at h3 h4;exact h.inj i j _ _ b (get i x h1) (get j y h2) (by rw[um];exact h3) (by rw[um];exact h4)
 ·obtain⟨a,b,c⟩:=h.group g hg;exact⟨a,b,λk x e=>by rw[vN,vO,<- um];exact c k _ (get k x e)⟩
 ·obtain⟨a,b,c⟩:=h.chan g hg;exact⟨a,b,λk x e=>by rw[vN,vO,<- um];exact c k _ (get k x e)⟩
 ·obtain⟨a,b',c⟩:=h.fr b y (hf b y e);exact⟨a,b',λk x e=>by rw[vN,vO,<- um];exact c k _ (get k x e)⟩
section
variable {lv:Bool}{P:SI}{nt id:Nat}{ops:Array Tu}{s:AS}{E:Env}{V:View}{a:Act}{Q:Ex->Act->View->Prop}{N:Act->View->Prop}{o:Tu}
theorem ady(ho:ops[0]?=some o)(hg:o.guard=none)(h:Bn lv P none o a V (dl lv P none ops Q (TS 1 (ops.size-1))) Q):WP lv P none (.region id ops false) Q a V:=by
 refine wp_region ?_;have aV:0<ops.size:=(SS.1 ho).1;have Li:SZ ops.size=0::TS 1 (ops.size-1):=by
  rw[U8];obtain⟨n,hn⟩:∃n,ops.size=n+1:=⟨ops.size-1,by omega⟩;rw[hn,VU];rfl
 rw[Li];simp only[dl,ho];rw[if_pos (by unfold Tg;rw[hg])];exact h
theorem asj{k n:Nat}(ho:ops[k]?=some o)(hg:o.guard=none)(h:Bn lv P none o a V (dl lv P none ops Q (TS (k+1) n)) Q):dl lv P none ops Q (TS k (n+1)) a V:=by
 rw[VU];simp only[dl,ho];rw[if_pos (by unfold Tg;rw[hg])];exact h
theorem asl{k:Nat}(h:Q .normal a V):dl lv P none ops Q (TS k 0) a V:=h
theorem N1{k n:Nat}(s3:AS)(hk:k+n=ops.size)(dp:jX nt ops=true)(ah:At E V s a nt)(h:iy lv P ops (ops.toList.drop k) s (λs'=>s'.Sub s3) (λ_ _=>False))(hQ:∀E' V' a',Kept E E' V V' a a'->At E' V' s3 a' nt->Q .normal a' V'):dl lv P none ops Q (TS k n) a V:=by
 refine AC (r:=none) (Φ:=λe s'=>match e with
  |.normal=>s'.Sub s3
  |_=>False) (λo ho d e=>(jX.out dp ho).1 d e) (λ_ _=> .inl rfl) n k s hk h E V a Q ah λae e E' V' a' s' aJ aS he hΦ=> ?_
 cases ae<;>cases e<;>first
  |exact he.elim
  |exact hΦ.elim
  |exact hQ E' V' a' aJ (aS.sub hΦ)
theorem anV{c:Xo}{f:TO}(ay:o.op=.call c)(aY:c.callee=.value (.func f))(hf:qM P f=true)(h:Body lv P f (c.args.map a.eval) .normal V (fun
  |.ret v,V'=>N (a.put o.dst v) V'
  |.panic _,_=>False)):Bn lv P none o a V N Q:=by
 refine .inl ⟨.inl rfl,?_⟩;unfold execOp;rw[ay];dsimp only;unfold resolve;rw[aY];dsimp only;have e:a.eval (.func f)=.func (.func f) #[] #[]:=rfl;rw[e];unfold U4;refine az (aq ?_);unfold invoke;dsimp only;refine Np hf ?_;have e2:#[]++c.args.map a.eval++#[]=c.args.map a.eval:=by simp
 rw[e2];exact h.mono λo V' hx=>by
  cases o with
  |ret v=>exact hx
  |panic ch=>exact hx.elim
theorem anW{t el:TypeId}{d:ChanDir}{i:Wj}(ay:o.op=.makeChan t (.const (.int .i64 0)))(h1:P.underlying t=some (.chan d el))(h2:P.info? el=some i)(h:∀c,V.fresh c->N (a.put o.dst (.chan (some c))) (V.upd c (.chan 0 #[] false 0 0 false))):Bn lv P none o a V N Q:=by
 refine .inl ⟨.inl rfl,?_⟩;unfold execOp;rw[ay];dsimp only;have e:a.eval (.const (.int .i64 0))=.int .i64 0:=rfl;rw[e];unfold Instr.makeChan;refine az (az ?_);unfold asInt;refine aq ?_;refine ec h1 ?_;dsimp only;refine yE h2 ?_;rw[if_neg (by simp[IntKind.max,at0,ats])];refine az ?_;unfold newObj;exact oJ λc hf=>cI (aq (aq (h c hf)))
end
theorem asi{lv:Bool}{P:SI}{r:Option Nat}{code:T4}{Q:Ex->Act->View->Prop}{a:Act}{V:View}{c Wg:Nat}(tp:lv=true)(hr:V.role=.plain)(aH:c≠Wg)(hc:V.own c=some (.chan 0 #[] false 0 0 false)) (hW:V.own Wg≠none) (oq:∀o,V.ab Wg o=none)
  (h:WP lv P r code Q a {V with role:=.fork c Wg []}):WP lv P r code Q a V:=λmain J C b k cs hb b8 hL=>
 (C.more tp).start _ _ c Wg hr aH hc hW oq (h main J C b k cs hb b8 hL)
structure Env.Lo (E E':Env):Prop where
 I:∀b o v,E.I b o=some v->E'.I b o=some v
 n:E.n<=E'.n
 blk:∀k,k<E.n->E'.blk k=E.blk k
 fA:∀k,k<E.n->E.fA k<=E'.fA k
 room:∀k v,k<E.n->v<=E.fA k->E'.room k v=E.room k v
theorem Env.Le.lo{E E':Env}(h:E.Le E'):E.Lo E':=⟨h.I,h.n,h.blk,h.fA,h.room⟩
theorem Env.Lo.refl(E:Env):E.Lo E:=(Env.Le.refl E).lo
theorem Env.Lo.trans{E E' bP:Env}(h:E.Lo E')(k:E'.Lo bP):E.Lo bP:=
 ⟨λb o v e=>k.I b o v (h.I b o v e),UM h.n k.n,λi hi=>(k.blk i (Td hi h.n)).trans (h.blk i hi),λi hi=>UM (h.fA i hi) (k.fA i (Td hi h.n)),
  λi v hi hv=>(k.room i v (Td hi h.n) (UM hv (h.fA i hi))).trans (h.room i v hi hv)⟩
theorem Env.Lo.le{E E':Env}(h:E.Lo E'):E.Le ((E'.fj E.main).frame E.fr):=⟨h.I,h.n,h.blk,h.fA,h.room,rfl,rfl⟩
theorem ap.lo{E E':Env}(h:E.Lo E'){a:AV}{v:SP}(d:ap E a v):ap E' a v:=by
 have:=((d.mono h.le).fj E'.main).frame E'.fr;exact this
theorem Env.GA(E:Env)(f:Nat->Option Obj):E.Lo (E.frame f):=⟨λ_ _ _ h=>h,SQ _,λ_ _=>rfl,λ_ _=>SQ _,λ_ _ _ _=>rfl⟩
theorem Env.amQ(E:Env)(m:Bool):E.Lo (E.fj m):=⟨λ_ _ _ h=>h,SQ _,λ_ _=>rfl,λ_ _=>SQ _,λ_ _ _ _=>rfl⟩
theorem Env.Lo.cut{E E':Env}(h:E.Lo E'){n:Nat}(hn:E.n<=n):E.Lo {E' with n:=n}:=⟨h.I,hn,h.blk,h.fA,h.room⟩
def Env.bare (E:Env):Env:=((({E with n:=0}:Env).fj false).frame λ_=>none)
theorem ap.bare{E:Env}{a:AV}{v:SP}(h:ap E a v)(hl:Lt 0 a):ap E.bare a v:=((h.trim hl).fj false).frame _
theorem agv{E:Env}{I:cw}{ro:mY}(hI:E.I=I)(hg:ro.group=none)(hc:ro.chan=none):Conc E.bare {ab:=I,own:=λ_=>none,deaf:=0,role:=ro} []:=
 ⟨hI,rfl,λk x e=>(by cases e),λi j x y b h1=>(by cases h1),λg e=>(by rw[hg]at e;cases e),λg e=>(by rw[hc]at e;cases e),λe=>(by cases e),λb y e=>(by cases e)⟩
theorem At.ar5{E:Env}{V:View}{s:AS}{a:Act}{nt t id off:Nat}(h:At E V s a nt)(hl:look s.T t=some (.op id off)):a.eval (.tmp t)=.pointer (some ⟨E.blk id,off,none⟩):=by
 have hd:=(h.tok t _ hl).2;show a.tmps.getD t undef=_;generalize a.tmps.getD t undef=v at hd;cases hd;rfl
section
variable {lv:Bool}{P:SI}{s:AS}{ms:List Nat}{nt:Nat}
def an.pY (id:Nat)(Φ:an->AS->List Nat->Prop):an->AS->List Nat->Prop
 |.exit i,s,ms=>if i=id then Φ .normal s ms else Φ (.exit i) s ms
 |e,s,ms=>Φ e s ms
theorem afv{id:Nat}{c:T4}{Φ:an->AS->List Nat->Prop}(h:mC lv P nt c s ms (an.pY id Φ)):mC lv P nt (.block id c) s ms Φ:=by
 intro E V a Q ah hd hQ;refine wp_block (h E V a _ ah hd λae e E' V' a' s' cD hk aS cz he hΦ=> ?_);cases ae<;>cases e<;>first
  |exact he.elim
  |skip
 ·exact hQ .normal .normal E' V' a' s' cD hk aS cz trivial hΦ
 ·rename_i i j;have e:i=j:=he;subst e;by_cases bT:i=id
  ·simp only[Ex.inBlock,bT,if_true];simp only[an.pY,bT,if_true]at hΦ;exact hQ .normal _ E' V' a' s' cD hk aS cz trivial hΦ
  ·simp only[Ex.inBlock,bT,if_false];simp only[an.pY,bT,if_false]at hΦ;exact hQ (.exit i) _ E' V' a' s' cD hk aS cz rfl hΦ
 ·exact hQ _ _ E' V' a' s' cD hk aS cz he hΦ
 ·exact hQ _ _ E' V' a' s' cD hk aS cz he hΦ
 ·exact hQ _ _ E' V' a' s' cD hk aS cz he hΦ
def an.vu (Φ:an->AS->List Nat->Prop):an->AS->List Nat->Prop
 |.goto _,_,_=>False
 |e,s,ms=>Φ e s ms
theorem afy{c:T4}{Φ:an->AS->List Nat->Prop}(h:mC lv P nt c s ms (an.vu Φ)):mC lv P nt (.scope c) s ms Φ:=by
 intro E V a Q ah hd hQ;refine adz (λ_ _ _ _=>False) ⟨0,h E V a _ ah hd λae e E' V' a' s' cD hk aS cz he hΦ=> ?_⟩ λ_ _ _ _ _ _ hf=>hf.elim;cases ae<;>cases e<;>first
  |exact he.elim
  |exact hΦ.elim
  |exact hQ _ _ E' V' a' s' cD hk aS cz he hΦ
theorem afR(id:Nat)(Φ:an->AS->List Nat->Prop)(s:AS)(ms:List Nat):an.pY id Φ .normal s ms=Φ .normal s ms:=by rw[an.pY];simp
theorem aqM(Φ:an->AS->List Nat->Prop)(s:AS)(ms:List Nat):an.vu Φ .normal s ms=Φ .normal s ms:=by rw[an.vu];simp
theorem aqO(Φ:an->AS->List Nat->Prop)(s:AS)(ms:List Nat):an.vu Φ .ret s ms=Φ .ret s ms:=by rw[an.vu];simp
theorem art(K:AS->List Nat->Prop)(Φ:an->AS->List Nat->Prop)(s:AS)(ms:List Nat):an.si K Φ .normal s ms=K s ms:=by rw[an.si]
theorem arv(K:AS->List Nat->Prop)(Φ:an->AS->List Nat->Prop)(s:AS)(ms:List Nat):an.si K Φ .ret s ms=Φ .ret s ms:=by rw[an.si];simp
@[congr] theorem as4 {c : T4} {s s' : AS} {ms cD : List Nat} {Φ : an -> AS -> List Nat -> Prop} (h : s = s') (hd : ms = cD) : mC lv P nt c s ms Φ = mC lv P nt c s' cD Φ := by rw [h, hd]
@[congr] theorem atU {K : AS -> List Nat -> Prop} {Φ : an -> AS -> List Nat -> Prop} {e e' : an} {s s' : AS} {ms cD : List Nat} (he : e = e') (h : s = s') (hd : ms = cD) : an.si K Φ e s ms = an.si K Φ e' s' cD := by rw [he, h, hd]
@[congr] theorem atQ {Φ : an -> AS -> List Nat -> Prop} {e e' : an} {s s' : AS} {ms cD : List Nat} (he : e = e') (h : s = s') (hd : ms = cD) : an.vu Φ e s ms = an.vu Φ e' s' cD := by rw [he, h, hd]
@[congr] theorem ati {rs : List UO} {n : Nat} {k kp : AV -> List aa -> Prop} {e e' : an} {s s' : AS} {ms cD : List Nat} (he : e = e') (h : s = s') (hd : ms = cD) : sB P rs n k kp e s ms = sB P rs n k kp e' s' cD := by rw [he, h, hd]
theorem ai2(rs:List UO)(n:Nat)(k kp:AV->List aa->Prop)(s:AS)(ms:List Nat):sB P rs n k kp .ret s ms=ao (iN ms s.H) λH'=>ao (gY P ⟨s.T,H'⟩ rs) λl=>cF n H' (iY l) k:=by rw[sB]
theorem zA(H:List aa):iN [] H=some H:=by rw[iN]
theorem zy{i:Nat}{ms:List Nat}{H:List aa}(h:H[i]?=some (.obj (.deferred (some [])))):iN (i::ms) H=iN ms (H.set i .gone):=by rw[iN];rw[h]
attribute [seval] afR aqM aqO art arv ai2 zA
end
section
variable {lv:Bool}{P:SI}{r:Option Nat}{s:AS}
theorem Pv{E:Env}{I:cw}(hI:∀b o v,E.I b o=some v->I b o=some v){n:Nat}{l:List AV}{v:SP}(h:ap E (.sl n l .exact) v):∃a,ap (E.tok I (a,n) n) (.sl n l (.opn E.n)) v:=by
 cases h with
 |sl b o cap f dO he q1 q2=>
  have FC:cap=n:=he;subst FC;refine⟨some ⟨b,o,none⟩,?_⟩;have hle:=E.Mo (I:=I) hI (some ⟨b,o,none⟩,cap) cap;exact .sl b o cap f dO ⟨by simp[Env.tok],by simp[Env.tok],by simp[Env.tok]⟩ (λi hi=>hle.I _ _ _ (q1 i hi)) (λi x hx=>(q2 i x hx).mono hle)
 |nil he=>exact⟨_,.nil ⟨by simp[Env.tok],by simp[Env.tok],by simp[Env.tok];rfl⟩⟩
theorem sK{nt t n sz:Nat}{c:T4}{l:List AV}{el:TypeId}{Φ:an->AS->Prop}(ht:look s.T t=some (.sl n l .exact))(h:aP lv P r nt c ⟨(t,.sl n l (.opn s.H.length))::s.T,s.H++[.tail n sz el]⟩ Φ):aP lv P r nt c s Φ:=λE V a Q ah hQ=>by
 obtain⟨hlt,hd⟩:=ah.tok t _ ht;obtain⟨ad,cz⟩:=Pv (I:=V.ab) (λb o v h=>by rw[<- ah.br.I];exact h) hd;obtain⟨hc,hle⟩:=ah.br.NJ (n:=n) sz el ad;refine h _ V a Q ⟨hc,λt' x hx=> ?_,ah.size⟩ λae e E' V' a' s' hk=>hQ ae e E' V' a' s' ((⟨hle,rfl,rfl,rfl,rfl⟩:Kept E _ V V a a).trans hk);simp only[look]at hx;split at hx
 ·rename_i e;subst e;cases hx;rw[<- ah.br.n];exact⟨hlt,cz⟩
 ·exact⟨(ah.tok t' x hx).1,(ah.tok t' x hx).2.mono hle⟩
theorem Pw{E:Env}{l:List AV}{cs:Array SP}{j:Nat}{a b:AV}(h:cJ E l cs)(hj:l[j]?=some a)(hb:∀v,ap E a v->ap E b v):cJ E (l.set j b) cs:=by
 refine⟨by rw[TF];exact h.1,λi x hx=> ?_⟩;by_cases e:i=j
 ·subst e;rw[W7 (SL.1 hj).1]at hx;cases hx;exact hb _ (h.2 i a hj)
 ·rw[T6 (Ne.symm e)]at hx;exact h.2 i x hx
theorem afq{nt id j n sz:Nat}{c:T4}{l l':List AV}{el gR:TypeId}{Φ:an->AS->Prop}(bT:s.H[id]?=some (.cells l el))(hj:l[j]?=some (.sl n l' .exact))(h:aP lv P r nt c ⟨s.T,s.H.set id (.cells (l.set j (.sl n l' (.opn s.H.length))) el)++[aa.tail n sz gR]⟩ Φ):aP lv P r nt c s Φ:=λE V a Q ah hQ=>by
 have hc:=ah.br;obtain⟨⟨cs,ep,hd⟩,lj⟩:=hc.obj id _ bT;obtain⟨ad,cz⟩:=Pv (I:=V.ab) (λb o v h=>by rw[<- hc.I];exact h) (hd.2 j _ hj);obtain⟨bm,hle⟩:=hc.NJ (n:=n) sz gR ad;have hlt:=(SL.1 bT).1;have hn:(E.tok V.ab (ad,n) n).n=s.H.length+1:=by simp[Env.tok,hc.n]
 have e:s.H.set id (.cells (l.set j (.sl n l' (.opn s.H.length))) el)++[aa.tail n sz gR]=(s.H++[aa.tail n sz gR]).set id (.cells (l.set j (.sl n l' (.opn s.H.length))) el):=(US _ _ hlt).symm;rw[e]at h;have FG:cJ (E.tok V.ab (ad,n) n) (l.set j (.sl n l' (.opn s.H.length))) cs:=by
  have h0:=hd.mono hle;refine⟨by rw[TF];exact h0.1,λi x hx=> ?_⟩;by_cases ei:i=j
  ·subst ei;rw[W7 (SL.1 hj).1]at hx;cases hx;rw[<- hc.n];exact cz
  ·rw[T6 (Ne.symm ei)]at hx;exact h0.2 i x hx
 have hb:(E.tok V.ab (ad,n) n).blk id=E.blk id:=hle.blk id (by rw[hc.n];exact hlt);have ce:Conc (E.tok V.ab (ad,n) n) V ((s.H++[aa.tail n sz gR]).set id (.cells (l.set j (.sl n l' (.opn s.H.length))) el)):=by
  have cZ:(s.H++[aa.tail n sz gR])[id]?=some (.cells l el):=by rw[SW hlt];exact bT
  refine bm.iJ id _ (Env.Le.refl _) bm.I (by rw[bm.n,TF]) ly rfl (λ_ _ _=>rfl) (λb y _ hy=>⟨hy,λ_=>rfl⟩) ⟨⟨cs,by rw[hb];exact ep,FG⟩,λo=>by rw[hb];exact lj o⟩ (λb dD=> .inl ⟨_,cZ,dD⟩)
 refine h _ V a Q ⟨ce,ah.tok.mono hle,ah.size⟩ λae e E' V' a' s' hk=>hQ ae e E' V' a' s' ((⟨hle,rfl,rfl,rfl,rfl⟩:Kept E _ V V a a).trans hk)
theorem afs{nt id j:Nat}{c:T4}{l:List AV}{x y:AV}{el:TypeId}{Φ:an->AS->Prop}(bT:s.H[id]?=some (.cells l el))(hj:l[j]?=some x)(hw:Wk x y)(h:aP lv P r nt c ⟨s.T,s.H.set id (.cells (l.set j y) el)⟩ Φ):aP lv P r nt c s Φ:=λE V a Q ah hQ=>by
 have hc:=ah.br;obtain⟨⟨cs,ep,hd⟩,lj⟩:=hc.obj id _ bT;have ce:Conc E V (s.H.set id (.cells (l.set j y) el)):=
  hc.iJ id _ (Env.Le.refl _) hc.I (by rw[hc.n,TF]) ly rfl (λ_ _ _=>rfl) (λb y _ hy=>⟨hy,λ_=>rfl⟩) ⟨⟨cs,ep,Pw hd hj (hw E)⟩,lj⟩ (λb dD=> .inl ⟨_,bT,dD⟩)
 exact h E V a Q ⟨ce,ah.tok,ah.size⟩ hQ
end
structure w5 (X Y Z:Prop):Type where
 n:Nat
def UG (a:AV)(bY:Bool)(X Y Z:Prop)(_t:w5 X Y Z):Prop:=(∃b,a=.val (.bool b)/\(b=bY->X)/\(b= !bY->Y))\/(a=.val undef/\Z)
theorem HB{b bY:Bool}{X Y Z:Prop}{t:w5 X Y Z}:UG (.val (.bool b)) bY X Y Z t=((b=bY->X)/\(b= !bY->Y)):=by
 unfold UG;refine propext ⟨λh=> ?_,λh=> .inl ⟨b,rfl,h⟩⟩;rcases h with⟨b',e,h⟩|⟨e,_⟩
 ·cases e;exact h
 ·cases e
theorem arZ(X Y Z:Prop)(t:w5 X Y Z):UG (.val (.bool true)) true X Y Z t=X:=by rw[HB];simp
theorem arY(X Y Z:Prop)(t:w5 X Y Z):UG (.val (.bool true)) false X Y Z t=Y:=by rw[HB];simp
theorem arX(X Y Z:Prop)(t:w5 X Y Z):UG (.val (.bool false)) true X Y Z t=Y:=by rw[HB];simp
theorem arW(X Y Z:Prop)(t:w5 X Y Z):UG (.val (.bool false)) false X Y Z t=X:=by rw[HB];simp
theorem ar0(bY:Bool)(X Y Z:Prop)(t:w5 X Y Z):UG (.val undef) bY X Y Z t=Z:=by
 unfold UG;refine propext ⟨λh=> ?_,λh=> .inr ⟨rfl,h⟩⟩;rcases h with⟨b',e,_⟩|⟨_,h⟩
 ·cases e
 ·exact h
section
variable (lv:Bool)(P:SI)
def n4 (all:Array Tu):List Tu->AS->(AS->Prop)->(AV->AS->Prop)->Prop
 |[],s,next,_=>next s
 |o::rest,s,next,bad=>match o.guard with
  |none=>mB lv P s o (λs'=>n4 all rest s' next bad) bad
  |some (j,bY)=>ao ((all[j]?).bind (·.dst)) λd=>ao (look s.T d) λa=>UG a bY (mB lv P ⟨(d,.val (.bool bY))::s.T,s.H⟩ o (λs'=>n4 all rest s' next bad) bad) (n4 all rest ((⟨(d,.val (.bool !bY))::s.T,s.H⟩:AS).put o.dst (.val undef)) next bad) (n4 all rest (s.put o.dst (.val undef)) next bad) ⟨0⟩
end
theorem arV:type_of% @n4.eq_1:=by intros;rw[n4.eq_1]
theorem arU:type_of% @n4.eq_2:=by intros;rw[n4.eq_2]
@[congr] theorem atY {lv : Bool} {P : SI} {s s' : AS} {all : Array Tu} {l : List Tu} {next : AS -> Prop} {bad : AV -> AS -> Prop} (h : s = s') : n4 lv P all l s next bad = n4 lv P all l s' next bad := by rw [h]
attribute [seval] arV arU arZ arY arX arW ar0
section
variable {lv:Bool}{P:SI}{r:Option Nat}{s:AS}
theorem HD{nt:Nat}{all:Array Tu}{Φ:an->AS->Prop}(dp:∀o∈all,∀d,o.dst=some d->d<nt)(nA:∀o∈all,r=none\/mo o.op=false):∀(n k:Nat)(s:AS),k+n=all.size->n4 lv P all (all.toList.drop k) s (Φ .normal) (λpv s=>Φ (.panic pv) s)->
  ∀(E:Env)(V:View)(a:Act)(Q:Ex->Act->View->Prop),At E V s a nt->(∀ae e E' V' a' s',Kept E E' V V' a a'->At E' V' s' a' nt->pN E' ae e->Φ ae s'->Q e a' V')->dl lv P r all Q (TS k n) a V
 |0,k,s,hk,h,E,V,a,Q,ah,hQ=>by
  have:all.toList.drop k=[]:=by simp;omega
  rw[this]at h;exact hQ .normal .normal E V a s (Kept.refl E V a) ah trivial h
 |n+1,k,s,hk,h,E,V,a,Q,ah,hQ=>by
  have hlt:k<all.size:=by omega
  have hd:all.toList.drop k=all[k]::all.toList.drop (k+1):=by
   rw[TQ (by simpa using hlt)];simp
  rw[hd]at h;have fG:all[k]∈all:=XR hlt;have ho:all[k]?=some all[k]:=SJ hlt;simp only[VU,dl,ho];have go:∀s:AS,At E V s a nt->mB lv P s all[k] (λs'=>n4 lv P all (all.toList.drop (k+1)) s' (Φ .normal) (λpv s=>Φ (.panic pv) s)) (λpv s=>Φ (.panic pv) s)->w6 lv P r all[k] a V (dl lv P r all Q (TS (k+1) n)) Q:=λs ah h=>by
   refine h.sound (lv:=lv) (r:=r) E V a _ Q ah.br ah.tok (λd e=>by rw[ah.size];exact dp _ fG d e) (nA _ fG) (λE' V' a' s' aJ bm ml hn=> ?_) (λE' V' s' pv v aJ bm ml bp hb=> ?_)
   ·exact HD dp nA n (k+1) s' (by omega) hn E' V' a' Q ⟨bm,ml,aJ.size.trans ah.size⟩ (λae e bP aR cm dj fU dh he hΦ=>hQ ae e bP aR cm dj (aJ.trans fU) dh he hΦ)
   ·exact hQ (.panic pv) (.panic _) E' V' a s' aJ ⟨bm,ml,ah.size⟩ ⟨v,rfl,bp⟩ hb
  simp only[n4]at h;split at h
  ·rename_i hg;have hw:Tg all[k] (yielded all a.tmps)=true:=(by unfold Tg;rw[hg]);rw[if_pos hw];exact .inl (go s ah h)
  ·rename_i j bY hg;obtain⟨d,gn,h⟩:=h.out;obtain⟨av,h1,h⟩:=h.out;rcases h with⟨b,rfl,h2,h3⟩|⟨rfl,h3⟩
   case inr=>
    have hv:=(ah.tok d _ h1).2;have hy:yielded all a.tmps j≠some bY:=by
     obtain⟨oj,kJ,jg⟩:=Te.1 gn;generalize hx:a.tmps.getD d undef=x at hv;cases hv;have mh:d<a.tmps.size:=(ah.tok d _ h1).1;rw[SH,SJ mh]at hx;simp only[S7]at hx;simp[yielded,kJ,jg,SJ mh,hx,undef]
    have hw:¬Tg all[k] (yielded all a.tmps)=true:=by
     unfold Tg;rw[hg];intro h;exact hy (by simpa using h)
    rw[if_neg hw];exact HD dp nA n (k+1) (s.put all[k].dst (.val undef)) (by omega) h3 E V (a.put all[k].dst undef) Q
     ⟨by rw[fi];exact ah.br,ah.tok.gX (λd e=>by rw[ah.size];exact dp _ fG d e) (.val undef),by rw[dX];exact ah.size⟩
     (λae e bP aR cm dj fU dh he hΦ=>hQ ae e bP aR cm dj ⟨fU.le,fU.size.trans (dX _ _ _),fU.defers.trans (put_defers _ _ _),fU.role,fU.deaf⟩ dh he hΦ)
   have hv:=(ah.tok d _ h1).2;have hy:yielded all a.tmps j=some b:=by
    obtain⟨oj,kJ,jg⟩:=Te.1 gn;generalize hx:a.tmps.getD d undef=x at hv;cases hv;have mh:d<a.tmps.size:=(ah.tok d _ h1).1;rw[SH,SJ mh]at hx;simp only[S7]at hx;simp[yielded,kJ,jg,SJ mh,hx]
   have rU:∀b',b=b'->At E V ⟨(d,.val (.bool b'))::s.T,s.H⟩ a nt:=λb' dD=>by
    subst dD;refine⟨ah.br,λt x e=> ?_,ah.size⟩;simp only[look]at e;split at e
    ·rename_i e';subst e';cases e;exact ah.tok d _ h1
    ·exact ah.tok t x e
   by_cases hb:b=bY
   ·have hw:Tg all[k] (yielded all a.tmps)=true:=(by unfold Tg;rw[hg];simp[hy,hb]);rw[if_pos hw];exact .inl (go _ (rU bY hb) (h2 hb))
   ·have hw:¬Tg all[k] (yielded all a.tmps)=true:=(by unfold Tg;rw[hg];simp[hy,hb]);rw[if_neg hw];have dD:b= !bY:=(by cases b<;>cases bY<;>simp_all);have vX:=h3 dD;have ah:=rU _ dD;exact HD dp nA n (k+1) ((⟨(d,.val (.bool !bY))::s.T,s.H⟩:AS).put all[k].dst (.val undef)) (by omega) vX E V (a.put all[k].dst undef) Q
     ⟨by rw[fi];exact ah.br,ah.tok.gX (λd e=>by rw[ah.size];exact dp _ fG d e) (.val undef),by rw[dX];exact ah.size⟩
     (λae e bP aR cm dj fU dh he hΦ=>hQ ae e bP aR cm dj ⟨fU.le,fU.size.trans (dX _ _ _),fU.defers.trans (put_defers _ _ _),fU.role,fU.deaf⟩ dh he hΦ)
theorem afn{nt id:Nat}{ops:Array Tu}{Φ:an->AS->Prop}(hd:jX nt ops=true)(h:n4 lv P ops ops.toList s (Φ .normal) (λpv s=>Φ (.panic pv) s)):aP lv P r nt (.region id ops false) s Φ:=by
 intro E V a Q ah hQ;refine wp_region ?_;rw[U8];exact HD (Φ:=Φ) (λo ho d e=>(jX.out hd ho).1 d e) (λo ho=> .inr (jX.out hd ho).2) ops.size 0 s (by omega) (by simpa using h) E V a Q ah hQ
end
section
variable (lv:Bool)(P:SI)
def sG (all:Array Tu):List Tu->AS->(AS->Prop)->Prop
 |[],s,K=>K s
 |o::rest,s,K=>match o.guard with
  |none=>AQ lv P s o λav=>sG all rest (s.put o.dst av) K
  |some (j,bY)=>ao ((all[j]?).bind (·.dst)) λd=>ao (look s.T d) λa=>UG a bY (AQ lv P ⟨(d,.val (.bool bY))::s.T,s.H⟩ o λav=>sG all rest ((⟨(d,.val (.bool bY))::s.T,s.H⟩:AS).put o.dst av) K) (sG all rest ((⟨(d,.val (.bool !bY))::s.T,s.H⟩:AS).put o.dst (.val undef)) K) (sG all rest (s.put o.dst (.val undef)) K) ⟨0⟩
end
theorem api:type_of% @sG.eq_1:=by intros;rw[sG.eq_1]
theorem aph:type_of% @sG.eq_2:=by intros;rw[sG.eq_2]
@[congr] theorem atO {lv : Bool} {P : SI} {s s' : AS} {all : Array Tu} {l l' : List Tu} {K : AS -> Prop} (hl : l = l') (h : s = s') : sG lv P all l s K = sG lv P all l' s' K := by rw [hl, h]
attribute [seval] api aph
section
variable {lv:Bool}{P:SI}{r:Option Nat}{s:AS}{ops:Array Tu}{nt p:Nat}
end
section
variable {P:SI}
def El (P:SI)(d:Nat)(t:TypeId):Prop:=(∃u,P.underlying t=some u/\y9 u=false)/\∀x y:Int,cM P (VA d t (.int .i64 x) (.int .i64 y)) (x==y)
def Em (P:SI)(d:Nat)(t:TypeId)(n:Nat):Prop:=(∃u,P.underlying t=some u/\y9 u=true)/\(∃i,P.info? t=some i/\i.size=n)/\∀xs ys:List Int,xs.length=n->ys.length=n->cM P (VA d t (.agg (xs.map (SF .i64)).toArray) (.agg (ys.map (SF .i64)).toArray)) (xs==ys)
inductive sA (P:SI)(d:Nat):Nat->List YS->Nat->Prop
 |nil (o:Nat):sA P d o [] o
 | one {o n : Nat} {f : YS} {fs : List YS} (hn : f.name ≠ "_") (ho : f.offset = o) (h : El P d f.type) (t : sA P d (o + 1) fs n) : sA P d o (f :: fs) n
 | sub {o m n : Nat} {f : YS} {fs : List YS} (hn : f.name ≠ "_") (ho : f.offset = o) (h : Em P d f.type m) (t : sA P d (o + m) fs n) : sA P d o (f :: fs) n
theorem sA.le{d o n:Nat}{fs:List YS}(h:sA P d o fs n):o<=n:=by
 induction h with
 |nil=>exact SQ _
 |one _ _ _ _ ih=>omega
 |sub _ _ _ _ ih=>omega
theorem PW(xs:List Int)(o m:Nat):(xs.map (SF .i64)).toArray.extract o (o+m)=(((xs.drop o).take m).map (SF .i64)).toArray:=by
 simp[List.extract_eq_take_drop,VX,af_]
theorem aq6 {d n N : Nat} {xs ys : List Int} {body : YS -> Option Bool × Unit -> Sem (ForInStep (Option Bool × Unit))} (hx : xs.length = N) (hy : ys.length = N) (hb : ∀ f s, body f s = (if f.name ≠ "_" then (do
   let a<- part f.type (xs.map (SF .i64)).toArray f.offset;let b<- part f.type (ys.map (SF .i64)).toArray f.offset;let r<- VA d f.type a b
   if(!r)=true then pure (.done (some false,()))else pure (.yield (none,())))else pure (.yield (none,())))):
  ∀{o:Nat}{fs:List YS},sA P d o fs n->n<=N->cM P (forIn fs (none,()) body) (if(xs.drop o).take (n-o)==(ys.drop o).take (n-o)then(none,())else(some false,())):=by
 intro o fs h hn;induction h with
 |nil o=>simpa using iH (none,())
 |@one o n f fs K0 ho h t ih=>
  have hle:=t.le;have Sl:o<xs.length:=by omega
  have Sm:o<ys.length:=by omega
  obtain⟨⟨u,hu,C1⟩,he⟩:=h;rw[WZ,hb,if_pos K0,ho];refine lB (a:=if xs[o]==ys[o]then .yield (none,())else .done (some false,())) ?_ ?_
  ·refine DX hu C1 (v:=.int .i64 xs[o]) (by simp[Sl]) ?_;refine DX hu C1 (v:=.int .i64 ys[o]) (by simp[Sm]) ?_;refine lB (he _ _) ?_;cases hq:xs[o]==ys[o]<;>exact iH _
  ·have e:((xs.drop o).take (n-o)==(ys.drop o).take (n-o))=((xs[o]==ys[o])&&((xs.drop (o+1)).take (n-(o+1))==(ys.drop (o+1)).take (n-(o+1)))):=by
    rw[TQ Sl,TQ Sm,show n-o=(n-(o+1))+1 by omega,VR,VR];rfl
   rw[e];cases hq:xs[o]==ys[o]with
   |true=>simp only[if_true,Vu];exact ih hn
   |false=>simp only[TN,if_false,YD];exact iH _
 |@sub o m n f fs K0 ho h t ih=>
  have hle:=t.le;obtain⟨⟨u,hu,C1⟩,⟨i,hi,di⟩,he⟩:=h;rw[WZ,hb,if_pos K0,ho];refine lB (a:=if(xs.drop o).take m==(ys.drop o).take m then .yield (none,())else .done (some false,())) ?_ ?_
  ·refine ac1 hu C1 hi ?_;refine ac1 hu C1 hi ?_;rw[di,PW,PW];refine lB (he _ _ (by rw[Ud,Un];omega) (by rw[Ud,Un];omega)) ?_;cases hq:(xs.drop o).take m==(ys.drop o).take m<;>exact iH _
  ·have e:((xs.drop o).take (n-o)==(ys.drop o).take (n-o))=(((xs.drop o).take m==(ys.drop o).take m)&&((xs.drop (o+m)).take (n-(o+m))==(ys.drop (o+m)).take (n-(o+m)))):=by
    have hs:∀zs:List Int,(zs.drop o).take (n-o)=(zs.drop o).take m++(zs.drop (o+m)).take (n-(o+m)):=λzs=>by
     rw[show n-o=m+(n-(o+m)) by omega,List.take_add,ak_]
    rw[hs,hs,Va,Ti,beq_iff_eq,beq_iff_eq,beq_iff_eq];exact⟨λh=>List.append_inj h (by simp[Ud,Un];omega),λh=>by rw[h.1,h.2]⟩
   rw[e];cases hq:(xs.drop o).take m==(ys.drop o).take m with
   |true=>simp only[if_true,Vu];exact ih hn
   |false=>simp only[TN,if_false,YD];exact iH _
theorem ahh{t:TypeId}{fs:Array YS}{d n:Nat}{i:Wj}(ht:P.underlying t=some (.struct fs))(hs:P.stoodInHeld t=false)(hi:P.info? t=some i)(di:i.size=n)(hf:sA P d 0 fs.toList n):Em P (d+1) t n:=by
 refine ⟨⟨_, ht, rfl⟩, ⟨i, hi, di⟩, λxs ys hx hy => ?_⟩;rw [VA];refine yI ht ?_;dsimp only;refine NF ?_;rw [hs];simp only [TN, if_false];rw [<- Array.forIn_toList];refine lB (a := if (xs == ys) then (none, ()) else (some false, ())) ?_ (by cases xs == ys <;> exact iH _);have := aq6 (body := λf (_ : Option Bool × Unit) => if f.name ≠ "_" then (do
   let a<- part f.type (xs.map (SF .i64)).toArray f.offset;let b<- part f.type (ys.map (SF .i64)).toArray f.offset;let r<- VA d f.type a b
   if(!r)=true then pure (ForInStep.done (some false,()))else pure (YU (none,())))else pure (YU (none,()))) hx hy (λf s=>rfl) hf (SQ _)
 simp only[Xy,ZW]at this;rw[SX (by omega),SX (by omega)]at this;exact this
theorem ahg{t:TypeId}{k0:TW}{d:Nat}(ht:P.underlying t=some (.int k0)):El P (d+1) t:=⟨⟨_,ht,rfl⟩,λ_ _=>acZ ht⟩
def BZ (g:TypeId->Option (Option Nat)):List YS->Nat->Option Nat
 |[],o=>some o
 | f :: fs, o => if f.name ≠ "_" /\ f.offset = o then (match g f.type with
  |some none=>BZ g fs (o+1)
  |some (some m)=>BZ g fs (o+m)
  |none=>none)else none
def xv (P:SI):Nat->TypeId->Option (Option Nat)
 |0,_=>none
 |d+1,t=>match P.underlying t with
  |some (.int _)=>some none
  |some (.struct fs)=>if P.stoodInHeld t then none else(match BZ (xv P d) fs.toList 0,P.info? t with
   |some n,some i=>if i.size=n then some (some n)else none
   |_,_=>none)
  |_=>none
theorem Jr{d n:Nat}{g:TypeId->Option (Option Nat)}(h1:∀t,g t=some none->El P d t)(h2:∀t m,g t=some (some m)->Em P d t m):∀(fs:List YS)(o:Nat),BZ g fs o=some n->sA P d o fs n
 |[],o,h=>by cases h;exact .nil _
 |f::fs,o,h=>by
  rw[BZ]at h;split at h
  ·rename_i hc;split at h
   ·rename_i hg;exact .one hc.1 hc.2 (h1 _ hg) (Jr h1 h2 fs _ h)
   ·rename_i m hg;exact .sub hc.1 hc.2 (h2 _ _ hg) (Jr h1 h2 fs _ h)
   ·cases h
  ·cases h
theorem Qh:∀(d:Nat)(t:TypeId),(xv P d t=some none->El P d t)/\∀n,xv P d t=some (some n)->Em P d t n
 |0,t=>⟨λh=>by simp[xv]at h,λn h=>by simp[xv]at h⟩
 |d+1,t=>by
  have ih:=λt=>Qh d t;rw[xv];split
  ·rename_i k0 hu;exact⟨λ_=>ahg hu,λn h=>by cases h⟩
  ·rename_i fs hu;split
   ·exact⟨λh=>(by cases h),λn h=>by cases h⟩
   ·rename_i hs;split
    ·rename_i n i hf hi;split
     ·rename_i di;refine⟨λh=>(by cases h),λm h=> ?_⟩;cases h;exact ahh hu (by simpa using hs) hi di (Jr (λt=>(ih t).1) (λt=>(ih t).2) _ _ hf)
     ·exact⟨λh=>(by cases h),λn h=>by cases h⟩
    ·exact⟨λh=>(by cases h),λn h=>by cases h⟩
  ·exact⟨λh=>(by cases h),λn h=>by cases h⟩
theorem aeu{t:TypeId}{n:Nat}{xs ys:List Int}(h:xv P 10000 t=some (some n))(hg:P.eqGuardType P.depth t=false)(hx:xs.length=n)(hy:ys.length=n)(k:AV->Prop):dH P .eql t (.agg (xs.map iv)) (.agg (ys.map iv)) k=k (bv (xs==ys)):=by
 have CX:cM P (Xn t (.agg (xs.map (SF .i64)).toArray) (.agg (ys.map (SF .i64)).toArray)) (xs==ys):=((Qh 10000 t).2 n h).2.2 xs ys hx hy;have e:dH P .eql t (.agg (xs.map iv)) (.agg (ys.map iv)) k=((XG=.eql\/XG=.neq)/\ao (AV.raw (.agg (xs.map iv))) λX=>ao (AV.raw (.agg (ys.map iv))) λY=>zo X Y=true/\P.eqGuardType P.depth t=false/\∃e,cM P (Xn t X Y) e/\k (.val (.bool (if XG== .neq then !e else e)))):=rfl;rw[e,yy,yy,AB,AB];apply propext;constructor
 ·rintro⟨_,_,_,b,h1,h2⟩
  rw[CX.uniq h1];exact h2
 ·intro h;exact⟨.inl rfl,rfl,hg,_,CX,h⟩
end
section
variable {lv:Bool}{P:SI}{s:AS}{ms:List Nat}{bs:List UY}{nt:Nat}
def ue (E:Env)(ms:List Nat)(bs l:List UY):Prop:=l=ms.map (λi=>({target:=.collected (E.blk i),args:=#[]}:UY))++bs/\∀i∈ms,i<E.n
theorem ue.mono{E E':Env}(h:E.Le E'){ms:List Nat}{bs l:List UY}(k:ue E ms bs l):ue E' ms bs l:=
 ⟨by rw[k.1];congr 1;exact VC λi hi=>by rw[h.blk i (k.2 i hi)],λi hi=>Td (k.2 i hi) h.n⟩
def kA (lv:Bool)(P:SI)(nt:Nat)(bs:List UY)(c:T4)(s:AS)(ms:List Nat)(Φ:an->AS->List Nat->Prop):Prop:=
 ∀(E:Env)(V:View)(a:Act)(Q:Ex->Act->View->Prop),At E V s a nt->ue E ms bs a.defers->(∀ae e E' V' a' s' cD,qR E E' V V' a a'->At E' V' s' a' nt->ue E' cD bs a'.defers->pN E' ae e->Φ ae s' cD->Q e a' V')->WP lv P none c Q a V
theorem EI{c:T4}{Φ:an->AS->List Nat->Prop}(h:aP lv P none nt c s λe s'=>Φ e s' ms):kA lv P nt bs c s ms Φ:=λE V a Q ah hd hQ=>
 h E V a Q ah λae e E' V' a' s' hk aS he hΦ=>hQ ae e E' V' a' s' ms hk.d aS (by rw[hk.defers];exact hd.mono hk.le) he hΦ
theorem kA.mono{c:T4}{Φ Φ':an->AS->List Nat->Prop}(h:kA lv P nt bs c s ms Φ)(hq:∀e s ms,Φ e s ms->Φ' e s ms):kA lv P nt bs c s ms Φ':=λE V a Q ah hd hQ=>
 h E V a Q ah hd λae e E' V' a' s' cD hk aS cz he hΦ=>hQ ae e E' V' a' s' cD hk aS cz he (hq _ _ _ hΦ)
theorem EJ{x y:T4}{Φ:an->AS->List Nat->Prop}(h:kA lv P nt bs x s ms (an.si (λs' cD=>kA lv P nt bs y s' cD Φ) Φ)):kA lv P nt bs (.seq x y) s ms Φ:=by
 intro E V a Q ah hd hQ;refine wp_seq (h E V a _ ah hd λae e E' V' a' s' cD hk aS cz he hΦ=> ?_);cases ae<;>cases e<;>first
  |exact he.elim
  |exact hΦ E' V' a' Q aS cz λae e bP aR cm dj Dl aJ dh zN ko tL=>hQ ae e bP aR cm dj Dl (hk.trans aJ) dh zN ko tL
  |exact hQ _ _ E' V' a' s' cD hk aS cz he hΦ
theorem sL{x y:T4}{Φ:an->AS->List Nat->Prop}(h:aP lv P none nt x s (an.then (λs'=>kA lv P nt bs y s' ms Φ) λe s'=>Φ e s' ms)):kA lv P nt bs (.seq x y) s ms Φ:=by
 refine EJ (EI (h.mono λe s' hs=> ?_));cases e<;>exact hs
theorem xf{id:Nat}{c:T4}{Φ:an->AS->List Nat->Prop}(h:kA lv P nt bs c s ms (an.pY id Φ)):kA lv P nt bs (.block id c) s ms Φ:=by
 intro E V a Q ah hd hQ;refine wp_block (h E V a _ ah hd λae e E' V' a' s' cD hk aS cz he hΦ=> ?_);cases ae<;>cases e<;>first
  |exact he.elim
  |skip
 ·exact hQ .normal .normal E' V' a' s' cD hk aS cz trivial hΦ
 ·rename_i i j;have e:i=j:=he;subst e;by_cases bT:i=id
  ·simp only[Ex.inBlock,bT,if_true];simp only[an.pY,bT,if_true]at hΦ;exact hQ .normal _ E' V' a' s' cD hk aS cz trivial hΦ
  ·simp only[Ex.inBlock,bT,if_false];simp only[an.pY,bT,if_false]at hΦ;exact hQ (.exit i) _ E' V' a' s' cD hk aS cz rfl hΦ
 ·exact hQ _ _ E' V' a' s' cD hk aS cz he hΦ
 ·exact hQ _ _ E' V' a' s' cD hk aS cz he hΦ
 ·exact hQ _ _ E' V' a' s' cD hk aS cz he hΦ
theorem OV{α:Type}{lt:α->α->Prop}(wf:WellFounded lt){c:T4}{Φ:an->AS->List Nat->Prop}(inv:α->AS)(mk:α->List Nat)(ok:α->Prop)(m:α)(h0:s.Sub (inv m))(uP:ms=mk m)(hm:ok m)
  (h:∀m,ok m->kA lv P nt bs c (inv m) (mk m) (an.si (λs' cD=>∃m',lt m' m/\ok m'/\s'.Sub (inv m')/\cD=mk m') Φ)):kA lv P nt bs (.loop c) s ms Φ:=by
 subst uP;intro E V a Q ah hd hQ;refine NZ wf (I:=λm a' V'=>ok m/\∃E',qR E E' V V' a a'/\At E' V' (inv m) a' nt/\ue E' (mk m) bs a'.defers) m ⟨hm,E,(Kept.refl E V a).d,ah.sub h0,hd⟩ λm a' V' hI=> ?_;obtain⟨au,E',hk,aS,cz⟩:=hI;refine h m au E' V' a' _ aS cz λae e bP aR cm dj Dl aJ dh zN he hΦ=> ?_;cases ae<;>cases e<;>first
  |exact he.elim
  |(obtain⟨m',h1,h2,h3,rfl⟩:=hΦ
    exact⟨m',h1,h2,bP,hk.trans aJ,dh.sub h3,zN⟩)
  |exact hQ _ _ bP aR cm dj Dl (hk.trans aJ) dh zN he hΦ
theorem afA{f:Th}{ps:Array Tmp}{bK body:T4}{fv:AV}{Φ:an->AS->List Nat->Prop}(hf:s.ev f=some fv)
  (h:∀l fn:Nat,i_ lv P fv (s.H++[.obj (.deferred (some [])),.loop l .ready none fn s.T nt ps bK body s.H.length]) [.fn (.yield l) [] []]
   (λ_ H'=>∃st pe fB T' jl gz gf fl gg,H'[s.H.length+1]?=some (.loop l st pe fB T' jl gz gf fl gg)/\st≠ .busy/\sF Φ ⟨s.T,H'.set (s.H.length+1) .gone⟩ (s.H.length::ms) pe)
   (λpv H'=>Φ (.panic pv) ⟨s.T,H'⟩ (s.H.length::ms))):kA lv P nt bs (.rangeFunc f ps bK body) s ms Φ:=by
 intro E V a Q ah hm hQ;refine adx λfn d l hd hl=> ?_;have hc:=ah.br;have dn:Conc (E.add d V.ab) (V.upd d (.deferred (some []))) (s.H++[.obj (.deferred (some []))]):=by
  refine hc.add hd _ ⟨?_,rfl,rfl,λo=> ?_⟩ (λb e=> ?_)
  ·rw[Env.dL];simp[View.upd]
  ·rw[Env.dL];exact hd.2 o
  ·simp only[bL,Env.dL,Tj]at e;exact e.symm
 have CD:E.Le (E.add d V.ab):=E.qC d (λb o v h=>by rw[<- hc.I];exact h);have Cn:(E.add d V.ab).blk s.H.length=d:=by rw[<- hc.n];exact E.dL d _
 let E1:=E.add d V.ab;let V1:=V.upd d (.deferred (some []));have pt:E1.n=s.H.length+1:=by rw[dn.n];simp
 have qp:E1.Le (E1.add l V1.ab):=E1.qC l (λb o v h=>by rw[<- dn.I];exact h);have ce:Conc (E1.add l V1.ab) (V1.upd l (.loop {state:=.ready,pending:=none,fn,tmps:=a.tmps,params:=ps,assign:=bK,body,defers:=d})) ((s.H++[.obj (.deferred (some []))])++[.loop l .ready none fn s.T nt ps bK body s.H.length]):=by
  refine dn.add hl _ ⟨⟨a.tmps,?_,ah.size,(ah.tok.mono CD).mono qp⟩,?_,λo=> ?_,?_⟩ (λb e=> ?_)
  ·have e:(E1.add l V1.ab).blk s.H.length=d:=(by rw[qp.blk s.H.length (by rw[pt];omega)];exact Cn);rw[e,Env.dL];simp[View.upd]
  ·show s.H.length<E1.n+1;omega
  ·rw[Env.dL];exact hl.2 o
  ·exact Env.dL _ _ _
  ·simp only[bL,Env.dL,Tj]at e;exact e.symm
 have hle:E.Le (E1.add l V1.ab):=CD.trans qp;have J8:(E1.add l V1.ab).blk s.H.length=d:=by rw[qp.blk s.H.length (by rw[pt];omega)];exact Cn
 rw[SC]at ce;have rH:∀E',(E1.add l V1.ab).Le E'->ue E' (s.H.length::ms) bs (mark a d).defers:=λE' hE=>by
  refine ue.mono hE ⟨?_,λi hi=> ?_⟩
  ·have:=(hm.mono hle).1;simp only[mark,UW,J8,Vh];rw[<- this]
  ·rcases SK.1 hi with rfl|hi
   ·show _<E1.n+1;omega
   ·exact Td (hm.2 i hi) hle.n
 have bz:=ap.ev ah.tok hf;have Cq:=h l fn (E1.add l V1.ab) (V1.upd l (.loop {state:=.ready,pending:=none,fn,tmps:=a.tmps,params:=ps,assign:=bK,body,defers:=d})) (a.eval f) #[.func (.yield l) #[] #[]] ce (bz.mono hle) ⟨rfl,λi x hx=>by
  match i,hx with
  |0,hx=>cases hx;exact .fn rfl rfl (by simp) (by simp)⟩
 have key:∀o V',gQ (E1.add l V1.ab) (V1.upd l (.loop {state:=.ready,pending:=none,fn,tmps:=a.tmps,params:=ps,assign:=bK,body,defers:=d}))
   (λ_ H'=>∃st pe fB T' jl gz gf fl gg,H'[s.H.length+1]?=some (.loop l st pe fB T' jl gz gf fl gg)/\st≠ .busy/\sF Φ ⟨s.T,H'.set (s.H.length+1) .gone⟩ (s.H.length::ms) pe)
   (λpv H'=>Φ (.panic pv) ⟨s.T,H'⟩ (s.H.length::ms)) o V'->Eu l d Q a o V':=by
  intro o V' hr;cases o with
  |ret v=>
   obtain⟨av,E',H',hE,b8,eW,_,bm,st,pe,fB,T',jl,gz,gf,fl,gg,bT,aQ,hp⟩:=hr;obtain⟨dD,ny,qK,bf,Lv,sZ,tF⟩:=bm.yF bT;refine⟨_,bf,ny,aQ,?_⟩;have hg:Conc E' (V'.upd l (.loop {state:=.exhausted,pending:=pe,fn:=fB,tmps:=qK,params:=gz,assign:=gf,body:=fl,defers:=E'.blk gg})) (H'.set (s.H.length+1) .gone):=bm.DM _ bT _ (by simp only[bL,dD]);have aS:At E' (V'.upd l (.loop {state:=.exhausted,pending:=pe,fn:=fB,tmps:=qK,params:=gz,assign:=gf,body:=fl,defers:=E'.blk gg})) ⟨s.T,H'.set (s.H.length+1) .gone⟩ (mark a d) nt:=⟨hg,ah.tok.mono (hle.trans hE),ah.size⟩;have eo:qR E E' V (V'.upd l (.loop {state:=.exhausted,pending:=pe,fn:=fB,tmps:=qK,params:=gz,assign:=gf,body:=fl,defers:=E'.blk gg})) a (mark a d):=⟨hle.trans hE,rfl,b8,eW⟩;dsimp only
   match pe,hp,aS,eo with
   |none,hp,aS,eo=>exact hQ .normal .normal E' _ _ _ _ eo aS (rH E' hE) trivial hp
   |some .ret,hp,aS,eo=>exact hQ .ret .ret E' _ _ _ _ eo aS (rH E' hE) trivial hp
   |some (.exit i),hp,aS,eo=>exact hQ (.exit i) (.exit i) E' _ _ _ _ eo aS (rH E' hE) rfl hp
   |some (.goto i),hp,aS,eo=>exact hQ (.goto i) (.goto i) E' _ _ _ _ eo aS (rH E' hE) rfl hp
  |panic ch=>
   obtain⟨pv,v,E',H',rfl,hE,b8,eW,bp,bm,hp⟩:=hr;exact hQ (.panic pv) (.panic _) E' V' (mark a d) ⟨s.T,H'⟩ _ ⟨hle.trans hE,rfl,b8,eW⟩ ⟨bm,ah.tok.mono (hle.trans hE),ah.size⟩ (rH E' hE) ⟨v,rfl,bp⟩ hp
 exact Cq.mono (λnx V' hn=>Nx.mono key hn) (λv V' hr=>key _ _ hr)
@[congr] theorem as5 {c : T4} {s s' : AS} {ms cD : List Nat} {Φ : an -> AS -> List Nat -> Prop} (h : s = s') (hd : ms = cD) : kA lv P nt bs c s ms Φ = kA lv P nt bs c s' cD Φ := by rw [h, hd]
def uj (lv:Bool)(P:SI)(fn:YB)(R:Out->View->Prop):List UY->U_->Array SP->View->Prop
 |[],.returning,tmps,V=>∃v,aO P V (results fn tmps) (λx V'=>x=v/\V'=V) (λ_ _=>False)/\R (.ret v) V
 |[],.panicking ch,_,V=>R (.panic ch) V
 |d::ds,md,tmps,V=>(md matches .run)=false/\((∃b,d={target:=.collected b,args:=#[]}/\V.own b=some (.deferred (some []))/\V.role.chan≠some b/\uj lv P fn R ds md tmps (V.upd b (.deferred none)))\/
   ((∃f cT,d.target=.fn f cT)/\aO P V (invoke d.target d.args) (λnx V'=>∃g args,nx=.enter g args/\yQ lv P g args md V' λnQ aR=>uj lv P fn R ds nQ tmps aR) (λ_ _=>False)))
 |[],.run,_,_=>False
theorem D7{f:TO}{fn:YB}{kd:Xc}{R:Out->View->Prop}(hf:P.funcs[f]?=some fn){main:Bool}{J:View->SG->Prop}(C:Closed lv P main J){cs:List Ua}(hR:∀o V' B1,R o V'->Leaves P B1 f kd o V'->J V' (G B1 cs)):∀(ds:List UY)(md:U_)(V:View)(fr:Ua),fr.fn=f->fr.kind=kd->fr.mode=md->fr.defers=ds->uj lv P fn R ds md fr.tmps V->J V (G fr cs)
 |[],.returning,V,fr,h1,h2,h3,h4,h=>by
  obtain⟨v,hs,hr⟩:=h;exact hR _ _ _ hr ⟨h1,h4,h2,fn,hf,h3,hs⟩
 |[],.panicking ch,V,fr,h1,h2,h3,h4,h=>hR _ _ _ h ⟨h1,h4,h2,fn,hf,h3⟩
 |[],.run,_,_,_,_,_,_,h=>h.elim
 |d::ds,md,V,fr,h1,h2,h3,h4,h=>by
  obtain⟨hm,⟨b,rfl,ho,eI,hu⟩|⟨⟨tf,cT,ht⟩,hs⟩⟩:=h
  ·refine C.step _ _ rfl λw hw=> ?_;obtain⟨es,w',V',k1,k2,k3⟩:=(Nt (P:=P) ho eI).runs hw;rcases k3 with⟨x,k3,rfl,rfl⟩|⟨_,_,hx⟩
   ·refine⟨G {fr with defers:=ds} cs,w',seen P fr.fn es,_,?_,k1.seen P fr.fn,?_⟩
    ·have e:∀main,stepG P main (G fr cs) w=unwind P main fr cs none w:=λmain=>by
      cases md with
      |run=>cases hm
      |returning=>simp[G,stepG,h3]
      |panicking ch=>simp[G,stepG,h3]
     rw[e];simp only[unwind,h4];simp[TB,k3,k2,T1,G]
    ·exact D7 hf C hR ds md _ {fr with defers:=ds} h1 h2 h3 rfl hu
   ·exact hx.elim
  ·refine C.step _ _ rfl λw hw=> ?_;obtain⟨es,w',V',k1,k2,k3⟩:=hs.runs hw;rcases k3 with⟨nx,k3,g,args,rfl,hd⟩|⟨_,_,h⟩
   ·refine⟨G (Frame.enter P g args .deferred) ({fr with defers:=ds}::cs),w',seen P fr.fn es,V',?_,k1.seen P fr.fn,?_⟩
    ·have e:∀main,stepG P main (G fr cs) w=unwind P main fr cs none w:=λmain=>by
      cases md with
      |run=>cases hm
      |returning=>simp[G,stepG,h3]
      |panicking ch=>simp[G,stepG,h3]
     rw[e];obtain⟨tgt,ar⟩:=d;simp only at ht k3 k2;subst ht;simp only[unwind,h4];simp[callDeferred,TB,k3,k2,T1,G]
    ·refine hd main J C {fr with defers:=ds} cs h3 λnQ aR hU=> ?_;exact D7 hf C hR ds nQ aR {fr with defers:=ds,mode:=nQ} h1 h2 rfl rfl hU
   ·exact h.elim
def adI (lv:Bool)(P:SI)(fn:YB)(R:Out->View->Prop):Ex->Act->View->Prop
 |.normal,a,V|.ret,a,V=>uj lv P fn R a.defers .returning a.tmps V
 |.panic ch,a,V=>uj lv P fn R a.defers (.panicking ch) a.tmps V
 |_,_,_=>False
theorem af4{f:TO}{fn:YB}{c:T4}{args:Array SP}{kd:Xc}{V:View}{R:Out->View->Prop}(hk:kd≠ .early)(hf:P.funcs[f]?=some fn)(hb:fn.body=some c)
  (h:WP lv P none c (adI lv P fn R) {tmps:=args++TL (fn.ntmps-args.size) undef,defers:=[]} V):Body lv P f args kd V R:=by
 intro main J C cs hR;let b:Ua:={(default:Ua)with fn:=f,kind:=kd,roundOf:=none};have uF:Frame.enter P f args kd=on b {tmps:=args++TL (fn.ntmps-args.size) undef,defers:=[]} [.code c]:=by
  simp[Frame.enter,on,hf,hb,b]
 rw[uF];refine h main J C b [] cs hk rfl λe a' V' q=> ?_;cases e with
 |normal=>exact C.idle rfl (λw=>DI rfl) (D7 hf C hR _ _ _ _ rfl rfl rfl rfl q)
 |ret=>intro k;exact C.idle rfl (λw=>DJ rfl) (D7 hf C hR _ _ _ _ rfl rfl rfl rfl q)
 |panic ch=>intro todo _;exact D7 hf C hR _ _ _ _ rfl rfl rfl rfl q
 |exit id=>exact q.elim
 |goto l=>exact q.elim
theorem ado{fn:YB}{R:Out->View->Prop}{tmps:Array SP}{md:U_}(hm:(md matches .run)=false):∀(ms:List Nat)(H H':List aa)(E:Env)(V:View)(l:List UY),iN ms H=some H'->Conc E V H->ue E ms bs l->(∀V',V'.role=V.role->V'.deaf=V.deaf->Conc E V' H'->uj lv P fn R bs md tmps V')->uj lv P fn R l md tmps V
 |[],H,H',E,V,l,hg,hc,rI,hk=>by
  rw[iN]at hg;cases hg;have:l=bs:=rI.1;subst this;exact hk V rfl rfl hc
 |i::ms,H,H',E,V,l,hg,hc,rI,hk=>by
  simp only[iN]at hg;split at hg
  ·rename_i hi;obtain⟨e,hlt⟩:=rI;simp only[UW,Vh]at e;subst e;obtain⟨p1,p2,p3,p4⟩:=hc.obj i _ hi;exact⟨hm,.inl ⟨_,rfl,p1,(hc.jk hi rfl).2,ado hm ms _ H' E _ _ hg (hc.DM _ hi _ rfl) ⟨rfl,λj hj=>hlt j (by simp[hj])⟩ λV' h1 h2 h3=>hk V' h1 h2 h3⟩⟩
  ·cases hg
def yV (lv:Bool)(P:SI)(rs:List UO)(n:Nat)(c:AV×List AV)(k kp:AV->List aa->Prop):an->AS->List Nat->Prop
 |.normal,s,ms|.ret,s,ms=>ao (iN ms s.H) λH'=>qO lv P c H' none (λH'=>ao (gY P ⟨s.T,H'⟩ rs) λl=>cF n H' (iY l) k) (λ_=>False)
 |.panic pv,s,ms=>ao (iN ms s.H) λH'=>qO lv P c H' (some pv) (λH'=>ao (gY P ⟨s.T,H'⟩ rs) λl=>cF n H' (iY l) k) (λH'=>cF n H' pv kp)
 |_,_,_=>False
end
end Go.Gg
namespace Go.Gg.Tk
structure iL where
 min:Int
 max:Int
 deriving DecidableEq
structure aC where
 number:iL
 hour:iL
 deriving DecidableEq
structure Seen where
 hour:Int
 next:iL
 deriving DecidableEq
structure aj where
 first:Int
 hours:Int
 am:Int
 seen:List Seen
 pieces:List aC
 aB:List aC
 deriving DecidableEq
def kM (b:iL)(n:Int):Bool:=decide (b.min<=n)&&decide (n<=b.max)
def fz:Nat->List Int->Int->Int
 |i,a::b::l,n=>if a<=n/\n<b then i else fz (i+1) (b::l) n
 |_,_,_=> -1
def jo (h:List Int)(n:Int):Int:=fz 0 h n
def fits (h:List Int)(y:aC)(n:Int):Bool:=decide (0<=jo h n)&&kM y.number n&&kM y.hour (jo h n)
def sd (x:aj)(hour:Nat)(n:Int):Bool:=x.seen.all λs=> !decide (s.hour=hour)||kM s.next n
def kI (x:aj):Nat->List Int->List (List Int)
 |0,pre=>if sd x (pre.length-1) (pre.getLastD 0)then[pre]else[]
 |d+1,pre=>if sd x (pre.length-1) (pre.getLastD 0)then(SZ (x.am.toNat+1)).flatMap λn:Nat=>kI x d (pre++[pre.getLastD 0+(n:Int)])else[]
def aK (x:aj):List (List Int):=kI x x.hours.toNat [x.first]
def wl (x:aj)(t:Nat):List (List Int):=if sd x 0 x.first then kI x (x.hours.toNat-1) [x.first,x.first+t]else[]
def GM (h:List Int):List Int:=(SZ (h.getLastD 0-h.headD 0).toNat).map λi:Nat=>h.headD 0+i
def mS (h:List Int):List aC->List Int->List (List Int)
 |[],t=>[t]
 |y::ys,t=>((GM h).filter λn=>fits h y n&& !t.contains n).flatMap λn=>mS h ys (t++[n])
def pJ (h:List Int)(ns:List Int):List aC->List Nat->List (List Nat)
 |[],t=>[t]
 |s::ss,t=>((SZ ns.length).filter λp=>fits h s (ns.getD p 0)&& !t.contains p).flatMap λp=>pJ h ns ss (t++[p])
structure Tr where
 bG:List Int
 aA:List Int
 bU:List Nat
 deriving DecidableEq
def D5 (x:aj)(h ns:List Int):List Tr:=(pJ h ns x.aB []).map λos=>⟨h,ns,os⟩
def oN (x:aj)(h:List Int):List Tr:=(mS h x.pieces []).flatMap (D5 x h)
def b_ (x:aj):List Tr:=(aK x).flatMap (oN x)
def vv (x:aj)(h:List Int):List Tr:=(mS h x.pieces []).flatMap λns=>(D5 x h ns).take 1
def sj (x:aj)(deep:Int)(h:List Int):List Tr:=if deep=0 then(vv x h).take 1 else if deep=1 then vv x h else oN x h
def HI (x:aj)(deep:Int)(t:Nat):List Tr:=(wl x t).flatMap (sj x deep)
theorem ade{i:Nat}:∀{h:List Int}{n:Int},fz i h n<i+h.length:=by
 intro h;induction h generalizing i with
 |nil=>intro n;simp[fz];omega
 |cons a h ih=>
  intro n;cases h with
  |nil=>simp[fz];omega
  |cons b l=>
   simp only[fz];split
   ·simp;omega
   ·have:=ih (i:=i+1) (n:=n);simp at this⊢;omega
theorem NL{i k:Nat}{z:Int}:∀{h:List Int}{n:Int},h.getLastD z=z->h≠[]->fz i (h++TH k z) n=fz i h n:=by
 intro h;induction h generalizing i with
 |nil=>intro n _ h;exact absurd rfl h
 |cons a h ih=>
  intro n hz _;cases h with
  |nil=>
   simp only[Zp,List.getLastD_nil]at hz;subst hz;have:∀(k i:Nat),fz i ([a]++TH k a) n= -1:=by
    intro k;induction k with
    |zero=>intro i;simp[fz]
    |succ k ihk=>
     intro i;rw[Ww,YZ];simp only[fz];rw[if_neg (by omega)];exact ihk (i+1)
   rw[this];simp[fz]
  |cons b l=>
   have:=ih (i:=i+1) (n:=n) (by simpa using hz) (by simp);simp only[Vh,fz]at this⊢;rw[this]
end Go.Gg.Tk
namespace Go.Gg.Tk
inductive dC (S:Type)where
 |go (s:S)
 |stop (s:S)
 |bad (s:S)
def bD {S α:Type}(f:S->α->dC S):List α->S->dC S
 |[],s=> .go s
 |a::l,s=>match f s a with
  |.go s'=>bD f l s'
  |r=>r
theorem qF{S α:Type}(f:S->α->dC S):∀(l m:List α)(s:S),bD f (l++m) s=match bD f l s with
  |.go s'=>bD f m s'
  |r=>r
 |[],m,s=>rfl
 |a::l,m,s=>by
  simp only[Vh,bD];cases f s a with
  |go s'=>exact qF f l m s'
  |stop s'=>rfl
  |bad s'=>rfl
theorem Nn{S α:Type}(f:S->α->dC S)(a:α)(s:S):bD f [a] s=f s a:=by
 simp only[bD];cases f s a<;>rfl
theorem DF{S α:Type}{f:S->α->dC S}{g:S->α->S}(h:∀s a,f s a=.go (g s a)):∀(l:List α)(s:S),bD f l s=.go (l.foldl g s)
 |[],s=>rfl
 |a::l,s=>by simp only[bD,h,UZ];exact DF h l _
theorem AM{S α:Type}{f:S->α->dC S}{I:S->Prop}{A:α->Prop}(h:∀s a s',I s->A a->f s a=.go s'->I s'):∀(l:List α)(s s':S),(∀a∈l,A a)->I s->bD f l s=.go s'->I s'
 |[],s,s',_,hs,e=>by cases e;exact hs
 |a::l,s,s',ha,hs,e=>by
  simp only[bD]at e;cases hf:f s a with
  |go s1=>rw[hf]at e;exact AM h l s1 s' (λb hb=>ha b (by simp[hb])) (h s a s1 hs (ha a (by simp)) hf) e
  |stop s1=>rw[hf]at e;cases e
  |bad s1=>rw[hf]at e;cases e
def cL (h:List Int):List Int:=h++TH (4-h.length) (h.getLastD 0)
def mN (x:aj)(bi:Nat):Nat->List Int->List (List Int)
 |0,pre=>if sd x (pre.length-1) (pre.getLastD 0)then[cL pre]else[]
 |d+1,pre=>if sd x (pre.length-1) (pre.getLastD 0)then(SZ (x.am.toNat+1)).flatMap λn:Nat=>if pre.length=1/\n≠bi then[]else mN x bi d (pre++[pre.getLastD 0+(n:Int)])else[]
def kv (x:aj)(bi:Nat):List (List Int):=mN x bi x.hours.toNat [x.first]
def lH (h:List Int)(y:aC)(n:Nat):Bool:=decide (h.getD 0 0+n<h.getD 3 0)&&kM y.number (h.getD 0 0+n)&&kM y.hour (jo h (h.getD 0 0+n))
def jw (p:Nat->Bool):Nat->Nat
 |0=>0
 |n+1=>if p n then jw p n|||2^n else jw p n
theorem BK{p:Nat->Bool}:∀{n i:Nat},(jw p n).testBit i=(decide (i<n)&&p i)
 |0,i=>by simp[jw]
 |n+1,i=>by
  have ih:=BK (p:=p) (n:=n) (i:=i);simp only[jw];by_cases hp:p n=true
  ·rw[if_pos hp,Xj,ih,VQ];by_cases hi:n=i
   ·subst hi;simp[hp]
   ·have:(i<n+1)<->i<n:=(by omega);simp[hi,this]
  ·rw[if_neg hp,ih];by_cases hi:i=n
   ·subst hi;simp at hp;simp[hp]
   ·have:(i<n+1)<->i<n:=(by omega);simp[this]
theorem EK{p:Nat->Bool}:∀{n:Nat},jw p n<2^n
 |0=>by simp[jw]
 |n+1=>by
  have ih:=EK (p:=p) (n:=n);have h1:2^n<2^(n+1):=W9 (by omega) (by omega);simp only[jw];split
  ·exact WL (Wn ih h1) h1
  ·exact Wn ih h1
def bZ (h:List Int)(y:aC):Nat:=jw (lH h y) 9
def kP:List Nat->Nat->List Nat->List (List Nat)
 |[],_,t=>[t]
 |q::qs,used,t=>(SZ 9).flatMap λn=>if used.testBit n|| !q.testBit n then[]else kP qs (used|||2^n) (t++[n])
def mw (k:Nat)(ns:List Nat):List Nat->Nat->List Nat->List (List Nat)
 |[],_,o=>[o]
 |q::qs,given,o=>(SZ k).flatMap λp=>if given.testBit p|| !q.testBit (ns.getD p 0)then[]else mw k ns qs (given|||2^p) (o++[p])
def lz (k:Nat)(l:List Nat):List Int:=l.map (λn:Nat=>(n:Int))++TH (k-l.length) (-1)
def dQ (h:List Int)(ns:List Nat):List Int:=h++lz 4 ns++[-1, -1, -1]
def dA (h:List Int)(ns os:List Nat):List Int:=h++lz 4 ns++lz 3 os
def fY (x:aj)(h:List Int):List (List Nat):=kP (x.pieces.map (bZ h)) 0 []
def iu (x:aj)(h:List Int)(ns:List Nat):List (List Nat):=mw x.pieces.length ns (x.aB.map (bZ h)) 0 []
def iI (x:aj)(deep:Int)(h:List Int):List (List Int):=
 let all:=(fY x h).map λns=>(iu x h ns).map λos=>dA h ns os
 if deep=0 then all.flatten.take 1 else if deep=1 then(all.map (·.take 1)).flatten else all.flatten
end Go.Gg.Tk
namespace Go.Gg.Tk
structure Kn where
 has:Bool
 aK:List (List Int)
 aA:List Nat
 hours:List Nat
 less:List Nat
 aU:List Nat
 first:List Int
def Kn.zero:Kn:=⟨false,[],[0,0,0,0],[0,0,0,0],[0,0,0,0],[0,0,0],TH 11 0⟩
def oU (l:List Nat)(p n:Nat):List Nat:=l.set p (l.getD p 0|||2^n)
def jM (hs:List (List Int))(h:List Int):List (List Int):=if h∈hs then hs else hs++[h]
def mz (t:List Int)(p:Nat):Nat:=(t.getD (4+p) 0).toNat
def DY (t:List Int)(p:Nat):Nat:=(jo (t.take 4) (t.getD (4+p) 0+t.getD 0 0)).toNat
def sg (t:List Int)(s:Nat):Nat:=(t.getD (8+s) 0).toNat
def jV (F:Kn)(t:List Int):Kn:=if F.has then F else{F with has:=true,first:=t}
def mT (t:List Int):Nat->List Nat->List Nat
 |0,l=>l
 |s+1,l=>oU (mT t s l) s (sg t s)
def rW (t:List Int):Nat->List Nat->List Nat
 |0,l=>l
 |p+1,l=>oU (rW t p l) p (mz t p)
def wx (t:List Int):Nat->List Nat->List Nat
 |0,l=>l
 |p+1,l=>oU (wx t p l) p (DY t p)
def wF (t:List Int)(p:Nat):Nat->List Nat->List Nat
 |0,l=>l
 |q+1,l=>if t.getD (4+p) 0<t.getD (4+q) 0 then oU (wF t p q l) p q else wF t p q l
def ym (t:List Int)(k:Nat):Nat->List Nat->List Nat
 |0,l=>l
 |p+1,l=>wF t p k (ym t k p l)
def eE (x:aj)(deep:Int)(F:Kn)(t:List Int):Kn:=
 let F:=jV F t
 if deep=2 then{F with aU:=mT t x.aB.length F.aU}
 else if deep=0 then{F with aK:=jM F.aK (t.take 4)}
 else{F with aA:=rW t x.pieces.length F.aA,hours:=wx t x.pieces.length F.hours,less:=ym t x.pieces.length x.pieces.length F.less}
def gL (x:aj)(deep:Int)(bi:Nat):Kn:=((kv x bi).flatMap (iI x deep)).foldl (eE x deep) Kn.zero
def lX (l m:List Nat):List Nat:=(List.zipWith (·|||·) l m)
end Go.Gg.Tk
namespace Go.Gg
open Go.Conc Go.Gg.Tk
theorem HK{n:Nat}(h:n<65536):S6.wrap (n:Int)=n:=by
 have h1:S6.bits=16:=rfl;have h2:S6.signed=false:=rfl;unfold Xa;rw[h1,h2];simp;omega
theorem BO{n:Nat}(h:n<65536):(Uh S6.bits (n:Int)).toNat=n:=by
 have h1:S6.bits=16:=rfl;rw[h1,BitVec.ofInt_natCast,BitVec.toNat_ofNat];omega
theorem ajH{m n:Nat}(hm:m<65536):(S6.wrap (Uh S6.bits ((m:Int).fdiv (2^(min n S6.bits)))&&&Uh S6.bits 1).toNat==1)=m.testBit n:=by
 have h1:S6.bits=16:=rfl;have e:(m:Int).fdiv (2^(min n S6.bits))=((m/2^(min n 16):Nat):Int):=by
  rw[h1,Int.fdiv_eq_ediv_of_nonneg _ (by exact_mod_cast Yy _)];norm_cast
 have hlt:m/2^(min n 16)<65536:=Ze (Nat.div_le_self _ _) hm;rw[e,BitVec.toNat_and,BO hlt,show (Uh S6.bits 1).toNat=1 from rfl,HK (Ze Nat.and_le_left hlt)];have hb:m/2^(min n 16)&&&1=(m/2^(min n 16)) % 2:=Nat.and_one_is_mod _;rw[hb];have ht:m.testBit n=decide (m/2^n % 2=1):=Nat.testBit_eq_decide_div_mod_eq;by_cases hn:n<=16
 ·rw[Wz hn,ht];by_cases h:m/2^n % 2=1
  ·simp[h]
  ·have:m/2^n % 2=0:=(by omega);simp[this]
 ·rw[Nat.min_eq_right (by omega)];have h0:m/2^16=0:=Nat.div_eq_of_lt (by omega);have h2:m.testBit n=false:=Nat.testBit_lt_two_pow (Td hm (by calc 65536=2^16:=rfl
   _<=2^n:=Xk (by omega) (by omega)))
  rw[h0,h2];rfl
theorem ar6{m n:Nat}(hm:m<65536)(hn:n<16):S6.wrap (Uh S6.bits (m:Int)|||Uh S6.bits (S6.wrap (1* 2^(min n S6.bits)))).toNat=((m|||2^n:Nat):Int):=by
 have h1:S6.bits=16:=rfl;have hp:2^n<65536:=by calc 2^n<2^16:=W9 (by omega) hn
  _=65536:=rfl
 have e:S6.wrap (1* 2^(min n S6.bits))=((2^n:Nat):Int):=by
  rw[h1,Wz (by omega),Int.one_mul,<- HK hp];norm_cast
 rw[e,Zn,BO hm,BO hp];exact HK (WL (n:=16) hm hp)
theorem GZ{m n:Nat}(hm:m<65536)(hn:n<65536):S6.wrap (Uh S6.bits (m:Int)|||Uh S6.bits (n:Int)).toNat=((m|||n:Nat):Int):=by
 rw[Zn,BO hm,BO hn];exact HK (WL (n:=16) hm hn)
theorem pI{m n:Nat}(hm:m<65536)(hn:n<65536):m|||n<65536:=WL (n:=16) hm hn
theorem wR{n:Nat}(hn:n<16):2^n<65536:=by calc 2^n<2^16:=W9 (by omega) hn
  _=65536:=rfl
abbrev wv (m:Nat):AV:=.val (.int .u16 m)
def cX {S:Type}(Gf:S->List aa)(pv:AV)(k kp:AV->List aa->Prop)(M:List aa):dC S->Prop
 |.go s=>k (.val (.bool true)) (Gf s++M)
 |.stop s=>k (.val (.bool false)) (Gf s++M)
 |.bad s=>kp pv (Gf s++M)
def f_ {S:Type}(Gf:S->List aa)(pv:AV)(k kp:AV->List aa->Prop)(M:List aa):dC S->Prop
 |.go s=>k (.aL []) (Gf s++M)
 |.stop s=>k (.aL []) (Gf s++M)
 |.bad s=>kp pv (Gf s++M)
structure jU (lv:Bool)(P:SI)(yv:AV){S:Type}(f:S->List Int->dC S)(Gf:S->List aa)(N:Nat)(I:S->Prop)(A:List Int->Prop)(pv:AV):Prop where
 call:∀(σ:S)(a:List Int)(M:List aa)(k kp:AV->List aa->Prop),I σ->A a->cX Gf pv k kp M (f σ a)->i_ lv P yv (Gf σ++M) [.agg (a.map λn=> .val (.int .i64 n))] k kp
 inv:∀σ a σ',I σ->A a->f σ a=.go σ'->I σ'
 len:∀σ,(Gf σ).length=N
 ok:∀m σ σ',(∀z∈Gf σ,fb m z)->∀z∈Gf σ',fb m z
 sure:yv.sure=true
 parts:yv.parts=some [yv]
 leaf:yv.leaf=true
theorem jU.get{lv:Bool}{P:SI}{yv:AV}{S:Type}{f:S->List Int->dC S}{Gf:S->List aa}{N:Nat}{I:S->Prop}{A:List Int->Prop}{pv:AV}(h:jU lv P yv f Gf N I A pv)(σ:S)(L:List aa)(i:Nat):(Gf σ++L)[N+i]?=L[i]?:=by
 rw[<- h.len σ,S9 (by omega)];congr 1;omega
theorem jU.set{lv:Bool}{P:SI}{yv:AV}{S:Type}{f:S->List Int->dC S}{Gf:S->List aa}{N:Nat}{I:S->Prop}{A:List Int->Prop}{pv:AV}(h:jU lv P yv f Gf N I A pv)(σ:S)(L:List aa)(i:Nat)(x:aa):(Gf σ++L).set (N+i) x=Gf σ++L.set i x:=by
 rw[<- h.len σ,T9 _ _ (by omega)];congr 2;omega
theorem jU.au{lv:Bool}{P:SI}{yv:AV}{S:Type}{f:S->List Int->dC S}{Gf:S->List aa}{N:Nat}{I:S->Prop}{A:List Int->Prop}{pv:AV}(h:jU lv P yv f Gf N I A pv){σ:S}{M:List aa}(hH:bI (Gf σ++M))(σ':S):bI (Gf σ'++M):=λz hz=>by
 have hl:(Gf σ'++M).length=(Gf σ++M).length:=by simp[h.len]
 rw[hl];rcases SR.1 hz with h'|h'
 ·exact h.ok _ σ σ' (λw hw=>hH w (Tf _ hw)) z h'
 ·exact hH z (S4 _ h')
def sD (l:Nat)(S:Nat->AS)(ok:Nat->Prop)(m:Nat)(Φ:an->AS->Prop):an->AS->Prop
 |.goto l',s=>l'=l/\∃m',m'<m/\ok m'/\s.Sub (S m')
 |e,s=>Φ e s
section
variable {lv:Bool}{P:SI}{r:Option Nat}{s:AS}
end
theorem amM(l:Nat)(S:Nat->AS)(ok:Nat->Prop)(m:Nat)(Φ:an->AS->Prop)(s:AS):sD l S ok m Φ .normal s=Φ .normal s:=by rw[sD];simp
theorem amO(l:Nat)(S:Nat->AS)(ok:Nat->Prop)(m:Nat)(Φ:an->AS->Prop)(s:AS):sD l S ok m Φ .ret s=Φ .ret s:=by rw[sD];simp
theorem amL(l:Nat)(S:Nat->AS)(ok:Nat->Prop)(m:Nat)(Φ:an->AS->Prop)(i:Nat)(s:AS):sD l S ok m Φ (.exit i) s=Φ (.exit i) s:=by rw[sD];simp
theorem amN(l:Nat)(S:Nat->AS)(ok:Nat->Prop)(m:Nat)(Φ:an->AS->Prop)(a:AV)(s:AS):sD l S ok m Φ (.panic a) s=Φ (.panic a) s:=by rw[sD];simp
@[congr] theorem atK {l m : Nat} {S : Nat -> AS} {ok : Nat -> Prop} {s s' : AS} {Φ : an -> AS -> Prop} {e e' : an} (he : e = e') (h : s = s') : sD l S ok m Φ e s = sD l S ok m Φ e' s' := by rw [he, h]
attribute [seval] amM amO amL amN
open Go.Proofs
namespace Tk
def iL.l (b:iL):List AV:=[iv b.min,iv b.max]
def iL.av (b:iL):AV:=.agg b.l
def aC.l (y:aC):List AV:=[iv y.number.min,iv y.number.max,iv y.hour.min,iv y.hour.max]
def aC.av (y:aC):AV:=.agg y.l
def Seen.l (s:Seen):List AV:=[iv s.hour,iv s.next.min,iv s.next.max]
def Seen.av (s:Seen):AV:=.agg s.l
def a_ (xs:List Int):AV:=.sl xs.length (xs.map iv) .shut
def pS (ls:List (List Int)):AV:=.sl ls.length (ls.map a_) .shut
def aW (xs:List aC):AV:=.sl xs.length (xs.flatMap aC.l) .shut
def dS (xs:List Seen):AV:=.sl xs.length (xs.flatMap Seen.l) .shut
def aj.l (x:aj):List AV:=[iv x.first,iv x.hours,iv x.am,dS x.seen,aW x.pieces,aW x.aB]
def aj.av (x:aj):AV:=.agg x.l
theorem aC.len(b:aC):b.l.length=4:=rfl
theorem Seen.len(b:Seen):b.l.length=3:=rfl
end Tk
section
variable {i:Nat}
theorem e9{xs:List Int}{x:Int}(h:xs[i]?=some x):AV.shift i (.rp (xs.map iv))=some (.rp (iv x::(xs.drop (i+1)).map iv)):=by have:=acy (f:=iv) h;rwa [X8]at this
theorem DR{xs:List (List Int)}{x:List Int}(h:xs[i]?=some x):AV.shift i (.rp (xs.map a_))=some (.rp (a_ x::(xs.drop (i+1)).map a_)):=by have:=acy (f:=a_) h;rwa [X8]at this
theorem DO{xs:List aC}{x:aC}(h:xs[i]?=some x):AV.shift (i* 4) (.rp (xs.flatMap aC.l))=some (.rp (iv x.number.min::iv x.number.max::iv x.hour.min::iv x.hour.max::(xs.drop (i+1)).flatMap aC.l)):=acx aC.len h
theorem acw{xs:List Seen}{x:Seen}(h:xs[i]?=some x):AV.shift (i* 3) (.rp (xs.flatMap Seen.l))=some (.rp (iv x.hour::iv x.next.min::iv x.next.max::(xs.drop (i+1)).flatMap Seen.l)):=acx Seen.len h
end
theorem Av(n:Nat)(xs:List Int):Lt n (a_ xs)=True:=by simp[a_,vg,eK]
theorem GF(n:Nat)(xs:List (List Int)):Lt n (pS xs)=True:=by
 simp only[pS,vg,Tl,eq_iff_iff,iff_true]
 rintro a ⟨b,_,rfl⟩
 rw[Av];trivial
theorem GC(n:Nat)(xs:List aC):Lt n (aW xs)=True:=by
 simp only[aW,vg,S5,eq_iff_iff,iff_true]
 rintro a ⟨b,_,h⟩
 simp only[aC.l,SK,S0,or_false]at h;rcases h with rfl|rfl|rfl|rfl<;>exact .val _
theorem aaU(n:Nat)(xs:List Seen):Lt n (dS xs)=True:=by
 simp only[dS,vg,S5,eq_iff_iff,iff_true]
 rintro a ⟨b,_,h⟩
 simp only[Seen.l,SK,S0,or_false]at h;rcases h with rfl|rfl|rfl<;>exact .val _
theorem aaT(n:Nat)(x:aj):∀a∈x.l,Lt n a:=by
 intro a ha;simp only[aj.l,SK,S0,or_false]at ha;rcases ha with rfl|rfl|rfl|rfl|rfl|rfl
 ·exact .val _
 ·exact .val _
 ·exact .val _
 ·rw[aaU];trivial
 ·rw[GC];trivial
 ·rw[GC];trivial
theorem Dj(n:Nat)(x:aj):Lt n x.av=True:=by simp only[aj.av,tO,eq_iff_iff,iff_true];exact aaT n x
open Go.Conc Go.Proofs Go.Gg.Tk
namespace Tk
structure mD (h:List Int):Prop where
 len:h.length=4
 lo:∀a∈h,0<=a
 hi:∀a∈h,a<=1000
 span:h.getD 3 0<=h.getD 0 0+9
theorem mD.out{h:List Int}(k:mD h):∃a b c d,h=[a,b,c,d]/\(0<=a/\a<=1000)/\(0<=b/\b<=1000)/\(0<=c/\c<=1000)/\(0<=d/\d<=1000)/\d<=a+9:=by
 match h,k with
 |[a,b,c,d],k=>exact⟨a,b,c,d,rfl,⟨k.lo a (by simp),k.hi a (by simp)⟩,⟨k.lo b (by simp),k.hi b (by simp)⟩,⟨k.lo c (by simp),k.hi c (by simp)⟩,⟨k.lo d (by simp),k.hi d (by simp)⟩,by simpa using k.span⟩
theorem aiT{h:List Int}{y:aC}{n:Nat}(hn:(h.getD 3 0-h.getD 0 0).toNat<=n):lH h y n=false:=by
 unfold lH;rw[show decide (h.getD 0 0+(n:Int)<h.getD 3 0)=false from decide_eq_false (by omega)];rfl
theorem aiU{h:List Int}{y:aC}(hs:h.getD 3 0<=h.getD 0 0+9):bZ h y=jw (lH h y) (h.getD 3 0-h.getD 0 0).toNat:=by
 apply Nat.eq_of_testBit_eq;intro i;unfold bZ;rw[BK,BK];by_cases hi:i<(h.getD 3 0-h.getD 0 0).toNat
 ·have h9:i<9:=by omega
  rw[decide_eq_true hi,decide_eq_true h9]
 ·rw[aiT (by omega)];simp
theorem Qg(h:List Int)(y:aC):bZ h y<512:=EK (n:=9)
end Tk
theorem vU{α:Type}{xs:List α}{i:Nat}{x:α}(h:xs[i]?=some x):xs.drop i=x::xs.drop (i+1):=by
 obtain⟨h1,h2⟩:=SL.1 h;rw[TQ h1,h2]
section
variable {lv:Bool}{H:List aa}{k kp:AV->List aa->Prop}
theorem Jl{b:iL}{n:Int}(hk:k (bv (kM b n)) H):bh lv SA 88 H [b.av,iv n] k kp:=by
 refine bF (rs:=[.tmp 4]) (nt:=15) Tryz.f88 λhH hA=> ?_;simp only[bk,SV,iL.av,iL.l];refine ak ?_;refine ak ?_;refine xA (λh=> ?_) (λh=> ?_)
 ·(try simp only[seval]);refine aZ ?_;exact lG hH (by simpa[kM,h]using hk)
 ·(try simp only[seval]);refine aZ ?_;exact lG hH (by simpa[kM,h]using hk)
theorem Qa{h:List Int}{n:Int}(h4:h.length=4)(hk:k (iv (jo h n)) H):bh lv SA 90 H [.agg (h.map iv),iv n] k kp:=by
 refine bF (rs:=[.tmp 4]) (nt:=24) Tryz.f90 λhH hA=> ?_;simp only[bk,SV];have qn:(h.map iv).length=4:=by simp[h4]
 refine ak ?_;refine ak ?_;refine cq ?_;refine sJ 3 (λi:Nat=>[(6,iv i)]) (λ_=>_) (λi=>jo h n=fz i (h.drop i) n) rfl (λbQ cP i cK hi R hR=> ?_);refine ak ?_;refine aD ?_;refine⟨λhc=> ?_,λhc=> ?_⟩
 ·
  have qi:i<3:=by omega
  obtain⟨a,ha⟩:=b9 (xs:=h) (i:=i) (by omega);obtain⟨b,hb⟩:=b9 (xs:=h) (i:=i+1) (by omega);have e4:(0<=(i:Int)/\(i:Int)<4)=True:=by simp;omega
  have PM:(0<=(i:Int)+1/\(i:Int)+1<4)=True:=by simp;omega
  have hw:SD.wrap ((i:Int)+1)=(i:Int)+1:=bA _ (by omega);have pt:((i:Int)+1).toNat=i+1:=by omega
  have lr:fz i (h.drop i) n=if a<=n/\n<b then(i:Int)else fz (i+1) (h.drop (i+1)) n:=by
   rw[vU ha,vU hb];simp only[fz]
  refine aN ?_;refine ak ?_;refine ai ?_;simp only[seval,e4,PM,hw,pt,kX ha,kX hb];refine xA (λh2=> ?_) (λh2=> ?_)
  ·(try simp only[seval,e4,PM,hw,pt,kX ha,kX hb]);refine aD ?_;refine⟨λh3=> ?_,λh3=> ?_⟩
   ·refine ak ?_;refine aZ ?_;rw[hi,lr,if_pos ⟨of_decide_eq_true h2,h3⟩]at hk;exact lG hH hk
   ·refine aN ?_;refine ai ?_;simp only[seval,hw];refine hR _ ⟨by omega,?_,da⟩;rw[hi,lr,if_neg (λq=>h3 q.2)]
  ·(try simp only[seval]);refine aD ?_;refine aN ?_;refine ai ?_;simp only[seval,hw];refine hR _ ⟨by omega,?_,da⟩;rw[hi,lr,if_neg (λq=>by simp at h2;omega)]
 ·
  have:i=3:=by omega
  subst this;refine bX ?_;refine ak ?_;refine aZ ?_;have hm:fz 3 (h.drop 3) n= -1:=by
   match h,h4 with
   |[a,b,c,d],_=>rfl
  rw[hi,hm]at hk;exact lG hH hk
theorem xu{m n:Nat}(hm:m<65536)(hk:k (bv (m.testBit n)) H):bh lv SA 67 H [wv m,iv n] k kp:=by
 refine bF (rs:=[.tmp 4]) (nt:=10) Tryz.f67 λhH hA=> ?_;simp only[bk,SV];refine ak ?_;refine ai ?_;simp only[seval,BA,aem];refine aZ ?_;refine bW ?_;rw[ajH hm];exact hk
theorem uu{m n:Nat}(hm:m<65536)(hn:n<16)(hk:k (wv (m|||2^n)) H):bh lv SA 68 H [wv m,iv n] k kp:=by
 refine bF (rs:=[.tmp 4]) (nt:=9) Tryz.f68 λhH hA=> ?_;simp only[bk,SV];refine ak ?_;refine ai ?_;simp only[seval,aew,Bz];refine aZ ?_;refine bW ?_;rw[ar6 hm hn];exact hk
theorem EZ{h:List Int}{y:aC}(hh:mD h)(hk:k (wv (bZ h y)) H):bh lv SA 65 H [.agg (h.map iv),y.av] k kp:=by
 refine bF (rs:=[.tmp 4]) (nt:=34) Tryz.f65 λhH hA=> ?_;simp only[bk,SV,aC.av,aC.l];obtain⟨a,b,c,d,rfl,ha,hb,hc,hd,hs⟩:=hh.out;have o6:bZ [a,b,c,d] y=jw (lH [a,b,c,d] y) (d-a).toNat:=aiU hs;have hz:wv (jw (lH [a,b,c,d] y) 0)=wv 0:=rfl;refine ak ?_;refine ak ?_;refine ak ?_;refine cq ?_;refine gD (d-a).toNat (λi:Nat=>[(6,iv (a+i)),(5,wv (jw (lH [a,b,c,d] y) i))]) (λ_=>_) (λi=>True) (λ_ _=>rfl) (by rw[hz];simp only[seval];simp[bu,Wk.refl];exact Wk.refl _) rfl (λ_ _ _=>rfl) trivial (λbQ cP i cK hi R hR=> ?_);refine ak ?_;refine aD ?_;have cO:jw (lH [a,b,c,d] y) i<65536:=Td EK (UM (Xk (by omega) (show i<=16 by omega)) (by decide));refine⟨λhc=> ?_,λhc=> ?_⟩
 ·
  have hlt:i<(d-a).toNat:=by omega
  have hw:SD.wrap (a+(i:Int)+1)=a+((i+1:Nat):Int):=by rw[bA _ (by omega)];push_cast;omega
  have fh:SD.wrap (a+(i:Int)-a)=(i:Int):=by rw[bA _ (by omega)];omega
  have FA:lH [a,b,c,d] y i=(kM y.number (a+i)&&kM y.hour (jo [a,b,c,d] (a+i))):=by
   unfold lH;rw[show decide ([a,b,c,d].getD 0 0+(i:Int)<[a,b,c,d].getD 3 0)=true from decide_eq_true (show a+(i:Int)<d by omega),Vu];rfl
  refine aN ?_;refine cq ?_;refine eO 12 ?_;simp only[seval];refine iw (bv (kM y.number (a+i))) (cx (Jl (b:=y.number) ⟨rfl,rfl⟩)) ?_;(try simp only[seval]);refine xA (λh2=> ?_) (λh2=> ?_)
  ·(try simp only[seval]);refine iw (iv (jo [a,b,c,d] (a+i))) (cx (Qa (h:=[a,b,c,d]) rfl ⟨rfl,rfl⟩)) ?_;(try simp only[seval]);refine iw (bv (kM y.hour (jo [a,b,c,d] (a+i)))) (cx (Jl (b:=y.hour) ⟨rfl,rfl⟩)) ?_;(try simp only[seval]);refine aD ?_;rw[h2,Vu]at FA;refine⟨λh3=> ?_,λh3=> ?_⟩
   ·refine ai ?_;simp only[seval,fh];refine aI ((uu cO (show i<16 by omega) ?_));(try simp only[seval]);refine ai ?_;simp only[seval,hw];refine hR _ ⟨by omega,trivial,?_⟩;rw[show jw (lH [a,b,c,d] y) (i+1)=jw (lH [a,b,c,d] y) i|||2^i from by rw[jw,FA,h3];rfl];exact da
   ·refine aN ?_;refine ai ?_;simp only[seval,hw];refine hR _ ⟨by omega,trivial,?_⟩;rw[show jw (lH [a,b,c,d] y) (i+1)=jw (lH [a,b,c,d] y) i from by rw[jw,FA,h3];rfl];exact da
  ·(try simp only[seval]);refine aD ?_;refine aN ?_;refine ai ?_;simp only[seval,hw];refine hR _ ⟨by omega,trivial,?_⟩;rw[show jw (lH [a,b,c,d] y) (i+1)=jw (lH [a,b,c,d] y) i from by rw[jw,FA,show kM y.number (a+i)=false by simpa using h2];rfl];exact da
 ·have:i=(d-a).toNat:=by omega
  subst this;refine bX ?_;refine ak ?_;refine aZ ?_;rw[o6]at hk;exact lG hH hk
end
open Go.Conc Go.Proofs Go.Gg.Tk
namespace Tk
structure sx (b:iL)(hi:Int):Prop where
 min:0<=b.min
 le:b.min<=b.max
 max:b.max<=hi
structure H6 (x:aj)(y:aC):Prop where
 number:sx y.number 99
 hour:sx y.hour (x.hours-1)
structure aj.Ok (x:aj):Prop where
 first:0<=x.first/\x.first<=90
 hours:1<=x.hours/\x.hours<=3
 am:1<=x.am/\x.am<=3
 yC:x.seen.length<=3
 eD:x.pieces.length<=4
 dc:x.aB.length<=3
 seen:∀s∈x.seen,(0<=s.hour/\s.hour<=x.hours)/\sx s.next 99
 piece:∀y∈x.pieces,H6 x y
 stub:∀y∈x.aB,H6 x y
def tV (hour:Nat)(n:Int)(s:Seen):Bool:= !decide (s.hour=hour)||kM s.next n
theorem ab7(x:aj)(hour:Nat)(n:Int):sd x hour n=x.seen.all (tV hour n):=rfl
end Tk
theorem fO{H L:List aa}{i:Nat}{x:aa}(h:H[i]?=some x):(H++L)[i]?=some x:=by rw[SW (SL.1 h).1];exact h
theorem aX(Hs L:List aa)(i:Nat):(Hs++L)[Hs.length+i]?=L[i]?:=by rw[S9 (by omega)];congr 1;omega
theorem dU(Hs L:List aa)(i:Nat)(y:aa):(Hs++L).set (Hs.length+i) y=Hs++L.set i y:=by rw[T9 _ _ (by omega)];congr 2;omega
section
variable {lv:Bool}{H:List aa}{k kp:AV->List aa->Prop}
theorem P_{x:aj}{h:List Int}{hour ir ih:Nat}{n:Int}(hx:x.Ok)(h4:h.length=4)(hn:h[hour]?=some n)(hr:H[ir]?=some (.cells x.l 76))(hi:H[ih]?=some (.cells (h.map iv) 83))(hk:k (bv (sd x hour n)) H):bh lv SA 87 H [iv hour,.op ir 0,.op ih 0] k kp:=by
 refine bF (rs:=[.tmp 4]) (nt:=29) Tryz.f87 λhH hA=> ?_;simp only[bk,SV];have pj:hour<4:=by have:=eR hn;omega
 have b4:(0<=(hour:Int)/\(hour:Int)<4)=True:=by simp;omega
 have hlen:=hx.yC;have x7:∀L:List aa,(H++L)[ir]?=some (.cells x.l 76):=λL=>fO hr;have cC:∀L:List aa,(H++L)[ih]?=some (.cells (h.map iv) 83):=λL=>fO hi;have bO:x.l=[iv x.first,iv x.hours,iv x.am,dS x.seen,aW x.pieces,aW x.aB]:=rfl;refine ak ?_;refine ai ?_;simp only[seval,hr,bO,dS];refine cq ?_;refine sJ x.seen.length (λi:Nat=>[(11,iv i)]) (λ_=>H) (λi=>x.seen.all (tV hour n)=(x.seen.drop i).all (tV hour n)) rfl (λbQ cP i cK hI R hR=> ?_);refine ak ?_;refine aD ?_;refine⟨λhc=> ?_,λhc=> ?_⟩
 ·
  have bB:i<x.seen.length:=by omega
  obtain⟨s,hs⟩:=b9 bB;have lr:x.seen.all (tV hour n)=(tV hour n s&&(x.seen.drop (i+1)).all (tV hour n)):=by rw[hI,vU hs];rfl
  have hw:SD.wrap ((i:Int)+1)=((i+1:Nat):Int):=by rw[bA _ (by omega)];rfl
  refine aN ?_;refine ai ?_;simp only[seval,acw hs,jc bB];refine eO 13 ?_;simp only[seval,cC,b4,kX hn];refine xA (λh2=> ?_) (λh2=> ?_)
  ·(try simp only[seval,cC,b4,kX hn]);refine iw (bv (kM s.next n)) (cx (Jl (b:=s.next) ⟨rfl,rfl⟩)) ?_;(try simp only[seval]);refine aD ?_;have hp:tV hour n s=kM s.next n:=(by unfold tV;rw[decide_eq_true (show s.hour=(hour:Int) by simpa using h2)];rfl);rw[hp]at lr;refine⟨λh3=> ?_,λh3=> ?_⟩
   ·refine ak ?_;refine aZ ?_;rw[ab7,lr,h3]at hk;exact lG hH hk
   ·refine aN ?_;refine ai ?_;simp only[seval,hw];refine hR _ ⟨bB,?_,(abZ bQ)⟩;rw[lr,h3];rfl
  ·(try simp only[seval]);refine aD ?_;refine aN ?_;have hp:tV hour n s=true:=(by unfold tV;rw[decide_eq_false (show ¬s.hour=(hour:Int) by simpa using h2)];rfl);rw[hp]at lr;refine ai ?_;simp only[seval,hw];refine hR _ ⟨bB,?_,(abZ bQ)⟩;rw[lr];rfl
 ·
  have:i=x.seen.length:=by omega
  subst this;refine bX ?_;refine ak ?_;refine aZ ?_;rw[ab7,hI,List.drop_length]at hk;exact bW hk
end
end Go.Gg
