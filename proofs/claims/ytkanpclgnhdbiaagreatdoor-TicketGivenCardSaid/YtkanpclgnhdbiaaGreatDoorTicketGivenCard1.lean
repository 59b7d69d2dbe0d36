/- A part of the proof. -/
import Derived.Test.YtkanpclgnhdbiaaGreatDoorTicketGivenCard0
import Derived.Test.YtkanpclgnhdbiaaGreatDoorProg
import Derived.KernelRfl
set_option linter.all false
set_option maxRecDepth 4000
set_option maxHeartbeats 4000000
open Array renaming all_eq_true_iff_forall_mem->UE,ext'->Vz,getD_eq_getD_getElem?->SI,getElem?_append_left->Yc,getElem?_eq_getElem->SK,getElem?_eq_none->YC,getElem?_eq_some_iff->SR,getElem?_modify->Wi,getElem?_setIfInBounds_ne->SU,getElem?_setIfInBounds_self_of_lt->S_,getElem_mem->XV,mem_iff_getElem?->YH,mem_of_getElem?->W4,range->WK,replicate->TK,toList_map->VJ
open BitVec renaming ofInt->Uf,toNat_or->Zq
open Bool renaming and_eq_true->Th,eq_iff_iff->U6,false_and->Xi,false_eq_true->TN,false_or->XU,not_eq_true'->TW,not_true->ak_,or_eq_true->X6,true_and->U9
open Classical renaming byContradiction->Tu
open ForInStep renaming yield->Y0
open Go renaming Addr->U2,BinOp->VZ,Call->Xr,CallKind->Xe,Code->T9,Deferred->UV,Event->Uq,Field->YX,Frame->Ua,FrameMode->U5,Func->YF,FuncId->TO,Goroutine->SH,IntKind->TV,Item->WT,Loop->aq_,LoopState->Z9,MapEntry->Wl,Oper->Tv,Operand->Tg,Program->SJ,ResultVar->UL,TypeInfo->Wj,Value->SO,World->Tp
open Go.Act renaming put->X5
open Go.BinOp renaming eql->XK,neq->VX
open Go.Call renaming operands->VN
open Go.CallKind renaming deferred->YP,early->U3,normal->Y8
open Go.Deferred renaming ofValue->U1
open Go.Frame renaming catches->ZT,round->W_
open Go.FrameMode renaming returning->Ys
open Go.GStep renaming after->T1
open Go.Instr renaming beginRound->XJ,checkKey->Va,endLoop->ZM,endRound->W6,enterLoop->WY,findAsking->XI,findKey->VM,getLoop->WJ,sameBits->WA,takeDeferred->Y6
open Go.IntKind renaming bits->atb,i64->SF,signed->ata,u16->S6,u32->ai',u64->TB,wrap->Xc
open Go.LoopState renaming busy->ap'
open Go.Next renaming value->W5
open Go.Op renaming equal->Xh,equalIn->U8,operands->Tt
open Go.Operand renaming tmp->as_
open Go.Proofs.Tryz renaming f77->XN,f97->asg,prog->SC
open Go.Region renaming binds->Yr,linearise->Za,schedule->VK,wanted->Tf
open Go.Region.linearise renaming go->UC
open Go.Result.ok renaming inj->ao'
open Go.Sem renaming runT->VD,runT_eq->TC
open Go.Value renaming agg->TD,bool->Xb,cells->Z7,chan->XP,int->SG,map->Zt,nilFunc->YV,slice->Us
open Go.stepG renaming exec->Ud
open Int renaming toNat_natCast->Vw
open List renaming all_cons->ZP,all_eq_true->Tx,any_cons->YU,any_eq_true->UK,append_assoc->SD,append_nil->SY,cons_append->VA,contains_eq_mem->Up,countP_le_length->Y4,drop_drop->ac_,drop_eq_getElem_cons->T8,drop_eq_nil_of_le->TU,drop_zero->XA,ext_getElem?->Yp,filter_congr->Vj,filter_cons_of_neg->Yx,filter_cons_of_pos->Yw,foldl_cons->UW,forIn_cons->W2,getD_eq_getElem?_getD->SE,getElem?_append_left->SZ,getElem?_append_right->Tj,getElem?_cons_succ->UH,getElem?_eq_getElem->SP,getElem?_eq_none->Uu,getElem?_eq_some_iff->SN,getElem?_map->To,getElem?_set_ne->T5,getElem?_set_self->W9,getElem?_take->Uc,getLastD_cons->Zs,length_append->S9,length_drop->Uh,length_map->Tn,length_set->TQ,length_singleton->T7,length_take->TR,mapM_cons->T_,mapM_nil->UA,mapM_toArray->XZ,map_congr_left->Vx,map_cons->UU,map_drop->ag_,map_map->XY,map_take->VE,mem_append->SS,mem_append_left->Te,mem_append_right->S4,mem_cons->SL,mem_cons_of_mem->Tb,mem_cons_self->Tw,mem_eraseDups->Y_,mem_filter->Ul,mem_filterMap->VW,mem_flatMap->S7,mem_map->Tm,mem_of_getElem?->Ti,mem_range->TE,mem_range'->XX,mem_toArray->TJ,nil_append->UD,nodup_cons->VS,nodup_nil->WM,not_mem_nil->S0,range->SV,range'->Ub,range'_append_1->Y9,range'_succ->VP,range_eq_range'->Vo,replicate->TM,replicate_succ->Wu,reverse_nil->XW,set_append_left->Wy,set_append_right->UN,singleton_append->Y3,take_append_drop->Vg,take_of_length_le->SX,take_succ_cons->VU,take_zero->ak'
open Nat renaming add_mul->Vb,add_zero->UJ,le_refl->SQ,le_trans->UF,lt_of_le_of_lt->Zi,lt_of_lt_of_le->Tc,lt_trans->Wn,lt_trichotomy->XG,min_eq_left->Ww,mod_lt->ar_,mul_le_mul_right->Ue,mul_one->Ye,or_lt_two_pow->WL,pow_le_pow_right->Xp,pow_lt_pow_right->Xa,reduceAdd->SW,sub_self->Vd,sub_zero->ZY,testBit_or->Xo,testBit_two_pow->VO,zero_add->Wr,zero_le->Yd
open Option renaming bind_eq_some_iff->Td,getD_some->S8,map_eq_some_iff->Tq,map_some->UM,some->SM
open Option.some renaming injEq->Tl
open Std.Legacy.Range renaming forIn_eq_forIn_range'->Wv,size->Xu
namespace Go.Gg
open Go.Conc
structure Hm (k:AV->Prop):Type where
 n:Nat
structure Hl (X:Bool->Prop)(Z:Prop):Type where
 n:Nat
def QG (a:AV)(X:Bool->Prop)(Z:Prop)(_t:Hl X Z):Prop:=(∃b,a=.val (.bool b)/\X b)\/(a=.val undef/\Z)
theorem aov(b:Bool)(X:Bool->Prop)(Z:Prop)(t:Hl X Z):QG (.val (.bool b)) X Z t=X b:=by
 unfold QG;refine propext ⟨λh=> ?_,λh=> .inl ⟨b,rfl,h⟩⟩;rcases h with⟨b',e,h⟩|⟨e,_⟩
 ·cases e;exact h
 ·cases e
theorem aow(X:Bool->Prop)(Z:Prop)(t:Hl X Z):QG (.val undef) X Z t=Z:=by
 unfold QG;refine propext ⟨λh=> ?_,λh=> .inr ⟨rfl,h⟩⟩;rcases h with⟨b',e,_⟩|⟨_,h⟩
 ·cases e
 ·exact h
def Np (lv:Bool)(P:SJ)(f:AV)(H:List aa)(aD:List AV)(k:AV->Prop)(_t:Hm k):Prop:=∃av,iG lv P f H aD (λb H'=>b=av/\H'=H) (λ_ _=>False)/\k av
def adc (lv:Bool)(P:SJ)(f:AV)(name:String)(H:List aa)(aD:List AV)(k:AV->Prop)(_t:Hm k):Prop:=∃av,Dn lv P f name H aD (λb H'=>b=av/\H'=H) (λ_ _=>False)/\k av
theorem ie{lv:Bool}{P:SJ}{f:AV}{H:List aa}{aD:List AV}{k:AV->Prop}{t:Hm k}(av:AV)(h:iG lv P f H aD (λb H'=>b=av/\H'=H) (λ_ _=>False))(hk:k av):Np lv P f H aD k t:=⟨av,h,hk⟩
section
variable (lv:Bool)(P:SJ)
def AQ (s:AS)(o:Tv)(k:AV->Prop):Prop:=match o.op with
 |.call c=>match c.callee with
  |.value x=>ao (s.ev x) λf=>ao (eT s c.args.toList) λaD=>Np lv P f s.H aD k ⟨0⟩
  |.invoke x name=>ao (s.ev x) λf=>ao (eT s c.args.toList) λaD=>adc lv P f name s.H aD k ⟨0⟩
  |.builtin .append=>match c.args.toList,c.argTypes.toList with
   |[x,y],[t,t']=>ao (jo P t t') λ(_,sz,_)=>ao (s.ev x) λa=>ao (s.ev y) λb=>a.uN λn l e=>e=.exact/\ao (s.src sz b) λ(m,l')=>l.length=n* sz/\l'.length=m* sz/\n+m<=2^30/\k (.sl (n+m) (l++l') .shut)
   |_,_=>False
  |_=>kP P s o k
 |_=>kP P s o k
def mC (all:Array Tv):List Tv->AS->(AS->Prop)->Prop
 |[],s,K=>K s
 |o::rest,s,K=>match o.guard with
  |none=>AQ lv P s o λav=>mC all rest (s.put o.dst av) K
  |some (j,bU)=>ao ((all[j]?).bind (·.dst)) λd=>ao (look s.T d) λa=>QG a (λb=>p8 b bU (AQ lv P ⟨(d,.val (.bool bU))::s.T,s.H⟩ o λav=>mC all rest ((⟨(d,.val (.bool bU))::s.T,s.H⟩:AS).put o.dst av) K) (mC all rest ((⟨(d,.val (.bool !bU))::s.T,s.H⟩:AS).put o.dst (.val undef)) K) ⟨0⟩) (mC all rest (s.put o.dst (.val undef)) K) ⟨0⟩
end
section
variable {lv:Bool}{P:SJ}{r:Option Nat}{o:Tv}{s:AS}
theorem abk{a:Act}{E:Env}{V:View}{av:AV}{N:Act->View->Prop}{Q:Ex->Act->View->Prop}(h1:∀E' V' v,E.Le E'->V'.role=V.role->V'.deaf=V.deaf->Conc E' V' s.H->ap E' av v->N (a.put o.dst v) V'):
  (∀nx V',Nx lv P (gz E V (λb H'=>b=av/\H'=s.H) (λ_ _=>False)) nx V'->l_ lv P r o a N Q nx V')/\(∀v V',gz E V (λb H'=>b=av/\H'=s.H) (λ_ _=>False) (.panic [{v,recovered:=false}]) V'->Q (.panic [{v,recovered:=false}]) a V'):=by
 have hv:∀v V',gz E V (λb H'=>b=av/\H'=s.H) (λ_ _=>False) (.ret v) V'->N (a.put o.dst v) V':=λv V' ⟨b,E',H',hle,bX,eK,bi,bf,e1,e2⟩=>by
  subst e1 e2;exact h1 E' V' v hle bX eK bf bi
 have hp:∀ch V',gz E V (λb H'=>b=av/\H'=s.H) (λ_ _=>False) (.panic ch) V'->Q (.panic ch) a V':=λch V' ⟨pv,v,E',H',eJ,hle,bX,eK,bi,bf,hk⟩=>hk.elim;refine⟨λnx V' hn=> ?_,λv V' h=>hp _ _ h⟩;cases nx with
 |value v=>exact hv _ _ hn
 |skip=>exact hv _ _ hn
 |enter f args=>
  refine Body.mono (R':=fun
   |.ret v,V'=>N (a.put o.dst v) V'
   |.panic ch,V'=>Q (.panic ch) a V') hn λot aR h=> ?_
  cases ot with
  |ret v=>exact hv _ _ h
  |panic ch=>exact hp _ _ h
 |round l f tmps aD b=>
  refine mE.mono (R':=fun
   |.ret v,V'=>N (a.put o.dst v) V'
   |.panic ch,V'=>Q (.panic ch) a V') hn λot aR h=> ?_
  cases ot with
  |ret v=>exact hv _ _ h
  |panic ch=>exact hp _ _ h
 |_=>exact hn.elim
theorem anY{c:Xr}{x y:Tg}{t t' elem:TypeId}{sz n m:Nat}{z:SO}{l l':List AV}{av:AV}(ho:o.op=.call c)(aV:c.callee=.builtin .append)(cI:c.args=#[x,y]) (dL:c.argTypes=#[t,t']) (ht:jo P t t'=some (elem,sz,z))
  (hx:s.ev x=some (.sl n l .exact)) (hy:s.ev y=some av) (hs:s.src sz av=some (m,l')) (hl:l.length=n* sz) (ew:l'.length=m* sz) (hb:n+m<=2^30):dq lv P r o s (.sl (n+m) (l++l') .shut):=by
 intro E V a N Q hc aF bw hN;refine⟨bw,?_⟩;have dj:=ap.ev aF hx;have im:=ap.ev aF hy;generalize jQ:a.eval x=vx at dj;generalize qR:a.eval y=vy at im;unfold execOp;rw[ho];dsimp only;unfold resolve;rw[aV];dsimp only;refine az (aq ?_);unfold invoke builtin;dsimp only;refine az ?_;have mZ:c.args.map a.eval=#[vx,vy]:=by rw[cI];simp[jQ,qR]
 rw[mZ,dL];obtain⟨base,cap,rfl⟩:∃base cap,vx=.slice base n cap:=by
  cases dj with
  |sl b o cap f dJ he q1 q2=>exact⟨_,_,rfl⟩
  |nil he=>exact⟨_,_,rfl⟩
 have gB:cap=n:=by
  cases dj with
  |sl b o cap f dJ he q1 q2=>exact he
  |nil he=>rfl
 subst gB;have sA:(l++l').length=(cap+m)* sz:=by rw[S9,hl,ew,Vb]
 by_cases hm:m=0
 ·subst hm;have sj:l'=[]:=by simpa using ew
  subst sj;refine Gv hc ht im hs ew (SQ _) ?_;refine aq (hN E V _ (Env.Le.refl E) rfl rfl hc ?_);rw[UJ,SY];exact iY _ _ _ _ _ dj
 ·refine Gu hc ht dj im hs hl ew hb (by omega) λrr cs cap' hf bi hle aT=> ?_;obtain⟨bf,qF⟩:=hc.acy (el:=elem) hf aT hle;have tZ:(cap+m)* sz<=cs.size:=by rw[aT];exact Ue _ hle
  refine aO.ghost (yB (f:=(0,0)) (cs:=cs) (el:=elem) (p:=(·<(cap+m)* sz)) (by simp[View.upd]) (λo _=>hf.2 o)) ?_;have pw:=CY (n:=s.H.length) (m:=s.H.length) (SQ _) (by simp[Env.tok,hc.n]) qF hc.n;refine aq (hN _ _ _ pw rfl rfl (bf.trim hc.ay) (H7 (I:=(V.laid rr cs elem (·<(cap+m)* sz)).ab) (e:=.shut) (sz:=sz) (cs:=cs) rfl (bi.mono pw) sA tZ (λo h=>FJ (by simpa using h)) hle trivial))
theorem AQ.sound{k:AV->Prop}(h:AQ lv P s o k):∃av,dq lv P r o s av/\k av:=by
 unfold AQ at h;split at h
 ·rename_i c ho;split at h
  ·rename_i x aV;obtain⟨f,h1,hA⟩:=h.out;obtain⟨aD,h2,hB⟩:=hA.out;obtain⟨av,h3,h4⟩:=hB;refine⟨av,λE V a N Q hc aF bw hN=> ?_,h4⟩;have qO:=abk (lv:=lv) (P:=P) (r:=r) (o:=o) (Q:=Q) hN;refine⟨bw,?_⟩;unfold execOp;rw[ho];dsimp only;unfold resolve;rw[aV];dsimp only;have e:c.args.map a.eval=(c.args.toList.map a.eval).toArray:=(by apply Vz;simp);rw[e];exact(h3 E V (a.eval x) _ hc (ap.ev aF h1) (yq aF h2)).mono (λnx V' h=>qO.1 nx V' h) (λv V' h=>qO.2 v V' h)
  ·rename_i x name aV;obtain⟨f,h1,hA⟩:=h.out;obtain⟨aD,h2,hB⟩:=hA.out;obtain⟨av,h3,h4⟩:=hB;refine⟨av,λE V a N Q hc aF bw hN=> ?_,h4⟩;have qO:=abk (lv:=lv) (P:=P) (r:=r) (o:=o) (Q:=Q) hN;refine⟨bw,?_⟩;unfold execOp;rw[ho];dsimp only;unfold resolve;rw[aV];dsimp only;refine az (aq ?_);have e:c.args.map a.eval=(c.args.toList.map a.eval).toArray:=(by apply Vz;simp);rw[e];exact(h3 E V (a.eval x) _ hc (ap.ev aF h1) (yq aF h2)).mono (λnx V' h=>qO.1 nx V' h) (λv V' h=>qO.2 v V' h)
  ·rename_i aV;split at h
   ·rename_i x y t t' ha ht;obtain⟨⟨elem,sz,z⟩,h1,hA⟩:=h.out;obtain⟨a,h2,hB⟩:=hA.out;obtain⟨b,h3,hC⟩:=hB.out;obtain⟨n,l,e,e1,e0,hD⟩:=NE hC;subst e1 e0;obtain⟨⟨m,l'⟩,h4,h5,h6,h7,h8⟩:=hD.out;exact⟨_,anY ho aV (mI ha) (ru ht) h1 h2 h3 h4 h5 h6 h7,h8⟩
   ·exact h.elim
  ·exact h.sound
 ·exact h.sound
end
section
variable {lv:Bool}{P:SJ}{o:Tv}{T T':List (Nat×AV)}{H:List aa}{k:AV->Prop}
theorem A6:∀(l:List Tg),(∀x∈l,AS.ev ⟨T,H⟩ x=AS.ev ⟨T',H⟩ x)->eT ⟨T,H⟩ l=eT ⟨T',H⟩ l
 |[],_=>rfl
 |x::l,h=>by simp only[eT,h x (Tw ..),A6 l λy hy=>h y (Tb _ hy)]
theorem Is:∀(l:List (Nat×Tg)),(∀x∈l,AS.ev ⟨T,H⟩ x.2=AS.ev ⟨T',H⟩ x.2)->jJ ⟨T,H⟩ l=jJ ⟨T',H⟩ l
 |[],_=>rfl
 |x::l,h=>by simp only[jJ,h x (Tw ..),Is l λy hy=>h y (Tb _ hy)]
theorem mapM_congr:∀(l:List Tg),(∀x∈l,AS.ev ⟨T,H⟩ x=AS.ev ⟨T',H⟩ x)->l.mapM (AS.ev ⟨T,H⟩)=l.mapM (AS.ev ⟨T',H⟩)
 |[],_=>rfl
 |x::l,h=>by simp only[T_,h x (Tw ..),mapM_congr l λy hy=>h y (Tb _ hy)]
theorem HO(x:Option Tg)(h:∀y,x=some y->AS.ev ⟨T,H⟩ y=AS.ev ⟨T',H⟩ y):AS.iI ⟨T,H⟩ x=AS.iI ⟨T',H⟩ x:=by
 cases x with
 |none=>rfl
 |some y=>simp only[AS.iI,h y rfl]
theorem adm{op:VZ}{t:TypeId}{y:Tg}{a:AV}(h:AS.ev ⟨T,H⟩ y=AS.ev ⟨T',H⟩ y):ig P ⟨T,H⟩ op t y a k=ig P ⟨T',H⟩ op t y a k:=by
 unfold ig;split<;>first|rfl|rw[h]
theorem kP.congr(h:∀x∈o.op.operands,AS.ev ⟨T,H⟩ x=AS.ev ⟨T',H⟩ x)(ha:kP P ⟨T,H⟩ o k):kP P ⟨T',H⟩ o k:=by
 unfold kP at ha⊢;generalize o.op=op at h ha⊢;cases op with
 |call c=>
  have cI:∀x∈c.args,AS.ev ⟨T,H⟩ x=AS.ev ⟨T',H⟩ x:=λx hx=>h x (by simp[Tt,VN,hx]);dsimp only at ha⊢;split at ha
  ·obtain⟨x,h1,hA⟩:=ha.out;rw[h1,ao];obtain⟨t,h2,hB⟩:=hA.out;rw[h2,ao];rw[<- cI x (W4 h1)];obtain⟨a,h3,hC⟩:=hB.out;rw[h3,ao];exact hC
  ·split at ha
   ·rename_i x y Jh;have:=mI Jh;rw[this]at cI;rw[<- cI x (by simp),<- cI y (by simp)];exact ha
   ·exact ha.elim
  ·split at ha
   ·rename_i x y Jh;have:=mI Jh;rw[this]at cI;rw[<- cI x (by simp),<- cI y (by simp)];exact ha
   ·exact ha.elim
  ·exact ha.elim
 |build t parts=>
  dsimp only at ha⊢;rw[<- Is parts.toList λx hx=>h x.2 (by simp only[Tt,TJ,Tm];exact⟨x,hx,rfl⟩)];exact ha
 |buildSlice t n parts=>
  dsimp only at ha⊢;rw[<- Is parts.toList λx hx=>h x.2 (by simp only[Tt,TJ,Tm];exact⟨x,hx,rfl⟩)];exact ha
 |makeFunc f first cM=>
  dsimp only at ha⊢;rw[<- mapM_congr first.toList λx hx=>h x (by simp[Tt];exact .inl (by simpa using hx)),<- mapM_congr cM.toList λx hx=>h x (by simp[Tt];exact .inr (by simpa using hx))];exact ha
 |slice t x lo hi mx=>
  dsimp only at ha⊢;rw[<- h x (by simp[Tt]),<- HO lo λy hy=>h y (by simp[Tt,hy]),<- HO hi λy hy=>h y (by simp[Tt,hy]),<- HO mx λy hy=>h y (by simp[Tt,hy])];exact ha
 |pick c a b=>dsimp only at ha⊢;rw[<- h c (by simp[Tt]),<- h a (by simp[Tt]),<- h b (by simp[Tt])];exact ha
 |binOp op t a b u=>
  dsimp only at ha⊢;rw[<- h a (by simp[Tt])];obtain⟨x,h1,hA⟩:=ha.out;rw[h1,ao];rw[<- adm (h b (by simp[Tt]))];exact hA
 |indexAddr t a b=>dsimp only at ha⊢;rw[<- h a (by simp[Tt]),<- h b (by simp[Tt])];exact ha
 |index t a b=>dsimp only at ha⊢;rw[<- h a (by simp[Tt]),<- h b (by simp[Tt])];exact ha
 |move x=>dsimp only at ha⊢;rw[<- h x (by simp[Tt])];exact ha
 |assign x=>dsimp only at ha⊢;rw[<- h x (by simp[Tt])];exact ha
 |unOp op t x=>cases op<;>dsimp only at ha⊢<;>first|exact ha.elim|(rw[<- h x (by simp[Tt])];exact ha)
 |convert a b x=>dsimp only at ha⊢;rw[<- h x (by simp[Tt])];exact ha
 |lookup t m x ok=>dsimp only at ha⊢;rw[<- h m (by simp[Tt]),<- h x (by simp[Tt])];exact ha
 |extract x i=>dsimp only at ha⊢;rw[<- h x (by simp[Tt])];exact ha
 |nilCheck x=>dsimp only at ha⊢;rw[<- h x (by simp[Tt])];exact ha
 |makeInterface t x=>dsimp only at ha⊢;rw[<- h x (by simp[Tt])];exact ha
 |typeAssert x a b c=>dsimp only at ha⊢;rw[<- h x (by simp[Tt])];exact ha
 |fieldAddr t x f=>dsimp only at ha⊢;rw[<- h x (by simp[Tt])];exact ha
 |field t x f=>dsimp only at ha⊢;rw[<- h x (by simp[Tt])];exact ha
 |load t x=>dsimp only at ha⊢;rw[<- h x (by simp[Tt])];exact ha
 |entry x=>dsimp only at ha⊢;rw[<- h x (by simp[Tt])];exact ha
 |_=>exact ha.elim
theorem apP(sz:Nat)(a:AV):AS.src ⟨T,H⟩ sz a=AS.src ⟨T',H⟩ sz a:=by cases a<;>rfl
theorem AQ.congr(h:∀x∈o.op.operands,AS.ev ⟨T,H⟩ x=AS.ev ⟨T',H⟩ x)(ha:AQ lv P ⟨T,H⟩ o k):AQ lv P ⟨T',H⟩ o k:=by
 unfold AQ at ha⊢;split at ha
 ·rename_i c ho;have cI:∀x∈c.args.toList,AS.ev ⟨T,H⟩ x=AS.ev ⟨T',H⟩ x:=λx hx=>h x (by rw[ho];simp[Tt,VN];exact .inr (by simpa using hx));split at ha
  ·rename_i x aV;rw[<- h x (by rw[ho];simp[Tt,VN,aV]),<- A6 _ cI];exact ha
  ·rename_i x name aV;rw[<- h x (by rw[ho];simp[Tt,VN,aV]),<- A6 _ cI];exact ha
  ·split at ha
   ·rename_i x y t t' hx ht;rw[hx]at cI;rw[<- cI x (by simp),<- cI y (by simp)];simp only[apP (T:=T) (T':=T')]at ha;exact ha
   ·exact ha.elim
  ·exact kP.congr h ha
 ·exact kP.congr h ha
end
def cQ (ops:Array Tv)(j:Nat):Option Nat:=(ops[j]?).bind (·.dst)
inductive Reach (ops:Array Tv):Nat->Nat->Prop
 |Ik {i j:Nat} {o:Tv} (ho:ops[i]?=some o) (hj:j∈cK o):Reach ops i j
 |more {i k j:Nat} {o:Tv} (ho:ops[i]?=some o) (hk:k∈cK o) (h:Reach ops k j):Reach ops i j
def th (acc:List (List Nat))(o:Tv):List (List Nat):=acc++[(cK o++(cK o).flatMap λj=>acc.getD j []).eraseDups]
def HT (ops:Array Tv):List (List Nat):=ops.toList.foldl th []
theorem Og(ops:Array Tv):∀(l:List Tv)(acc:List (List Nat))(i:Nat),acc.length=i->(∀k o,l[k]?=some o->ops[i+k]?=some o)->(∀a,a<acc.length->∀j∈acc.getD a [],Reach ops a j)->
  ∀a,∀j∈(l.foldl th acc).getD a [],Reach ops a j
 |[],acc,i,_,_,h,a,j,hj=>by
  simp only[List.foldl_nil]at hj;by_cases ha:a<acc.length
  ·exact h a ha j hj
  ·rw[SE,Uu (by omega)]at hj;simp at hj
 |o::l,acc,i,hi,ho,h,a,j,hj=>by
  rw[UW]at hj;refine Og ops l (th acc o) (i+1) (by simp[th,hi]) (λk o' hk=>by have:=ho (k+1) o' (by simpa using hk);rwa [show i+(k+1)=i+1+k by omega]at this) (λa ha j hj=> ?_) a j hj;have ET:ops[i]?=some o:=by have:=ho 0 o rfl;simpa using this
  have qC:∀a,a<acc.length->(th acc o).getD a []=acc.getD a []:=λa ha=>by
   simp[th,SE,SZ ha]
  by_cases fQ:a<acc.length
  ·rw[qC a fQ]at hj;exact h a fQ j hj
  ·have hae:a=acc.length:=(by simp[th]at ha;omega);subst hae;have e:(th acc o).getD acc.length []=(cK o++(cK o).flatMap λj=>acc.getD j []).eraseDups:=by
    simp[th,SE]
   rw[e,Y_,SS]at hj;rw[hi];rcases hj with hj|hj
   ·exact .Ik ET hj
   ·obtain⟨k,hk,hj⟩:=S7.1 hj;have BN:k<acc.length:=by
     apply Tu;intro hn;rw[SE,Uu (by omega)]at hj;simp at hj
    exact .more ET hk (h k BN j hj)
def ym (nt p:Nat)(ops:Array Tv):Bool:=
 let cl:=HT ops;decide (p<=ops.size)&&
 (SV ops.size).all (λi=>match ops[i]?with
  |some o=>o.dst.all (·<nt)&& !lR o.op&&(cK o).all (·<i)&&
   (if i<p then
    (SV i).all (λj=>match o.dst,cQ ops j with
     |some d,some d'=>d !=d'
     |_,_=>true)&&
    (o.op.operands.toList.all λx=>match x with
     |.tmp t=>(SV p).all λj=>cQ ops j !=some t||(cK o).contains j
     |_=>true)&&
    (match o.guard with
     |some (j,_)=>(cK o).contains j
     |none=>true)
   else(SV i).all λj=>(cl.getD i []).contains j)
  |none=>true)
structure xV (nt p:Nat)(ops:Array Tv):Prop where
 le:p<=ops.size
 dst:∀(i:Nat) o d,ops[i]?=some o->o.dst=some d->d<nt
 uX:∀(i:Nat) o,ops[i]?=some o->lR o.op=false
 low:∀(i:Nat) o,ops[i]?=some o->∀j∈cK o,j<i
 dD:∀(i j:Nat) o d,j<i->i<p->ops[i]?=some o->o.dst=some d->cQ ops j≠some d
 LU:∀(i:Nat) o t j,i<p->ops[i]?=some o-> .tmp t∈o.op.operands->j<p->cQ ops j=some t->j∈cK o
 Bd:∀(i:Nat) o j w,i<p->ops[i]?=some o->o.guard=some (j,w)->j∈cK o
 suf:∀(i j:Nat),p<=i->i<ops.size->j<i->Reach ops i j
theorem ym.out{nt p:Nat}{ops:Array Tv}(h:ym nt p ops=true):xV nt p ops:=by
 unfold ym at h;simp only[Th,decide_eq_true_eq]at h;obtain⟨hle,h⟩:=h;have key:∀(i:Nat) o,ops[i]?=some o->(o.dst.all (·<nt)=true/\lR o.op=false/\(∀j∈cK o,j<i))/\
   (if i<p then
    (SV i).all (λj=>match o.dst,cQ ops j with
     |some d,some d'=>d !=d'
     |_,_=>true)&&
    (o.op.operands.toList.all λx=>match x with
     |.tmp t=>(SV p).all λj=>cQ ops j !=some t||(cK o).contains j
     |_=>true)&&
    (match o.guard with
     |some (j,_)=>(cK o).contains j
     |none=>true)
   else(SV i).all λj=>((HT ops).getD i []).contains j)=true:=λi o ho=>by
  have hi:i<ops.size:=(SR.1 ho).1;have:=Tx.1 h i (by simpa using hi);rw[ho]at this;simp only[Th,Tx,TW,decide_eq_true_eq]at this;exact⟨⟨this.1.1.1,this.1.1.2,this.1.2⟩,by simpa only[Th,Tx]using this.2⟩
 refine⟨hle,λi o d ho hd=> ?_,λi o ho=>(key i o ho).1.2.1,λi o ho=>(key i o ho).1.2.2,λi j o d hj hp ho hd e=> ?_,λi o t j hp ho ht hj e=> ?_,λi o j w hp ho hg=> ?_,λi j hp hi hj=> ?_⟩
 ·have:=(key i o ho).1.1;rw[hd]at this;simpa using this
 ·have:=(key i o ho).2;rw[if_pos hp]at this;simp only[Th,Tx]at this;have:=this.1.1 j (by simpa using hj);rw[hd,e]at this;simp at this
 ·have:=(key i o ho).2;rw[if_pos hp]at this;simp only[Th,Tx]at this;have:=this.1.2 (.tmp t) (by simpa using ht);simp only[Tx]at this;have:=this j (by simpa using hj);rw[e]at this;simpa using this
 ·have:=(key i o ho).2;rw[if_pos hp]at this;simp only[Th]at this;have:=this.2;rw[hg]at this;simpa using this
 ·have:=(key i ops[i] (SK hi)).2;rw[if_neg (by omega)]at this;simp only[Tx]at this;have:=this j (by simpa using hj);refine Og ops ops.toList [] 0 rfl (λk o hk=>by simpa using hk) (by simp) i j ?_;simpa[HT]using this
theorem Pe{α β:Type}{f g:α->Option β}:∀{l:List α},(∀x∈l,f x=g x)->l.filterMap f=l.filterMap g
 |[],_=>rfl
 |x::l,h=>by
  have ih:=Pe (l:=l) λy hy=>h y (Tb _ hy);simp only[List.filterMap_cons,h x (Tw ..),ih]
def ku (ops:Array Tv)(f:Nat->AV)(o:Tv):List (Nat×AV):=(cK o).filterMap λj=>(cQ ops j).map λd=>(d,f j)
def uD (lv:Bool)(P:SJ)(r:Option Nat)(ops:Array Tv)(T0:List (Nat×AV))(H:List aa)(f:Nat->AV)(i:Nat)(o:Tv):Prop:=
 match o.guard with
 |none=>dq lv P r o ⟨ku ops f o++T0,H⟩ (f i)
 |some (j,bU)=>∃d,cQ ops j=some d/\((∃b,look (ku ops f o++T0) d=some (.val (.bool b))/\(b=bU->dq lv P r o ⟨ku ops f o++T0,H⟩ (f i))/\(b= !bU->f i=.val undef))\/(look (ku ops f o++T0) d=some (.val undef)/\f i=.val undef))
theorem zu(l m:List (Nat×AV))(t:Nat):look (l++m) t=(look l t).or (look m t):=by
 induction l with
 |nil=>rfl
 |cons x l ih=>
  obtain⟨k,a⟩:=x;simp only[VA,look];split
  ·rfl
  ·exact ih
theorem qX{l:List (Nat×AV)}{t:Nat}{a:AV}(h:look l t=some a):(t,a)∈l:=by
 induction l with
 |nil=>cases h
 |cons x l ih=>
  obtain⟨k,b⟩:=x;simp only[look]at h;split at h
  ·rename_i e;subst e;cases h;exact Tw ..
  ·exact Tb _ (ih h)
theorem aag{l:List (Nat×AV)}{t:Nat}(h:∀p∈l,p.1≠t):look l t=none:=by
 induction l with
 |nil=>rfl
 |cons x l ih=>
  obtain⟨k,b⟩:=x;simp only[look];rw[if_neg (h _ (Tw ..))];exact ih λp hp=>h p (Tb _ hp)
theorem amg{l:List (Nat×AV)}{q:Nat->Bool}{t:Nat}:look (l.filter λp=>q p.1) t=if q t then look l t else none:=by
 induction l with
 |nil=>simp[look]
 |cons x l ih=>
  obtain⟨k,b⟩:=x;by_cases hk:q k=true
  ·rw[Yw (by simpa using hk)];simp only[look];by_cases e:k=t
   ·subst e;simp[hk]
   ·simp[e,ih]
  ·rw[Yx (by simpa using hk),ih];simp only[look];by_cases e:k=t
   ·subst e;simp[hk]
   ·simp[e]
section
variable {ops:Array Tv}{f:Nat->AV}{p:Nat}
theorem ame{o:Tv}{j t:Nat}(hj:j∈cK o)(ht:cQ ops j=some t)(xc:∀j'∈cK o,cQ ops j'=some t->j'=j):look (ku ops f o) t=some (f j):=by
 cases e:look (ku ops f o) t with
 |none=>
  exfalso;have hm:(t,f j)∈ku ops f o:=VW.2 ⟨j,hj,by rw[ht];rfl⟩;have:∀(l:List (Nat×AV)),(t,f j)∈l->look l t≠none:=by
   intro l;induction l with
   |nil=>intro h;cases h
   |cons x l ih=>
    intro h;obtain⟨k,b⟩:=x;simp only[look];split
    ·simp
    ·rename_i aC;rcases SL.1 h with h|h
     ·cases h;exact absurd rfl aC
     ·exact ih h
  exact this _ hm e
 |some a=>
  obtain⟨j',gY,e'⟩:=VW.1 (qX e);obtain⟨d,hd,e'⟩:=Tq.1 e';cases e';rw[xc j' gY hd]
theorem amf{o:Tv}{t:Nat}(h:∀j∈cK o,cQ ops j≠some t):look (ku ops f o) t=none:=by
 refine aag λx hx e=> ?_;obtain⟨j,hj,e'⟩:=VW.1 hx;obtain⟨d,hd,e'⟩:=Tq.1 e';cases e';exact h j hj (by rw[hd];exact congrArg some e)
end
section
variable {lv:Bool}{P:SJ}{r:Option Nat}{s:AS}{ops:Array Tv}{nt p:Nat}
def td (s:AS)(ops:Array Tv)(p:Nat):List (Nat×AV):=s.T.filter λx=>(SV p).all λj=>cQ ops j !=some x.1
theorem FS(t:Nat):look (td s ops p) t=if(SV p).all (λj=>cQ ops j !=some t)then look s.T t else none:=amg (q:=λt=>(SV p).all λj=>cQ ops j !=some t)
structure n_ (s:AS)(ops:Array Tv)(fs:List AV)(s':AS):Prop where
 H:s'.H=s.H
 new:∀j t,j<fs.length->cQ ops j=some t->look s'.T t=fs[j]?
 old:∀t,(∀j,j<fs.length->cQ ops j≠some t)->look s'.T t=look s.T t
theorem n_.put(ay:xV nt p ops){fs:List AV}{s':AS}(h:n_ s ops fs s')(hp:fs.length<p){o:Tv}(ho:ops[fs.length]?=some o)(av:AV):n_ s ops (fs++[av]) (s'.put o.dst av):=by
 have hd:cQ ops fs.length=o.dst:=by simp[cQ,ho]
 refine⟨by rw[eX];exact h.H,λj t hj ht=> ?_,λt ht=> ?_⟩
 ·simp only[S9,T7]at hj;by_cases JU:j=fs.length
  ·subst JU;rw[hd]at ht;rw[ht];simp[AS.put,look]
  ·have gY:j<fs.length:=(by omega);rw[SZ gY,<- h.new j t gY ht];cases sf:o.dst with
   |none=>rfl
   |some d=>
    have aC:d≠t:=λe=>ay.dD fs.length j o d gY hp ho sf (by rw[e];exact ht);simp[AS.put,look,aC]
 ·have hold:=h.old t λj hj=>ht j (by simp;omega);rw[<- hold];cases sf:o.dst with
  |none=>rfl
  |some d=>
   have aC:d≠t:=λe=>ht fs.length (by simp) (by rw[hd,sf,e]);simp[AS.put,look,aC]
theorem n_.qW{fs:List AV}{s':AS}(h:n_ s ops fs s'){d:Nat}{a:AV}(hd:look s'.T d=some a):n_ s ops fs ⟨(d,a)::s'.T,s'.H⟩:=by
 have e:∀t,look ((d,a)::s'.T) t=look s'.T t:=λt=>by
  simp only[look];split
  ·rename_i e;subst e;exact hd.symm
  ·rfl
 exact⟨h.H,λj t hj ht=>by rw[e];exact h.new j t hj ht,λt ht=>by rw[e];exact h.old t ht⟩
theorem n_.seen(ay:xV nt p ops){fs gs:List AV}{s':AS}(h:n_ s ops fs s')(hp:fs.length<p){o:Tv}(ho:ops[fs.length]?=some o){t:Nat}(ht:∀j,j<p->cQ ops j=some t->j∈cK o):
  look (ku ops (λj=>(fs++gs).getD j (.val undef)) o++td s ops p) t=look s'.T t:=by
 have gN:=ay.low fs.length o ho;have akV:∀j j',j<p->j'<p->cQ ops j=some t->cQ ops j'=some t->j'=j:=λj j' hj gY e e'=>by
  have get:∀i,i<p->∃o,ops[i]?=some o:=λi hi=>⟨_,SK (Tc hi ay.le)⟩;rcases XG j j' with hlt|hlt|hlt
  ·obtain⟨o',aY⟩:=get j' gY;exact absurd e (ay.dD j' j o' t hlt gY aY (by simpa[cQ,aY]using e'))
  ·exact hlt.symm
  ·obtain⟨o',aY⟩:=get j hj;exact absurd e' (ay.dD j j' o' t hlt hj aY (by simpa[cQ,aY]using e))
 rw[zu];by_cases hex:∃j,j<p/\cQ ops j=some t
 ·obtain⟨j,hj,vz⟩:=hex;have ji:=ht j hj vz;have eV:=gN j ji;rw[ame ji vz λj' gY e=>akV j j' hj (Wn (gN j' gY) hp) vz e];rw[h.new j t eV vz];simp[SE,SZ eV,SP eV]
 ·have fH:∀j,j<p->cQ ops j≠some t:=λj hj e=>hex ⟨j,hj,e⟩;rw[amf λj hj=>fH j (Wn (gN j hj) hp),Option.none_or,FS,if_pos (by simp only[Tx];intro j hj;simpa using fH j (by simpa using hj))];exact(h.old t λj hj=>fH j (by omega)).symm
theorem Gn(ay:xV nt p ops){K:AS->Prop}:∀(n:Nat)(fs:List AV)(s':AS),fs.length+n=p->n_ s ops fs s'->mC lv P ops ((ops.toList.take p).drop fs.length) s' K->
  ∃gs,(fs++gs).length=p/\(∀i o,fs.length<=i->i<p->ops[i]?=some o->uD lv P r ops (td s ops p) s.H (λj=>(fs++gs).getD j (.val undef)) i o)/\∃c9,n_ s ops (fs++gs) c9/\K c9
 |0,fs,s',hn,hr,h=>by
  have:(ops.toList.take p).drop fs.length=[]:=by
   apply TU;simp;omega
  rw[this]at h;exact⟨[],by simp;omega,λi o h1 h2=>absurd h2 (by omega),s',by simpa using hr,h⟩
 |n+1,fs,s',hn,hr,h=>by
  have hp:fs.length<p:=by omega
  have aT:fs.length<ops.size:=Tc hp ay.le;have ho:ops[fs.length]?=some ops[fs.length]:=SK aT;generalize Kf:ops[fs.length]=o at ho;have hd:(ops.toList.take p).drop fs.length=o::(ops.toList.take p).drop (fs.length+1):=by
   rw[T8 (by simp;omega)];simp[Kf]
  rw[hd]at h;have akg:∀t,as_ t∈o.op.operands->∀j,j<p->cQ ops j=some t->j∈cK o:=λt ht j hj e=>ay.LU fs.length o t j hp ho ht hj e;have cj:∀(s1:AS)(gs:List AV),n_ s ops fs s1->∀x∈o.op.operands,AS.ev s1 x=AS.ev ⟨ku ops (λj=>(fs++gs).getD j (.val undef)) o++td s ops p,s.H⟩ x:=λs1 gs B5 x hx=>by
   cases x with
   |tmp t=>exact(B5.seen ay hp ho (akg t hx)).symm
   |_=>rfl
  have go:∀(s1:AS),n_ s ops fs s1->(AQ lv P s1 o λav=>mC lv P ops ((ops.toList.take p).drop (fs.length+1)) (s1.put o.dst av) K)->
    ∃av gs,(fs++av::gs).length=p/\dq lv P r o ⟨ku ops (λj=>(fs++av::gs).getD j (.val undef)) o++td s ops p,s.H⟩ av/\(∀i o,fs.length+1<=i->i<p->ops[i]?=some o->uD lv P r ops (td s ops p) s.H (λj=>(fs++av::gs).getD j (.val undef)) i o)/\∃c9,n_ s ops (fs++av::gs) c9/\K c9:=λs1 B5 h1=>by
   obtain⟨av0,_,_⟩:=h1.sound (r:=r);have dF:s1=⟨s1.T,s.H⟩:=(by rw[<- B5.H]);rw[dF]at h1;have h2:=AQ.congr (T':=ku ops (λj=>(fs++[]).getD j (.val undef)) o++td s ops p) (λx hx=>by rw[<- dF];exact cj s1 [] B5 x hx) h1;obtain⟨av,hq,h3⟩:=h2.sound (r:=r);obtain⟨gs,g1,g2,c9,g3,g4⟩:=Gn ay n (fs++[av]) (s1.put o.dst av) (by simp;omega) (B5.put ay hp ho av) (by rw[<- dF]at h3;simpa using h3);have e:fs++[av]++gs=fs++av::gs:=(by simp);rw[e]at g1 g2 g3;refine⟨av,gs,g1,?_,λi o hi=>g2 i o (by simpa using hi),c9,g3,g4⟩;have ed:ku ops (λj=>(fs++av::gs).getD j (.val undef)) o=ku ops (λj=>(fs++[]).getD j (.val undef)) o:=by
    unfold ku;apply Pe;intro j hj;have eV:=ay.low fs.length o ho j hj;simp[SE,SZ eV]
   rw[ed];exact hq
  simp only[mC]at h;split at h
  ·rename_i hg;obtain⟨av,gs,g1,g2,g3,g4⟩:=go s' hr h;refine⟨av::gs,g1,λi o' hi nP aY=> ?_,g4⟩;by_cases dl:i=fs.length
   ·subst dl;rw[ho]at aY;cases aY;unfold uD;rw[hg];simpa[SE]using g2
   ·exact g3 i o' (by omega) nP aY
  ·rename_i j bU hg;obtain⟨d,fS,hA⟩:=h.out;obtain⟨a,eW,hB⟩:=hA.out;have ji:=ay.Bd fs.length o j bU hp ho hg;have eV:=ay.low fs.length o ho j ji;have Kz:∀gs,look (ku ops (λj=>(fs++gs).getD j (.val undef)) o++td s ops p) d=some a:=λgs=>by
    rw[hr.seen ay hp ho λj' gY e=> ?_]
    ·exact eW
    ·have get:∀i,i<p->∃o,ops[i]?=some o:=λi hi=>⟨_,SK (Tc hi ay.le)⟩;rcases XG j j' with hlt|hlt|hlt
     ·obtain⟨o',aY⟩:=get j' gY;exact absurd fS (ay.dD j' j o' d hlt gY aY (by simpa[cQ,aY]using e))
     ·rw[<- hlt];exact ji
     ·obtain⟨o',aY⟩:=get j (by omega);exact absurd e (ay.dD j j' o' d hlt (by omega) aY (by simpa[cQ,aY]using fS))
   rcases hB with⟨b,e1,hC,hD⟩|⟨e1,hZ⟩
   rotate_left
   ·subst e1;obtain⟨gs,g1,g2,c9,g3,g4⟩:=Gn ay n (fs++[.val undef]) _ (by simp;omega) (hr.put ay hp ho (.val undef)) (by simpa using hZ);have e:fs++[.val undef]++gs=fs++ .val undef::gs:=(by simp);rw[e]at g1 g2 g3;refine⟨.val undef::gs,g1,λi o' hi nP aY=> ?_,c9,g3,g4⟩;by_cases dl:i=fs.length
    ·subst dl;rw[ho]at aY;cases aY;unfold uD;rw[hg];exact⟨d,fS,.inr ⟨Kz _,by simp[SE]⟩⟩
    ·exact g2 i o' (by simp;omega) nP aY
   subst e1;by_cases hb:b=bU
   ·subst hb;obtain⟨av,gs,g1,g2,g3,g4⟩:=go _ (hr.qW eW) (hC rfl);refine⟨av::gs,g1,λi o' hi nP aY=> ?_,g4⟩;by_cases dl:i=fs.length
    ·subst dl;rw[ho]at aY;cases aY;unfold uD;rw[hg];refine⟨d,fS,.inl ⟨b,Kz _,λ_=>by simpa[SE]using g2,λe=>by cases b<;>cases e⟩⟩
    ·exact g3 i o' (by omega) nP aY
   ·have du:b= !bU:=(by cases b<;>cases bU<;>simp_all);subst du;have h3:=hD rfl;obtain⟨gs,g1,g2,c9,g3,g4⟩:=Gn ay n (fs++[.val undef]) _ (by simp;omega) ((hr.qW eW).put ay hp ho (.val undef)) (by simpa using h3);have e:fs++[.val undef]++gs=fs++ .val undef::gs:=(by simp);rw[e]at g1 g2 g3;refine⟨.val undef::gs,g1,λi o' hi nP aY=> ?_,c9,g3,g4⟩;by_cases dl:i=fs.length
    ·subst dl;rw[ho]at aY;cases aY;unfold uD;rw[hg];exact⟨d,fS,.inl ⟨!bU,Kz _,λe=>absurd e hb,λ_=>by simp[SE]⟩⟩
    ·exact g2 i o' (by simp;omega) nP aY
structure Hg (E:Env)(V:View)(ops:Array Tv)(T0:List (Nat×AV))(H:List aa)(f:Nat->AV)(X:List Nat)(a:Act)(nt:Nat):Prop where
 br:Conc E V H
 base:bZ E T0 a.tmps
 done:∀i∈X,∀d,cQ ops i=some d->ap E (f i) (a.tmps.getD d undef)
 size:a.tmps.size=nt
theorem zK{X:List Nat}(hX:∀i∈X,∀o,ops[i]?=some o->∀j∈cK o,j∈X){i j:Nat}(h:Reach ops i j):((∀o,ops[i]?=some o->∀k∈cK o,k∈X))->j∈X:=by
 induction h with
 |Ik ho hj=>intro hd;exact hd _ ho _ hj
 |more ho hk _ ih=>intro hd;exact ih (hX _ (hd _ ho _ hk))
theorem apf(ay:xV nt p ops){X l:List Nat}(hs:lC ops X l):∀q,p<=q->q<=ops.size->(∀i,i∈X<->i<q)->(∀i∈X,∀o,ops[i]?=some o->∀j∈cK o,j∈X)->l=Ub q (ops.size-q):=by
 induction hs with
 |nil X h=>
  intro q hp hq hX _;have:ops.size<=q:=by
   apply Tu;intro hn;have:=(hX q).1 (h q (by omega));omega
  have:ops.size-q=0:=by omega
  rw[this];rfl
 |cons o ho hn hd _ ih=>
  rename_i X i l _;intro q hp hq hX hc;have hi:i<ops.size:=(SR.1 ho).1;have hiq:q<=i:=by
   apply Tu;intro h;exact hn ((hX i).2 (by omega))
  have hqi:i=q:=by
   apply Tu;intro aC;have:=zK hc (ay.suf i q (by omega) hi (by omega)) (λo' aY k hk=>by rw[ho]at aY;cases aY;exact hd k hk);have:=(hX q).1 this;omega
  subst hqi;have e:ops.size-i=(ops.size-(i+1))+1:=by omega
  rw[e,VP];congr 1;refine ih (i+1) (by omega) (by omega) (λk=> ?_) (λk hk o' aY j hj=> ?_)
  ·simp only[SL,hX];omega
  ·rcases SL.1 hk with rfl|hk
   ·rw[ho]at aY;cases aY;exact Tb _ (hd j hj)
   ·exact Tb _ (hc k hk o' aY j hj)
theorem agf{T0:List (Nat×AV)}{H:List aa}{f:Nat->AV}(ay:xV nt p ops)(ai8:∀j,j<p->∀d,cQ ops j=some d->look T0 d=none)(au:∀(i:Nat) o,i<p->ops[i]?=some o->uD lv P r ops T0 H f i o){X l:List Nat}(hs:lC ops X l):
  (∀i∈X,i<p)->(∀i∈X,∀o,ops[i]?=some o->∀j∈cK o,j∈X)->∀(E:Env)(V:View)(a:Act)(Q:Ex->Act->View->Prop),Hg E V ops T0 H f X a nt->
   (∀E' V' a' X',Kept E E' V V' a a'->Hg E' V' ops T0 H f X' a' nt->(∀i,i<p->i∈X')->c_ lv P r ops Q (Ub p (ops.size-p)) a' V')->c_ lv P r ops Q l a V:=by
 have full:∀X:List Nat,(∀i∈X,i<p)->(∀i,i<p->i∈X)->∀i,i∈X<->i<p:=λX h1 h2 i=>⟨h1 i,h2 i⟩;induction hs with
 |nil X h=>
  intro hX hc E V a Q ah hQ;have gO:p=ops.size:=by
   apply Tu;intro aC;have:=hX p (h p (by have:=ay.le;omega));omega
  have:=hQ E V a X (Kept.refl E V a) ah (λi hi=>h i (by omega));rw[gO,Vd]at this;exact this
 |cons o ho hn hd k_ ih=>
  rename_i X i l;intro hX hc E V a Q ah hQ;have hi:i<ops.size:=(SR.1 ho).1;by_cases nP:i<p
  ·simp only[c_,ho];have nJ:∀k∈i::X,k<p:=λk hk=>(SL.1 hk).elim (λe=>by rw[e];exact nP) (hX k);have bf:∀k∈i::X,∀o',ops[k]?=some o'->∀j∈cK o',j∈i::X:=λk hk o' aY j hj=>by
    rcases SL.1 hk with rfl|hk
    ·rw[ho]at aY;cases aY;exact Tb _ (hd j hj)
    ·exact Tb _ (hc k hk o' aY j hj)
   have tok:bZ E (ku ops f o++T0) a.tmps:=by
    intro t av e;rw[zu]at e;cases hl:look (ku ops f o) t with
    |none=>rw[hl]at e;exact ah.base t av e
    |some x=>
     rw[hl]at e;cases e;obtain⟨j,hj,e⟩:=VW.1 (qX hl);obtain⟨d,cr,e⟩:=Tq.1 e;cases e;obtain⟨oj,j5,iM⟩:=Td.1 cr;exact⟨by rw[ah.size];exact ay.dst j oj _ j5 iM,ah.done j (hd j hj) _ cr⟩
   have sf:cQ ops i=o.dst:=(by simp[cQ,ho]);have put:∀{E' V'}(v:SO),E.Le E'->Conc E' V' H->ap E' (f i) v->Hg E' V' ops T0 H f (i::X) (a.put o.dst v) nt:=λ{E' V'} v hle cN hv=>by
    cases db:o.dst with
    |none=>
     refine⟨cN,ah.base.mono hle,λk hk d ec=> ?_,ah.size⟩;rcases SL.1 hk with rfl|hk
     ·rw[sf,db]at ec;cases ec
     ·exact(ah.done k hk d ec).mono hle
    |some d0=>
     have hlt:d0<a.tmps.size:=(by rw[ah.size];exact ay.dst i o d0 ho db);refine⟨cN,λt av e=> ?_,λk hk d ec=> ?_,by simp[X5,ah.size]⟩
     ·have aC:d0≠t:=λe'=>(by rw[<- e',ai8 i nP d0 (by rw[sf,db])]at e;cases e);have:=ah.base.mono hle t av e;exact⟨by simpa[X5]using this.1,by simpa[X5,SI,SU aC]using this.2⟩
     ·by_cases qE:k=i
      ·subst qE;rw[sf,db]at ec;cases ec;simpa[X5,SI,S_ hlt]using hv
      ·have aI:k∈X:=(SL.1 hk).resolve_left qE;have aC:d0≠d:=λe'=>by
        subst e';have QS:=hX k aI;have get:∀i,i<p->∃o,ops[i]?=some o:=λi hi=>⟨_,SK (Tc hi ay.le)⟩;rcases XG k i with hlt|hlt|hlt
        ·exact ay.dD i k o d0 hlt nP ho db ec
        ·exact qE hlt
        ·obtain⟨o',aY⟩:=get k QS;exact ay.dD k i o' d0 hlt QS aY (by simpa[cQ,aY]using ec) (by rw[sf,db])
       have:=(ah.done k aI d ec).mono hle;simpa[X5,SI,SU aC]using this
   have go:dq lv P r o ⟨ku ops f o++T0,H⟩ (f i)->we lv P r o a V (c_ lv P r ops Q l) Q:=λhq=>
    hq E V a _ Q ah.br tok (.inr (ay.uX i o ho)) λE' V' v hle bX eK cN hv=>
     ih nJ bf E' V' (a.put o.dst v) Q (put v hle cN hv) λbO aR b8 ma hk cX eI=>
      hQ bO aR b8 ma ⟨hle.trans hk.le,hk.size.trans (dR _ _ _),hk.defers.trans (put_defers _ _ _),hk.role.trans bX,hk.deaf.trans eK⟩ cX eI
   have yT:=au i o nP ho;unfold uD at yT;split at yT
   ·rename_i BJ;have hw:Tf o (yielded ops a.tmps)=true:=(by unfold Tf;rw[BJ]);rw[if_pos hw];exact .inl (go yT)
   ·rename_i j bU BJ;obtain⟨d,fS,yT⟩:=yT;rcases yT with⟨b,bP,h1,h2⟩|⟨bP,hu⟩
    rotate_left
    ·obtain⟨hlt,hv⟩:=tok d _ bP;have hy:yielded ops a.tmps j≠some bU:=by
      obtain⟨oj,j5,iM⟩:=Td.1 fS;generalize hx:a.tmps.getD d undef=x at hv;cases hv;rw[SI,SK hlt]at hx;simp only[S8]at hx;simp[yielded,j5,iM,SK hlt,hx,undef]
     have hw:¬Tf o (yielded ops a.tmps)=true:=by
      unfold Tf;rw[BJ];intro h;exact hy (by simpa using h)
     rw[if_neg hw];exact ih nJ bf E V (a.put o.dst undef) Q (put undef (Env.Le.refl E) ah.br (by rw[hu];exact .val _)) λbO aR b8 ma hk cX eI=>
      hQ bO aR b8 ma ⟨hk.le,hk.size.trans (dR _ _ _),hk.defers.trans (put_defers _ _ _),hk.role,hk.deaf⟩ cX eI
    obtain⟨hlt,hv⟩:=tok d _ bP;have hy:yielded ops a.tmps j=some b:=by
     obtain⟨oj,j5,iM⟩:=Td.1 fS;generalize hx:a.tmps.getD d undef=x at hv;cases hv;rw[SI,SK hlt]at hx;simp only[S8]at hx;simp[yielded,j5,iM,SK hlt,hx]
    by_cases hb:b=bU
    ·have hw:Tf o (yielded ops a.tmps)=true:=(by unfold Tf;rw[BJ];simp[hy,hb]);rw[if_pos hw];exact .inl (go (h1 hb))
    ·have hw:¬Tf o (yielded ops a.tmps)=true:=(by unfold Tf;rw[BJ];simp[hy,hb]);rw[if_neg hw];have hu:=h2 (by cases b<;>cases bU<;>simp_all);exact ih nJ bf E V (a.put o.dst undef) Q (put undef (Env.Le.refl E) ah.br (by rw[hu];exact .val _)) λbO aR b8 ma hk cX eI=>
      hQ bO aR b8 ma ⟨hk.le,hk.size.trans (dR _ _ _),hk.defers.trans (put_defers _ _ _),hk.role,hk.deaf⟩ cX eI
  ·have eI:∀k,k<p->k∈X:=λk hk=>zK hc (ay.suf i k (by omega) hi (by omega)) (λo' aY j hj=>by rw[ho]at aY;cases aY;exact hd j hj);have hl:=apf ay (.cons o ho hn hd k_) p (SQ _) ay.le (full X hX eI) hc;rw[hl];exact hQ E V a X (Kept.refl E V a) ah eI
theorem aeJ{id:Nat}{Φ:am->AS->Prop}(hm:P.follows .mixedOrders=true)(p:Nat)(ay:ym nt p ops=true)(h:mC lv P ops (ops.toList.take p) s (λs'=>gV lv P ops (ops.toList.drop p) s' (Φ .normal) (λpv s=>Φ (.panic pv) s))):aU lv P r nt (.region id ops true) s Φ:=by
 intro E V a Q ah hQ;have ay:=ym.out ay;obtain⟨gs,g1,g2,c9,g3,g4⟩:=Gn (lv:=lv) (r:=r) ay p [] s (by simp) ⟨rfl,by simp,by simp⟩ (by simpa using h);simp only[UD]at g1 g2 g3;refine M6 λt=> ?_;rw[show VK (P.follows .mixedOrders) ops t=UC .any ops ops.size t (TK ops.size false) [] by unfold VK;rw[hm];simp[Za]];have hs:=aaa (ops:=ops) (λi o ho j hj=>ay.low i o ho j hj) ops.size t (TK ops.size false) [] ⟨by simp,λi hi=>by simp[hi]⟩ (UF Y4 (by simp));refine agf (T0:=td s ops p) (H:=s.H) ay (λj hj d hd=> ?_) (λi o hi ho=>g2 i o (by simp) hi ho) hs (by simp) (by simp) E V a Q ⟨ah.br,λt av e=> ?_,by simp,ah.size⟩ λE' V' a' X' hk aQ eI=> ?_
 ·rw[FS,if_neg];simp only[Tx];intro h;have:=h j (by simpa using hj);rw[hd]at this;simp at this
 ·rw[FS]at e;split at e
  ·exact ah.tok t av e
  ·cases e
 ·refine zC (Φ:=Φ) (λo ho d e=> ?_) (λo ho=> .inr ?_) (ops.size-p) p c9 (by have:=ay.le;omega) g4 E' V' a' Q ⟨by rw[g3.H];exact aQ.br,λt av e=> ?_,aQ.size⟩ (λae e bO aR b8 s3 aI pk he hΦ=>hQ ae e bO aR b8 s3 (hk.trans aI) pk he hΦ)
  ·obtain⟨i,hi⟩:=YH.1 ho;exact ay.dst i o d hi e
  ·obtain⟨i,hi⟩:=YH.1 ho;exact ay.uX i o hi
  ·by_cases hex:∃j,j<p/\cQ ops j=some t
   ·obtain⟨j,hj,vz⟩:=hex;rw[g3.new j t (by omega) vz]at e;obtain⟨oj,j5,iM⟩:=Td.1 vz;refine⟨by rw[aQ.size];exact ay.dst j oj t j5 iM,?_⟩;have:=aQ.done j (eI j hj) t vz;simpa[SE,e]using this
   ·have fH:∀j,j<p->cQ ops j≠some t:=λj hj e=>hex ⟨j,hj,e⟩;rw[g3.old t λj hj=>fH j (by omega)]at e;refine aQ.base t av ?_;rw[FS,if_pos (by simp only[Tx];intro j hj;simpa using fH j (by simpa using hj))];exact e
end
def rE (T base Vn:List (Nat×AV)):Prop:=T.drop (T.length-base.length)=base/\((T.take (T.length-base.length)).all λp=>(Vn.any λq=>q.1==p.1)|| !(base.any λq=>q.1==p.1))=true
theorem aee{l:List (Nat×AV)}{t:Nat}{a:AV}(h:look l t=some a):(l.any λq=>q.1==t)=true:=UK.2 ⟨_,qX h,by simp⟩
theorem aaf{l:List (Nat×AV)}{t:Nat}(h:(l.any λq=>q.1==t)=true):∃a,look l t=some a:=by
 induction l with
 |nil=>cases h
 |cons x l ih=>
  obtain⟨k,b⟩:=x;simp only[look];split
  ·exact⟨b,rfl⟩
  ·rename_i aC;refine ih ?_;simpa[YU,aC]using h
theorem rE.look{T base Vn:List (Nat×AV)}(h:rE T base Vn){t:Nat}{a:AV}(hb:look base t=some a)(hv:look Vn t=none):look T t=some a:=by
 obtain⟨h1,h2⟩:=h;have e:T=T.take (T.length-base.length)++base:=by
  have:=(Vg (T.length-base.length) T).symm;rwa [h1]at this
 rw[e,zu];cases hl:Gg.look (T.take (T.length-base.length)) t with
 |none=>exact hb
 |some x=>
  exfalso;have:=Tx.1 h2 _ (qX hl);simp only[X6,TW]at this;rcases this with this|this
  ·obtain⟨y,hy⟩:=aaf this;rw[hv]at hy;cases hy
  ·rw[aee hb]at this;cases this
def s7 (base Vi Vn:List (Nat×AV))(Hn:List aa)(s':AS):Prop:=
 rE s'.T (Vi++base) Vn/\(∀p∈Vn,∃b,look s'.T p.1=some b/\Wk b p.2)/\∃G,s'.H=Hn++G/\(G=[]\/(bM Hn/\∀p∈Vn,Lt Hn.length p.2))
section
variable {lv:Bool}{P:SJ}{r:Option Nat}{s:AS}
theorem yc{nt:Nat}{α:Type}{lt:α->α->Prop}(wf:WellFounded lt){c:T9}{Φ:am->AS->Prop}(V:α->List (Nat×AV))(Hf:α->List aa)(ok:α->Prop)(m0:α)
  (BM:∀m m',(V m).map (·.1)=(V m').map (·.1)) (ij:∀p∈V m0,∃b,look s.T p.1=some b/\Wk b p.2) (Bl:Hf m0=s.H) (hl:∀m,ok m->(Hf m).length=s.H.length) (hm:ok m0)
  (h:bM s.H->(∀t a,look s.T t=some a->Lt s.H.length a)->∀m,ok m->∀R:AS->Prop,(∀s',(∃m',lt m' m/\ok m'/\s7 s.T (V m) (V m') (Hf m') s')->R s')->aU lv P r nt c ⟨V m++s.T,Hf m⟩ (am.then R Φ)):aU lv P r nt (.loop c) s Φ:=by
 have same:∀m m' t,look (V m) t=none->look (V m') t=none:=λm m' t h=>aag λp hp e=>by
  have h1:p.1∈(V m').map (·.1):=Tm.2 ⟨p,hp,rfl⟩;rw[BM m' m]at h1;obtain⟨q,hq,e'⟩:=Tm.1 h1;have h2:((V m).any λx=>x.1==t)=true:=UK.2 ⟨q,hq,by simp[e',e]⟩;obtain⟨a,ha⟩:=aaf h2;rw[h]at ha;cases ha
 intro E V0 a Q ah hQ;have hlt:∀t a,look s.T t=some a->Lt s.H.length a:=λt x e=>by rw[<- ah.br.n];exact(ah.tok t x e).2.lt
 have h0:s.Sub ⟨V m0++s.T,Hf m0⟩:=⟨λt x e=>by
  rw[zu]at e;cases hl:look (V m0) t with
  |none=>rw[hl]at e;exact⟨x,e,Wk.refl x⟩
  |some y=>rw[hl]at e;cases e;exact ij (t,x) (qX hl),Bl.symm⟩
 refine aeM wf (s:=s) (λm=>⟨V m++s.T,Hf m⟩) ok m0 h0 hm (λm ay=>by rw[hl m ay];exact SQ _) (λm ay=> ?_) E V0 a Q ah hQ;refine(h ah.br.ay hlt m ay _ λ_ h=>h).mono λe s' hΦ=> ?_;cases e with
 |normal=>
  obtain⟨m',q1,q2,hk,hv,G,hG,vt⟩:=hΦ;have tok:∀t x,look (V m'++s.T) t=some x->∃b,look s'.T t=some b/\Wk b x/\(look (V m') t=some x\/look s.T t=some x):=λt x e=>by
   rw[zu]at e;cases hl:look (V m') t with
   |none=>
    rw[hl]at e;have hb:look (V m++s.T) t=some x:=(by rw[zu,same m' m t hl];exact e);exact⟨x,hk.look hb hl,Wk.refl x,.inr e⟩
   |some y=>
    rw[hl]at e;cases e;obtain⟨b,h1,h2⟩:=hv (t,x) (qX hl);exact⟨b,h1,h2,.inl rfl⟩
  refine⟨m',q1,q2,?_⟩;rcases vt with rfl|⟨oI,ajZ⟩
  ·exact .inl ⟨λt x e=>by obtain⟨b,h1,h2,_⟩:=tok t x e;exact⟨b,h1,h2⟩,by rw[hG,SY]⟩
  ·refine .inr ⟨λt x e=> ?_,⟨G,hG⟩,oI⟩;obtain⟨b,h1,h2,h3⟩:=tok t x e;refine⟨b,h1,h2,?_⟩;rcases h3 with h3|h3
   ·exact ajZ (t,x) (qX h3)
   ·show Lt (Hf m').length x;rw[hl m' q2];exact hlt t x h3
 |_=>exact hΦ
theorem gA{nt:Nat}{c:T9}{Φ:am->AS->Prop}(n:Nat)(V:Nat->List (Nat×AV))(Hf:Nat->List aa)(ok:Nat->Prop)
  (BM:∀m m',(V m).map (·.1)=(V m').map (·.1)) (ij:∀p∈V 0,∃b,look s.T p.1=some b/\Wk b p.2) (Bl:Hf 0=s.H) (hl:∀m,m<=n->ok m->(Hf m).length=s.H.length) (hm:ok 0)
  (h:bM s.H->(∀t a,look s.T t=some a->Lt s.H.length a)->∀m,m<=n->ok m->∀R:AS->Prop,(∀s',(m<n/\ok (m+1)/\s7 s.T (V m) (V (m+1)) (Hf (m+1)) s')->R s')->aU lv P r nt c ⟨V m++s.T,Hf m⟩ (am.then R Φ)):aU lv P r nt (.loop c) s Φ:=by
 refine yc (measure λi=>n-i).wf V Hf (λi=>i<=n/\ok i) 0 BM ij Bl (λm h=>hl m h.1 h.2) ⟨Yd _,hm⟩ (λh1 h2 m ay R hR=> ?_);exact h h1 h2 m ay.1 ay.2 R λs' ⟨q1,q2,q3⟩=>hR s' ⟨m+1,(by show n-(m+1)<n-m;omega),⟨q1,q2⟩,q3⟩
end
theorem pI{T base Vn:List (Nat×AV)}(h1:T.drop (T.length-base.length)=base)(h2:((T.take (T.length-base.length)).all λp=>(Vn.any λq=>q.1==p.1)|| !(base.any λq=>q.1==p.1))=true):rE T base Vn:=⟨h1,h2⟩
theorem kS{H L:List aa}{x:SO}{k:AV->List aa->Prop}(hH:bM H)(h:k (.val x) H):cy H.length (H++L) (.val x) k:=jy (Wk.refl _) rfl (SQ _) hH (.val x) h
theorem jx{H L:List aa}{a b:AV}{k:AV->List aa->Prop}(hH:bM H)(hw:Wk a b)(hl:Lt H.length b)(h:k b H):cy H.length (H++L) a k:=jy hw rfl (SQ _) hH hl h
def aa.cellsOf:aa->Option (List AV)
 |.cells l _|.part _ l _|.own _ l _=>some l
 |_=>none
theorem afI(l:List AV)(e:TypeId):aa.cellsOf (.cells l e)=some l:=rfl
theorem afK(p:Nat)(l:List AV)(e:TypeId):aa.cellsOf (.part p l e)=some l:=rfl
def aa.rowOf:aa->Option (List AV)
 |.cells l _|.part _ l _|.own _ l _=>some l
 |_=>none
theorem aoT(l:List AV)(e:TypeId):aa.rowOf (.cells l e)=some l:=rfl
theorem afJ(p:Nat)(l:List AV)(e:TypeId):aa.cellsOf (.own p l e)=some l:=rfl
theorem aoU(p:Nat)(l:List AV)(e:TypeId):aa.rowOf (.own p l e)=some l:=rfl
theorem aoV(p:Nat)(l:List AV)(e:TypeId):aa.rowOf (.part p l e)=some l:=rfl
theorem aeG(T:List (Nat×AV))(H:List aa)(i off:Nat):AS.at ⟨T,H⟩ (.op i off)=((H[i]?).bind aa.cellsOf).map λl=>l.drop off:=by
 simp only[AS.at];cases H[i]?with
 |none=>rfl
 |some x=>cases x<;>rfl
theorem anw(k:TV)(n:Int):AV.parts (.val (.int k n))=some [.val (.int k n)]:=rfl
theorem ans(b:Bool):AV.parts (.val (.bool b))=some [.val (.bool b)]:=rfl
theorem anH(b:ByteArray):AV.parts (.val (.string b))=some [.val (.string b)]:=rfl
theorem anE(b:Option U2):AV.parts (.val (.pointer b))=some [.val (.pointer b)]:=rfl
theorem anA:AV.parts (.val .nilFunc)=some [.val .nilFunc]:=rfl
theorem anB:AV.parts (.val .nilIface)=some [.val .nilIface]:=rfl
theorem anx(r:Option Nat):AV.parts (.val (.map r))=some [.val (.map r)]:=rfl
theorem anr(l:List AV):AV.parts (.agg l)=some l:=rfl
theorem anG(n:Nat)(l:List AV)(e:End):AV.parts (.sl n l e)=some [.sl n l e]:=rfl
theorem alW(n:Nat)(l:List AV)(e:End):AV.len (.sl n l e)=some n:=by rw[AV.len]
theorem alV(i o n c:Nat):AV.len (.bD i o n c)=some n:=by rw[AV.len]
attribute [seval] alW alV
theorem anD(i o n c:Nat):AV.parts (.bD i o n c)=some [.bD i o n c]:=rfl
theorem anF(l:List AV):AV.parts (.rp l)=some [.rp l]:=rfl
theorem anC(i o:Nat):AV.parts (.op i o)=some [.op i o]:=rfl
theorem anu(f:Fn)(l m:List AV):AV.parts (.fn f l m)=some [.fn f l m]:=rfl
theorem anv(t:TypeId)(a:AV):AV.parts (.cS t a)=some [.cS t a]:=rfl
theorem anz(i:Nat):AV.parts (.mp i)=some [.mp i]:=rfl
theorem alG(k:TV)(n:Int):AV.leaf (.val (.int k n))=true:=rfl
theorem alC(b:Bool):AV.leaf (.val (.bool b))=true:=rfl
theorem alR(b:ByteArray):AV.leaf (.val (.string b))=true:=rfl
theorem alO(b:Option U2):AV.leaf (.val (.pointer b))=true:=rfl
theorem alJ:AV.leaf (.val .nilFunc)=true:=rfl
theorem alK:AV.leaf (.val .nilIface)=true:=rfl
theorem alH(r:Option Nat):AV.leaf (.val (.map r))=true:=rfl
theorem alQ(n:Nat)(l:List AV)(e:End):AV.leaf (.sl n l e)=true:=rfl
theorem alN(i o n c:Nat):AV.leaf (.bD i o n c)=true:=rfl
theorem alP(l:List AV):AV.leaf (.rp l)=true:=rfl
theorem alM(i o:Nat):AV.leaf (.op i o)=true:=rfl
theorem alE(f:Fn)(l m:List AV):AV.leaf (.fn f l m)=true:=rfl
theorem alF(t:TypeId)(a:AV):AV.leaf (.cS t a)=true:=rfl
theorem alI(i:Nat):AV.leaf (.mp i)=true:=rfl
theorem amZ(k:TV)(n:Int):AV.oQ (.int k n)=.val (.int k n):=rfl
theorem amW(b:Bool):AV.oQ (.bool b)=.val (.bool b):=rfl
theorem am2:AV.oQ (.slice none 0 0)=.sl 0 [] .exact:=rfl
theorem amX:AV.oQ .nilFunc=.val .nilFunc:=rfl
theorem amY:AV.oQ .nilIface=.val .nilIface:=rfl
theorem am1(a:Option U2):AV.oQ (.pointer a)=.val (.pointer a):=rfl
theorem am0(a:Option Nat):AV.oQ (.map a)=.val (.map a):=rfl
theorem arG(l:List SO):lA (.agg l.toArray)=l.map AV.oQ:=by simp[lA,Z7]
theorem arL(k:TV)(n:Int):lA (.int k n)=[.val (.int k n)]:=rfl
theorem arH(b:Bool):lA (.bool b)=[.val (.bool b)]:=rfl
theorem arO:lA (.slice none 0 0)=[.sl 0 [] .exact]:=rfl
theorem arJ:lA .nilFunc=[.val .nilFunc]:=rfl
theorem arK:lA .nilIface=[.val .nilIface]:=rfl
theorem arN(a:Option U2):lA (.pointer a)=[.val (.pointer a)]:=rfl
theorem arM(a:Option Nat):lA (.map a)=[.val (.map a)]:=rfl
theorem agO(s:AS):jJ s []=some []:=rfl
theorem agN(s:AS)(i:Nat)(x:Tg)(l:List (Nat×Tg)):jJ s ((i,x)::l)=(s.ev x).bind λa=>(jJ s l).map λaD=>(i,a)::aD:=by
 simp only[jJ];cases s.ev x with
 |none=>rfl
 |some a=>cases jJ s l<;>rfl
theorem ah1(p:Nat->Option (Nat×Nat))(c:List AV):nD p c []=some c:=rfl
theorem ah0(p:Nat->Option (Nat×Nat))(c:List AV)(i:Nat)(a:AV)(r:List (Nat×AV)):nD p c ((i,a)::r)=(p i).bind λx=>(a.parts).bind λlp=>if lp.length≠x.2\/x.1+lp.length>c.length then none else nD p (h_ c x.1 lp) r:=by
 simp only[nD];cases p i with
 |none=>rfl
 |some x=>cases a.parts<;>rfl
theorem anO(l:List (Nat×Nat))(i:Nat):gW.at (.fields l) i=l[i]?:=rfl
theorem anN(sz i:Nat):gW.at (.elems sz) i=some (i* sz,sz):=rfl
theorem arE(z:SO):gr z 0=[]:=rfl
theorem apR(s:AS)(sz m:Nat)(l:List AV)(e:End):s.src sz (.sl m l e)=some (m,l.take (m* sz)):=rfl
theorem apQ(T:List (Nat×AV))(H:List aa)(sz i off m c:Nat):AS.src ⟨T,H⟩ sz (.bD i off m c)=((H[i]?).bind aa.rowOf).map λl=>(m,(l.drop off).take (m* sz)):=by
 simp only[AS.src];cases H[i]?with
 |none=>rfl
 |some x=>cases x<;>rfl
theorem aey(n:Nat)(l:List AV)(e:End)(kO:Nat->Nat->Nat->Nat->Prop)(k:Nat->List AV->End->Prop):AV.o4 (.sl n l e) kO k=k n l e:=by rw[AV.o4]
theorem aex(i o n c:Nat)(kO:Nat->Nat->Nat->Nat->Prop)(k:Nat->List AV->End->Prop):AV.o4 (.bD i o n c) kO k=kO i o n c:=by rw[AV.o4]
theorem aeh:type_of% @sQ.eq_1:=by intros;rw[sQ.eq_1]
theorem aef(s:AS)(dst:Option Nat)(next:AS->Prop)(n m sz:Nat)(elem:TypeId)(l l':List AV):Ag s dst next n m sz elem l l' .exact=next ((⟨s.T,s.H++[.tail (n+m) sz elem]⟩:AS).put dst (.sl (n+m) (l++l') (.opn s.H.length))):=rfl
theorem aeg(s:AS)(dst:Option Nat)(next:AS->Prop)(n m sz:Nat)(elem:TypeId)(l l':List AV)(k:Nat):Ag s dst next n m sz elem l l' (.opn k)=((match s.H[k]?with
   |some (.tail n' eg fO)=>n'=n/\eg=sz/\fO=elem
   |_=>False)/\(∀a∈l',a.leaf=true)/\next ((⟨s.T,s.H.set k (.tail (n+m) sz elem)⟩:AS).put dst (.sl (n+m) (l++l') (.opn k)))):=rfl
theorem aoK(P:SJ)(T:List (Nat×AV))(H:List aa)(b t:Nat):ur P ⟨T,H⟩ (.cell b t)=(look T b).bind λp=>((⟨T,H⟩:AS).at p).bind λl=>(Ty P t).bind λx=>if x.2 then(if x.1<=l.length then some (.agg (l.take x.1))else none)else l[0]?:=rfl
section
variable {lv:Bool}{P:SJ}{s s':AS}
@[congr] theorem asU {α : Type} {x y : Option α} {k : α -> Prop} (h : x = y) : ao x k = ao y k := by rw [h]
@[congr] theorem ar2 {a b : AV} {k : Bool -> Prop} (h : a = b) : AV.asBool a k = AV.asBool b k := by rw [h]
@[congr] theorem ar3 {a b : AV} {k : TV -> Int -> Prop} (h : a = b) : AV.asInt a k = AV.asInt b k := by rw [h]
@[congr] theorem ar8 {a b : AV} {k : List AV -> Prop} (h : a = b) : AV.wu a k = AV.wu b k := by rw [h]
@[congr] theorem ar1 {a b : AV} {k : List AV -> Prop} (h : a = b) : AV.asAgg a k = AV.asAgg b k := by rw [h]
@[congr] theorem ar5 {a b : AV} {k : Nat -> Nat -> Prop} (h : a = b) : AV.o1 a k = AV.o1 b k := by rw [h]
@[congr] theorem ar4 {a b : AV} {k : Nat -> Prop} (h : a = b) : AV.rL a k = AV.rL b k := by rw [h]
@[congr] theorem ar7 {a b : AV} {k : Nat -> List AV -> End -> Prop} (h : a = b) : AV.uN a k = AV.uN b k := by rw [h]
@[congr] theorem ar6 {a b : AV} {kO : Nat -> Nat -> Nat -> Nat -> Prop} {k : Nat -> List AV -> End -> Prop} (h : a = b) : AV.o4 a kO k = AV.o4 b kO k := by rw [h]
@[congr] theorem arZ {H H' : List aa} {k : AV -> List aa -> Prop} {id nU off CE n n' c0 N8 m m' sz : Nat} {elem : TypeId} {l l' : List AV} (h0 : H = H') (h1 : id = nU) (h2 : off = CE) (h3 : n = n') (h4 : c0 = N8) (h5 : m = m') (h6 : l = l') : sQ H k id off n c0 m sz elem l = sQ H' k nU CE n' N8 m' sz elem l' := by rw [h0, h1, h2, h3, h4, h5, h6]
@[congr] theorem arR {op : VZ} {t : TypeId} {a a' b b' : AV} {k : AV -> Prop} (h : a = a') (h' : b = b') : dg P op t a b k = dg P op t a' b' k := by rw [h, h']
@[congr] theorem arQ {s' : AS} {op : VZ} {t : TypeId} {y : Tg} {a a' : AV} {k : AV -> Prop} (hs : s = s') (h : a = a') : ig P s op t y a k = ig P s' op t y a' k := by rw [hs, h]
@[congr] theorem arU {a b : AV} {k : AV -> Prop} (h : a = b) : lZ P a k = lZ P b k := by rw [h]
@[congr] theorem arP {t : TypeId} {ok : Bool} {a b : AV} {k : AV -> Prop} (h : a = b) : Ae P t ok a k = Ae P t ok b k := by rw [h]
@[congr] theorem arT {t : TypeId} {a b : AV} {k : AV -> Prop} (h : a = b) : rA P s t a k = rA P s t b k := by rw [h]
@[congr] theorem arX {t : TypeId} {a b : AV} {x y z : Option Int} {k : AV -> Prop} (h : a = b) : rB P t a x y z k = rB P t b x y z k := by rw [h]
@[congr] theorem arV {o : Tv} {k : AV -> Prop} (h : s = s') : kP P s o k = kP P s' o k := by rw [h]
@[congr] theorem ar0 {o : Tv} {k : AV -> Prop} (h : s = s') : AQ lv P s o k = AQ lv P s' o k := by rw [h]
@[congr] theorem arY {o : Tv} {next : AS -> Prop} {bad : AV -> AS -> Prop} (h : s = s') : l5 lv P s o next bad = l5 lv P s' o next bad := by rw [h]
@[congr] theorem arW {all : Array Tv} {l : List Tv} {next : AS -> Prop} {bad : AV -> AS -> Prop} (h : s = s') : gV lv P all l s next bad = gV lv P all l s' next bad := by rw [h]
@[congr] theorem asW {all : Array Tv} {l l' : List Tv} {K : AS -> Prop} (hl : l = l') (h : s = s') : mC lv P all l s K = mC lv P all l' s' K := by rw [hl, h]
@[congr] theorem asb {r : Option Nat} {nt : Nat} {c : T9} {Φ : am -> AS -> Prop} (h : s = s') : aU lv P r nt c s Φ = aU lv P r nt c s' Φ := by rw [h]
@[congr] theorem as4 {K : AS -> Prop} {Φ : am -> AS -> Prop} {e e' : am} (he : e = e') (h : s = s') : am.then K Φ e s = am.then K Φ e' s' := by rw [he, h]
@[congr] theorem asR {i : Nat} {Φ : am -> AS -> Prop} {e e' : am} (he : e = e') (h : s = s') : am.inBlock i Φ e s = am.inBlock i Φ e' s' := by rw [he, h]
end
theorem adG:type_of% @gV.eq_1:=by intros;rw[gV.eq_1]
theorem adF:type_of% @gV.eq_2:=by intros;rw[gV.eq_2]
theorem adM:type_of% @l5.eq_1:=by intros;rw[l5.eq_1]
theorem adE:type_of% @kP.eq_1:=by intros;rw[kP.eq_1]
theorem anX:type_of% @mC.eq_1:=by intros;rw[mC.eq_1]
theorem anW:type_of% @mC.eq_2:=by intros;rw[mC.eq_2]
theorem adH:type_of% @AQ.eq_1:=by intros;rw[AQ.eq_1]
theorem aoH:type_of% @gG.eq_1:=by intros;rw[gG.eq_1]
theorem aoG:type_of% @gG.eq_2:=by intros;rw[gG.eq_2]
theorem aoJ:type_of% @iD.eq_1:=by intros;rw[iD.eq_1]
theorem agQ:type_of% @eT.eq_1:=by intros;rw[eT.eq_1]
theorem agP:type_of% @eT.eq_2:=by intros;rw[eT.eq_2]
theorem adj:type_of% @Ae.eq_1:=by intros;rw[Ae.eq_1]
theorem anS:type_of% @h_.eq_1:=by intros;rw[h_.eq_1]
theorem aoI:iD []=.aJ []:=by rw[iD];simp
theorem abn(a b:AV)(l:List AV):iD (a::b::l)=.aJ (a::b::l):=by rw[iD];simp
theorem aqs(l:List AV):(AV.rp l).sure=true:=by simp[AV.sure]
theorem aqq(i j:Nat):(AV.op i j).sure=true:=by simp[AV.sure]
theorem aqm(f:TO)(x y:List AV):(AV.fn (.func f) x y).sure=true:=by simp[AV.sure]
theorem aqn(t:TypeId)(x:AV):(AV.cS t x).sure=true:=by simp[AV.sure]
theorem adA(P:SJ)(k:AV->Prop)(name:String)(t:TypeId)(av:AV):lZ P (.fn (.method name) [.cS t av] []) k=(Hp P t name/\k (.fn (.method name) [.cS t av] [])):=by rw[lZ]
theorem adC(P:SJ)(k:AV->Prop)(l:List AV):lZ P (.rp l) k=k (.rp l):=by simp[lZ,AV.sure]
theorem adB(P:SJ)(k:AV->Prop)(i j:Nat):lZ P (.op i j) k=k (.op i j):=by simp[lZ,AV.sure]
theorem ady(P:SJ)(k:AV->Prop)(f:TO)(x y:List AV):lZ P (.fn (.func f) x y) k=k (.fn (.func f) x y):=by simp[lZ,AV.sure]
theorem adD(P:SJ)(k:AV->Prop)(f)(x y:List AV):lZ P (.fn (.yield f) x y) k=k (.fn (.yield f) x y):=by simp[lZ,AV.sure]
theorem adz(P:SJ)(k:AV->Prop)(t:TypeId)(x:AV):lZ P (.cS t x) k=k (.cS t x):=by simp[lZ,AV.sure]
theorem adt(P:SJ)(s:AS)(op:VZ)(xt:TypeId)(t:Nat)(a:AV)(k:AV->Prop):ig P s op xt (.tmp t) a k=ao (s.ev (.tmp t)) λb=>dg P op xt a b k:=by rw[ig]<;>(intros;simp_all)
theorem ado(P:SJ)(s:AS)(op:VZ)(xt:TypeId)(j:TV)(m:Int)(a:AV)(k:AV->Prop):ig P s op xt (.const (.int j m)) a k=ao (s.ev (.const (.int j m))) λb=>dg P op xt a b k:=by rw[ig]<;>(intros;simp_all)
theorem adl(P:SJ)(s:AS)(op:VZ)(xt:TypeId)(c:Bool)(a:AV)(k:AV->Prop):ig P s op xt (.const (.bool c)) a k=ao (s.ev (.const (.bool c))) λb=>dg P op xt a b k:=by rw[ig]<;>(intros;simp_all)
theorem ads(P:SJ)(s:AS)(op:VZ)(xt:TypeId)(c:ByteArray)(a:AV)(k:AV->Prop):ig P s op xt (.const (.string c)) a k=ao (s.ev (.const (.string c))) λb=>dg P op xt a b k:=by rw[ig]<;>(intros;simp_all)
theorem adk(P:SJ)(s:AS)(op:VZ)(xt:TypeId)(c:Array SO)(a:AV)(k:AV->Prop):ig P s op xt (.const (.agg c)) a k=ao (s.ev (.const (.agg c))) λb=>dg P op xt a b k:=by rw[ig]<;>(intros;simp_all)
theorem adr(P:SJ)(s:AS)(op:VZ)(xt:TypeId)(c:Option U2)(a:AV)(k:AV->Prop):ig P s op xt (.const (.pointer c)) a k=ao (s.ev (.const (.pointer c))) λb=>dg P op xt a b k:=by rw[ig]<;>(intros;simp_all)
theorem adp(P:SJ)(s:AS)(op:VZ)(xt:TypeId)(c:Option U2)(m n:Nat)(a:AV)(k:AV->Prop):ig P s op xt (.const (.slice c m n)) a k=ao (s.ev (.const (.slice c m n))) λb=>dg P op xt a b k:=by rw[ig]<;>(intros;simp_all)
theorem adq(P:SJ)(s:AS)(op:VZ)(xt:TypeId)(k:AV->Prop):ig P s op xt (.const .nilIface) (.val .nilIface) k=(lS P xt=some true/\(op=.eql\/op=.neq)/\k (.val (.bool (if op== .neq then false else true)))):=by rw[ig]
theorem adn(P:SJ)(s:AS)(op:VZ)(xt t:TypeId)(x:AV)(k:AV->Prop):ig P s op xt (.const .nilIface) (.cS t x) k=(lS P xt=some true/\(op=.eql\/op=.neq)/\k (.val (.bool (if op== .neq then true else false)))):=by rw[ig]
theorem agB:((XK== .neq)=false):=rfl
theorem amL:((VX== .neq)=true):=rfl
theorem air(z:SO):AV.found z true none=.aJ [AV.of z,.val (.bool false)]:=by rw[AV.found];simp
theorem ais(z:SO)(x:Nat×SO):AV.found z true (some x)=.aJ [AV.of x.2,.val (.bool true)]:=by rw[AV.found];simp
attribute [seval] air ais
attribute [seval] adt ado adl ads adk adr adp adq adn agB amL
attribute [seval] aov aow aiU aiT aiS aiR vP agM agD agH agF agL agI agJ agE agG amh ami anU anT aqL aqN aqJ aqK aqM afr afu afo afs afp afq aiq aio aip aoM aes aeu aeB aeq aew aev aez aey aex aeh adN ad0 adW adQ Nv adV adU adS adR true_and and_true Option.bind_some List.getElem?_toArray List.getElem?_cons_succ List.getElem?_cons_zero Bool.not_true Bool.not_false true_implies false_implies if_true if_false aeH apA apB apC aoX aoW List.drop_succ_cons List.drop_zero List.take_succ_cons List.take_zero List.cons_append List.nil_append List.length_cons List.length_nil Int.toNat_natCast decide_eq_true_eq decide_eq_false_iff_not Bool.not_eq_true' Bool.not_eq_false' Bool.not_eq_eq_eq_not aeG afI afK aoT aoV aoU afJ Option.map_some uK aej uL aen aei aem Nat.zero_add List.set_cons_zero List.set_cons_succ anw ans anH anE anA anB anx anr anG anD anF anC anu anv anz List.forall_mem_cons List.not_mem_nil false_imp_iff implies_true alG alC alR alO alJ alK alH alQ alN alP alM alE alF alI amZ amW am2 amX amY am1 am0 arG arL arH arO arJ arK arN arM List.map_cons List.map_nil agO agN ah1 ah0 anO anN arE apR apQ aef aeg aoK adx adw ne_eq not_true_eq_false not_false_eq_true gt_iff_lt Nat.lt_irrefl or_self or_false false_or Nat.le_refl Nat.mul_one Nat.one_mul Nat.zero_mul Nat.mul_zero bne_iff_ne bne_eq_false_iff_eq beq_iff_eq adG adF adM adE anX anW adH aoH aoG aoJ aoI abn agQ agP adj anS abn aqs aqq aqm aqn adA adC adB ady adD adz
theorem aoS{base Vi Vn T:List (Nat×AV)}{H:List aa}(hk:rE T (Vi++base) Vn)(hv:∀p∈Vn,∃b,look T p.1=some b/\Wk b p.2):s7 base Vi Vn H ⟨T,H⟩:=⟨hk,hv,[],by simp,.inl rfl⟩
theorem abp{base Vi Vn T:List (Nat×AV)}{H G:List aa}(hk:rE T (Vi++base) Vn)(hv:∀p∈Vn,∃b,look T p.1=some b/\Wk b p.2)(ay:bM H)(hlt:∀p∈Vn,Lt H.length p.2):s7 base Vi Vn H ⟨T,H++G⟩:=⟨hk,hv,G,rfl,.inr ⟨ay,hlt⟩⟩
theorem zL{base Vi Vn T:List (Nat×AV)}{H L G:List aa}(hk:rE T (Vi++base) Vn)(hv:∀p∈Vn,∃b,look T p.1=some b/\Wk b p.2)(ay:bM (H++L))(hlt:∀p∈Vn,Lt (H++L).length p.2):s7 base Vi Vn (H++L) ⟨T,H++(L++G)⟩:=⟨hk,hv,G,(SD ..).symm,.inr ⟨ay,hlt⟩⟩
def pick (ks:List Nat)(T:List (Nat×AV)):List (Nat×AV):=ks.filterMap λk=>(look T k).map λa=>(k,a)
theorem NP{lv:Bool}{P:SJ}{r:Option Nat}{nt:Nat}{c:T9}{T:List (Nat×AV)}{H:List aa}{Φ:am->AS->Prop}(ks:List Nat)(h:aU lv P r nt c ⟨pick ks T,H⟩ Φ):aU lv P r nt c ⟨T,H⟩ Φ:=by
 refine AR (s':=⟨pick ks T,H⟩) ⟨λt a e=> ?_,rfl⟩ h;obtain⟨k,_,e'⟩:=VW.1 (qX e);obtain⟨b,hb,e'⟩:=Tq.1 e';cases e';exact⟨a,hb,Wk.refl a⟩
theorem Lv{ops:Array Tv}(lM:∀(i:Nat) o,ops[i]?=some o->∀j∈cK o,j<ops.size)(Rx:∀X:List Nat,(∃i,i<ops.size/\i∉X)->∃i o,ops[i]?=some o/\i∉X/\∀j∈cK o,j∈X):∀(fuel t:Nat)(L:Array Bool)(X:List Nat),Nq ops L X->(SV ops.size).countP (λi=> !X.contains i)<=fuel->lC ops X (UC .any ops fuel t L [])
 |0,t,L,X,hr,hc=>by
  simp only[UC,XW];refine .nil X λi hi=> ?_;have:(SV ops.size).countP (λi=> !X.contains i)=0:=by omega
  have:=List.countP_eq_zero.1 this i (by simpa using hi);simpa using this
 |fuel+1,t,L,X,hr,hc=>by
  have tX:∀i,i∈((SV ops.size).filter λi=> !L.getD i true&&((ops[i]?).map (·.after.all λe=> !Region.binds .any e||L.getD e.on false)).getD false)<->∃o,ops[i]?=some o/\i∉X/\∀j∈cK o,j∈X:=by
   intro i;simp only[Ul,TE,Th,TW];constructor
   ·rintro⟨hi,h1,h2⟩
    have ho:=SK hi;refine⟨ops[i],ho,λhx=> ?_,λj hj=> ?_⟩
    ·have:=(hr.mem i hi).2 hx;rw[SI,this]at h1;cases h1
    ·obtain⟨e,he,hb,rfl⟩:=FW.1 hj;rw[ho]at h2;simp only[UM,S8,UE]at h2;have:=h2 e he;rw[hb]at this;simp only[ak_,XU]at this;have hlt:e.on<ops.size:=lM i _ ho _ hj;refine(hr.mem _ hlt).1 ?_;rw[SI]at this;cases hx:L[e.on]?with
     |none=>rw[hx]at this;cases this
     |some b=>rw[hx]at this;cases b;cases this;rfl
   ·rintro⟨o,ho,h1,h2⟩
    have hi:i<ops.size:=(SR.1 ho).1;refine⟨hi,?_,?_⟩
    ·rw[SI,SK (by rw[hr.size];exact hi)];simp only[S8];cases hb:L[i]'(by rw[hr.size];exact hi)with
     |false=>rfl
     |true=>exact absurd ((hr.mem i hi).1 (by rw[SK (by rw[hr.size];exact hi),hb])) h1
    ·rw[ho];simp only[UM,S8,UE];intro e he;cases hb:Yr .any e with
     |false=>rfl
     |true=>
      have hj:=FW.2 ⟨e,he,hb,rfl⟩;have hlt:e.on<ops.size:=lM i _ ho _ hj;have:=(hr.mem _ hlt).2 (h2 _ hj);simp[SI,this]
  simp only[UC];generalize B7:((SV ops.size).filter λi=> !L.getD i true&&((ops[i]?).map (·.after.all λe=> !Region.binds .any e||L.getD e.on false)).getD false)=rs at tX;cases hi:rs[t % rs.length]?with
  |none=>
   have J_:rs=[]:=by
    cases rs with
    |nil=>rfl
    |cons x xs=>
     have hlt:t % (x::xs).length<(x::xs).length:=ar_ _ (by simp);rw[List.getElem?_eq_none_iff]at hi;omega
   simp only[XW];refine .nil X λi hlt=> ?_;apply Tu;intro hx;obtain⟨i',o,h1,h2,h3⟩:=Rx X ⟨i,hlt,hx⟩;have:i'∈rs:=(tX i').2 ⟨o,h1,h2,h3⟩;rw[J_]at this;cases this
  |some i=>
   simp only[];obtain⟨o,ho,h1,h2⟩:=(tX i).1 (Ti hi);have hlt:i<ops.size:=(SR.1 ho).1;rw[linearise_go_acc,List.reverse_singleton,Y3];refine .cons o ho h1 h2 (Lv lM Rx fuel _ _ (i::X) ⟨by simp[hr.size],λk hk=> ?_⟩ ?_)
   ·by_cases qE:k=i
    ·subst qE;simp[S_ (by rw[hr.size];exact hlt)]
    ·rw[SU (Ne.symm qE),hr.mem k hk];simp[qE]
   ·have fl:i∈(SV ops.size):=(by simpa using hlt);have:(SV ops.size).countP (λk=> !(i::X).contains k)<(SV ops.size).countP (λk=> !X.contains k):=by
     exact Ol fl (λk hk=>by simp only[TW,Up,decide_eq_false_iff_not]at hk⊢;exactλh=>hk (Tb _ h)) (by simpa using h1) (by simp)
    omega
theorem IJ{X:List Nat}:∀{l:List Nat},(∃i∈l,i∉X)->∃A i B,l=A++i::B/\i∉X/\∀a∈A,a∈X
 |[],⟨_,h,_⟩=>by cases h
 |x::l,⟨i,h,hn⟩=>by
  by_cases hx:x∈X
  ·have hi:i∈l:=(SL.1 h).resolve_left λe=>hn (e▸hx);obtain⟨A,j,B,h1,h2,h3⟩:=IJ ⟨i,hi,hn⟩;exact⟨x::A,j,B,by rw[h1];rfl,h2,λa ha=>(SL.1 ha).elim (λe=>e▸hx) (h3 a)⟩
  ·exact⟨[],x,l,rfl,hx,by simp⟩
structure Ap (k:AV->List aa->Prop):Type where
 n:Nat
def Dh (lv:Bool)(P:SJ)(f:AV)(H:List aa)(aD:List AV)(k:AV->List aa->Prop)(_t:Ap k):Prop:=∃av H',iG lv P f H aD (λb sU=>b=av/\sU=H') (λ_ _=>False)/\k av H'
def Hh (lv:Bool)(P:SJ)(f:AV)(name:String)(H:List aa)(aD:List AV)(k:AV->List aa->Prop)(_t:Ap k):Prop:=∃av H',Dn lv P f name H aD (λb sU=>b=av/\sU=H') (λ_ _=>False)/\k av H'
theorem u5{lv:Bool}{P:SJ}{f:AV}{H:List aa}{aD:List AV}{k:AV->List aa->Prop}{t:Ap k}(av:AV)(H':List aa)(h:iG lv P f H aD (λb sU=>b=av/\sU=H') (λ_ _=>False))(hk:k av H'):Dh lv P f H aD k t:=⟨av,H',h,hk⟩
def jG (x:Option aa)(X Y:Prop)(_t:lB X Y):Prop:=match x with
 |some (.own _ _ _)=>X
 |_=>Y
def p7 (G H:List aa)(k:AV->List aa->Prop)(n m sz:Nat)(elem:TypeId)(l l':List AV):End->Prop
 |.exact=>jG G[H.length]? (0<m/\k (.bD H.length 0 (n+m) 0) (H++[.own sz (l++l') elem])) (k (.sl (n+m) (l++l') (.opn H.length)) (H++[.tail (n+m) sz elem])) ⟨0⟩
 |.opn i=>(match H[i]?with
   |some (.tail n' eg fO)=>n'=n/\eg=sz/\fO=elem
   |_=>False)/\(∀a∈l',a.leaf=true)/\k (.sl (n+m) (l++l') (.opn i)) (H.set i (.tail (n+m) sz elem))
 |.shut=>m=0/\k (.sl n l .shut) H
section
variable (lv:Bool)(P:SJ)
def jE (G:List aa)(s:AS)(o:Tv)(k:AV->List aa->Prop):Prop:=match o.op with
 |.box t x=>ao (s.ev x) λa=>ao a.parts λl=>k (.op s.H.length 0) (s.H++[.cells l t])
 |.alloc t=>ao (ey P t) λz=>k (.op s.H.length 0) (s.H++[.cells (lA z) t])
 |.store t x y=>ao (s.ev x) λp=>ao (s.ev y) λa=>ao a.parts λlp=>p.o1 λid off=>match s.H[id]?with
  |some (.cells l el)=>(ao (Ty P t) λx=>lp.length=x.1)/\off+lp.length<=l.length/\(∀a∈lp,a.leaf=true)/\k (.val undef) (s.H.set id (.cells (h_ l off lp) el))
  |some (.own p l el)=>(ao (Ty P t) λx=>lp.length=x.1)/\off+lp.length<=l.length/\(∀a∈lp,a.leaf=true)/\k (.val undef) (s.H.set id (.own p (h_ l off lp) el))
  |_=>False
 |.call c=>match c.callee with
  |.builtin .append=>match c.args.toList,c.argTypes.toList with
   |[x,y],[t,t']=>ao (jo P t t') λ(elem,sz,_)=>ao (s.ev x) λa=>ao (s.ev y) λb=>a.o4 (λid off n c0=>ao (s.src sz b) λ(m,l')=>sQ s.H k id off n c0 m sz elem l') λn l e=>ao (s.src sz b) λ(m,l')=>l.length=n* sz/\l'.length=m* sz/\n+m<=2^30/\p7 G s.H k n m sz elem l l' e
   |_,_=>False
  |.value x=>ao (s.ev x) λf=>ao (eT s c.args.toList) λaD=>Dh lv P f s.H aD k ⟨0⟩
  |.invoke x name=>ao (s.ev x) λf=>ao (eT s c.args.toList) λaD=>Hh lv P f name s.H aD k ⟨0⟩
  |_=>False
 |.makeSlice t x y=>ao (Aq P t) λ(e,sz,z)=>ao (s.ev x) λa=>ao (s.ev y) λb=>a.asInt λ_ n=>b.asInt λ_ n'=>n'=n/\0<=n/\n<=2^30/\k (.bD s.H.length 0 n.toNat n.toNat) (s.H++[.cells (gr z (n.toNat* sz)) e])
 |.buildSlice t len parts=>ao (qf P t) λ(e,sz,z)=>len* sz<=2^24/\ao (jJ s parts.toList) λlE=>ao (nD (gW.at (.elems sz)) (gr z (len* sz)) lE) λl=>k (.bD s.H.length 0 len len) (s.H++[.cells l e])
 |_=>False
end
section
variable {lv:Bool}{P:SJ}{r:Option Nat}{o:Tv}{s:AS}{k:AV->List aa->Prop}
theorem Step.drop{G:List aa}{av mc:AV}{bad:AV->AS->Prop}(h:Step lv P r o s (λs'=>s'=(⟨s.T,s.H++G⟩:AS).put o.dst av) bad)(hw:Wk av mc)(hl:∀(E:Env)(V:View)(a:Act),Conc E V s.H->bZ E s.T a.tmps->Lt s.H.length mc):Step lv P r o s (λs'=>s'=(⟨s.T,s.H⟩:AS).put o.dst mc) bad:=λE V a N Q hc ht hd hf n1 n2=>by
 refine h E V a N Q hc ht hd hf (λE' V' a' s' q1 q2 q3 q4=> ?_) n2;subst q4;rw[eX]at q2;have eU:((⟨s.T,s.H++G⟩:AS).put o.dst av).He ((⟨s.T,s.H⟩:AS).put o.dst mc):=by
  refine⟨λt x e=> ?_,⟨G,by rw[eX,eX]⟩,by rw[eX];exact hc.ay⟩;rw[eX];have hold:look s.T t=some x->Lt s.H.length x:=λe=>by rw[<- hc.n];exact(ht t x e).2.lt
  cases db:o.dst with
  |none=>
   rw[db]at e;simp only[AS.put]at e⊢;exact⟨x,e,Wk.refl x,hold e⟩
  |some d=>
   rw[db]at e;simp only[AS.put,look]at e⊢;by_cases Qx:d=t
   ·rw[if_pos Qx]at e⊢;cases e;exact⟨av,rfl,hw,hl E V a hc ht⟩
   ·rw[if_neg Qx]at e⊢;exact⟨x,e,Wk.refl x,hold e⟩
 have ah:At E' V' ((⟨s.T,s.H++G⟩:AS).put o.dst av) a' a'.tmps.size:=⟨by rw[eX];exact q2,q3,rfl⟩;have aQ:=ah.cut eU;rw[eX]at aQ;refine n1 _ V' a' _ ⟨CY (SQ _) (by rw[q2.n];simp) q1.le hc.n,q1.size,q1.defers,q1.role,q1.deaf⟩ aQ.br aQ.tok rfl
end
section
variable {lv:Bool}{P:SJ}{r:Option Nat}{o:Tv}{s:AS}{G:List aa}{k:AV->List aa->Prop}
theorem dV{α:Type}{x:Option α}{a:α}{k:α->Prop}(h:x=some a)(hk:k a):ao x k:=by rw[h,ao];exact hk
theorem PF{x:Option aa}{X Y:Prop}{t:lB X Y}(h:jG x X Y t):((∃a b c,x=some (.own a b c))/\X)\/((∀a b c,x≠some (.own a b c))/\Y):=by
 unfold jG at h;split at h
 ·exact .inl ⟨⟨_,_,_,rfl⟩,h⟩
 ·rename_i hx;exact .inr ⟨λa b c e=>hx a b c e,h⟩
theorem aiC{x:Option aa}{X Y:Prop}{t:lB X Y}{a:Nat}{b:List AV}{c:TypeId}(h:x=some (.own a b c))(hX:X):jG x X Y t:=by subst h;exact hX
theorem aiF{x:Option aa}{X Y:Prop}{t:lB X Y}(h:∀a b c,x≠some (.own a b c))(hY:Y):jG x X Y t:=by
 unfold jG;split
 ·exact absurd rfl (h _ _ _)
 ·exact hY
theorem p7.ex{H:List aa}{n m sz:Nat}{elem:TypeId}{l l':List AV}{e:End}(h:p7 G H k n m sz elem l l' e):∃av H',p7 G H (λa h=>a=av/\h=H') n m sz elem l l' e/\k av H':=by
 cases e with
 |exact=>
  rcases PF (t:=⟨0⟩) h with⟨⟨a,b,c,e⟩,h0,h1⟩|⟨e,h1⟩
  ·exact⟨_,_,aiC (t:=⟨0⟩) e ⟨h0,rfl,rfl⟩,h1⟩
  ·exact⟨_,_,aiF (t:=⟨0⟩) e ⟨rfl,rfl⟩,h1⟩
 |shut=>exact⟨_,_,⟨h.1,rfl,rfl⟩,h.2⟩
 |opn i=>exact⟨_,_,⟨h.1,h.2.1,rfl,rfl⟩,h.2.2⟩
theorem sQ.ex{H:List aa}{id off n c0 m sz:Nat}{elem:TypeId}{l':List AV}(h:sQ H k id off n c0 m sz elem l'):∃av H',sQ H (λa h=>a=av/\h=H') id off n c0 m sz elem l'/\k av H':=by
 obtain⟨h1,h2,h3,h4,h5,h6⟩:=h;split at h6
 ·rename_i hk;obtain⟨g1,g2,g3,g4⟩:=h6;refine⟨_,_,⟨h1,h2,h3,h4,h5,?_⟩,g4⟩;rw[hk];exact⟨g1,g2,g3,rfl,rfl⟩
 ·exact h6.elim
end
section
variable {lv:Bool}{P:SJ}{r:Option Nat}{o:Tv}{s:AS}{next:AS->Prop}{bad:AV->AS->Prop}
theorem acb{t e:TypeId}{len sz:Nat}{z:SO}{parts:Array (Nat×Tg)}{lE:List (Nat×AV)}{l:List AV}(ho:o.op=.buildSlice t len parts)(ht:qf P t=some (e,sz,z))(aT:len* sz<=2^24)(hp:jJ s parts.toList=some lE)
  (hl:nD (gW.at (.elems sz)) (gr z (len* sz)) lE=some l) (hn:next ((⟨s.T,s.H++[.cells l e]⟩:AS).put o.dst (.bD s.H.length 0 len len))):Step lv P r o s next bad:=by
 intro E V a N Q hc aF hd bw h1 _;unfold qf at ht;split at ht
 ·rename_i e' hu;obtain⟨i,hi,ht⟩:=Td.1 ht;obtain⟨z',hz,ht⟩:=Tq.1 ht;cases ht;refine⟨bw,?_⟩;unfold execOp;rw[ho];dsimp only;refine az ?_;unfold Instr.buildSlice;refine dW hu ?_;dsimp only;refine jD hi ?_;rw[if_neg (by omega)];obtain⟨hlen,bi⟩:=D4 aF hp;obtain⟨ez,mV,tK⟩:=A7 (H_ (E:=E) z (len* i.size)) hlen bi hl;have fin:∀(rr:Nat),V.fresh rr->aO P (V.upd rr (.cells ez e)) (pure (W5 (.slice (some ⟨rr,0,none⟩) len len))) (l_ lv P r o a N Q) (λv V'=>Q (.panic [{v,recovered:=false}]) a V'):=λrr hf=>by
   have nR:E.Le (E.add rr V.ab):=E.pK rr (λb o v h=>by rw[<- hc.I];exact h);have bf:Conc (E.add rr V.ab) (V.upd rr (.cells ez e)) (s.H++[.cells l e]):=by
    refine hc.add hf _ ⟨⟨_,?_,tK.mono nR⟩,λo=> ?_⟩ (λb e=> ?_)
    ·rw[Env.dB];simp[View.upd]
    ·rw[Env.dB];exact hf.2 o
    ·simp only[bJ,Env.dB,Tl]at e;exact e.symm
   have oA:ap (E.add rr V.ab) (.bD s.H.length 0 len len) (.slice (some ⟨rr,0,none⟩) len len):=by
    have:=ap.bD (E:=E.add rr V.ab) (id:=s.H.length) (off:=0) (n:=len) (cap:=len) (cap':=len) (by show _<E.n+1;rw[hc.n];omega) ⟨by omega,λ_=>rfl,λh=>absurd h (by omega)⟩;have e:(E.add rr V.ab).blk s.H.length=rr:=(by rw[<- hc.n];exact E.dB rr _);rwa [e]at this
   exact aq (h1 _ _ (a.put o.dst _) _ ⟨nR,dR _ _ _,put_defers _ _ _,rfl,rfl⟩ (by rw[eX];exact bf) (bZ.gF (s:=⟨s.T,s.H++[.cells l e]⟩) (aF.mono nR) hd oA) hn)
  have e2:(λj=>some (j* i.size,i.size))=gW.at (.elems i.size):=rfl;rw[e2];by_cases h0:len* i.size=0
  ·rw[if_pos h0];refine az (aq ?_);rw[h0]at mV⊢;rw[show WK 0=#[]from rfl]at mV⊢;simp only[List.map_toArray,List.map_nil,VJ]at mV⊢;rw[mV];unfold newRow;exact az (az (az (nY λrr hf=>cD (aq (aq (aq (fin rr hf)))))))
  ·rw[if_neg h0];refine az (az ?_);unfold typeInfo;refine az (pP (cD ?_));rw[hi];refine aq ?_;rw[hz];refine aq (az (aq ?_));rw[VJ,mV];unfold newRow;exact az (az (az (nY λrr hf=>cD (aq (aq (aq (fin rr hf)))))))
 ·cases ht
end
section
variable {lv:Bool}{P:SJ}{r:Option Nat}{o:Tv}{s:AS}{G:List aa}{k:AV->List aa->Prop}
theorem jE.ex(h:jE lv P G s o k):∃av H',jE lv P G s o (λa h=>a=av/\h=H')/\k av H':=by
 unfold jE at h⊢;generalize o.op=op at h⊢;cases op with
 |box t x=>
  obtain⟨a,h1,h⟩:=h.out;obtain⟨l,h2,h⟩:=h.out;exact⟨_,_,dV h1 (dV h2 ⟨rfl,rfl⟩),h⟩
 |alloc t=>
  obtain⟨z,h1,h⟩:=h.out;exact⟨_,_,dV h1 ⟨rfl,rfl⟩,h⟩
 |store t x y=>
  obtain⟨p,h1,hA⟩:=h.out;obtain⟨a,h2,hB⟩:=hA.out;obtain⟨lp,h3,hC⟩:=hB.out;obtain⟨id,off,e1,hD⟩:=AN hC;subst e1;clear h hA hB hC;split at hD
  ·rename_i l el hk;refine⟨_,_,dV h1 (dV h2 (dV h3 ?_)),hD.2.2.2⟩;unfold AV.o1;dsimp only;rw[hk];exact⟨hD.1,hD.2.1,hD.2.2.1,rfl,rfl⟩
  ·rename_i p l el hk;refine⟨_,_,dV h1 (dV h2 (dV h3 ?_)),hD.2.2.2⟩;unfold AV.o1;dsimp only;rw[hk];exact⟨hD.1,hD.2.1,hD.2.2.1,rfl,rfl⟩
  ·exact hD.elim
 |call c=>
  dsimp only at h⊢;generalize c.callee=cl at h⊢;generalize c.args.toList=xs at h⊢;generalize c.argTypes.toList=ts at h⊢;cases cl with
  |builtin b=>
   cases b with
   |append=>
    dsimp only at h⊢;split at h
    ·obtain⟨⟨elem,sz,z⟩,h1,hA⟩:=h.out;obtain⟨a,h2,hB⟩:=hA.out;obtain⟨b,h3,hC⟩:=hB.out;rcases HB hC with⟨id,off,n,c0,e1,hD⟩|⟨n,l,e,e1,hD⟩
     ·obtain⟨⟨m,l'⟩,h4,h5⟩:=hD.out;subst e1;obtain⟨av,H',g1,g2⟩:=h5.ex;refine⟨av,H',dV h1 (dV h2 (dV h3 ?_)),g2⟩;simp only[AV.o4];exact dV h4 g1
     ·obtain⟨⟨m,l'⟩,h4,h5,h6,h7,h8⟩:=hD.out;subst e1;obtain⟨av,H',g1,g2⟩:=h8.ex;refine⟨av,H',dV h1 (dV h2 (dV h3 ?_)),g2⟩;simp only[AV.o4];exact dV h4 ⟨h5,h6,h7,g1⟩
    ·exact h.elim
   |_=>exact h.elim
  |value x=>
   obtain⟨f,h1,hA⟩:=h.out;obtain⟨aD,h2,hB⟩:=hA.out;obtain⟨av,H',g1,g2⟩:=hB;exact⟨av,H',dV h1 (dV h2 ⟨av,H',g1,rfl,rfl⟩),g2⟩
  |invoke x name=>
   obtain⟨f,h1,hA⟩:=h.out;obtain⟨aD,h2,hB⟩:=hA.out;obtain⟨av,H',g1,g2⟩:=hB;exact⟨av,H',dV h1 (dV h2 ⟨av,H',g1,rfl,rfl⟩),g2⟩
 |makeSlice t x y=>
  obtain⟨⟨e,sz,z⟩,h1,hA⟩:=h.out;obtain⟨a,h2,hB⟩:=hA.out;obtain⟨b,h3,hC⟩:=hB.out;obtain⟨j,n,e1,hD⟩:=nB hC;obtain⟨j',n',e2,hE⟩:=nB hD;clear h hA hB hC hD;subst e1 e2;exact⟨_,_,dV h1 (dV h2 (dV h3 ⟨hE.1,hE.2.1,hE.2.2.1,rfl,rfl⟩)),hE.2.2.2⟩
 |buildSlice t len parts=>
  obtain⟨⟨e,sz,z⟩,h1,h2,hA⟩:=h.out;obtain⟨lE,h3,hB⟩:=hA.out;obtain⟨l,h4,hC⟩:=hB.out;exact⟨_,_,dV h1 ⟨h2,dV h3 (dV h4 ⟨rfl,rfl⟩)⟩,hC⟩
 |_=>exact h.elim
theorem jE.step{av:AV}{H':List aa}{bad:AV->AS->Prop}(h:jE lv P G s o (λa h=>a=av/\h=H')):Step lv P r o s (λs'=>s'=(⟨s.T,H'⟩:AS).put o.dst av) bad:=by
 unfold jE at h;split at h
 ·rename_i t x ho;obtain⟨a,h1,h⟩:=h.out;obtain⟨l,h2,h⟩:=h.out;obtain⟨e1,e2⟩:=h;exact aca ho h1 h2 (by rw[e1,e2])
 ·rename_i t ho;obtain⟨z,h1,h⟩:=h.out;obtain⟨e1,e2⟩:=h;exact ab7 ho h1 (by rw[e1,e2])
 ·rename_i t x y ho;obtain⟨p,h1,hA⟩:=h.out;obtain⟨a,h2,hB⟩:=hA.out;obtain⟨lp,h3,hC⟩:=hB.out;obtain⟨id,off,e1,hD⟩:=AN hC;clear h hA hB hC;subst e1;split at hD
  ·rename_i l el hk;obtain⟨q1,q2,q3,q4,Mm⟩:=hD;obtain⟨⟨n,g⟩,q5,q6⟩:=q1.out;exact acg ho q5 h1 hk h2 h3 q6 q2 q3 (by rw[q4,Mm])
  ·rename_i p l el hk;obtain⟨q1,q2,q3,q4,Mm⟩:=hD;obtain⟨⟨n,g⟩,q5,q6⟩:=q1.out;exact ach ho q5 h1 hk h2 h3 q6 q2 q3 (by rw[q4,Mm])
  ·exact hD.elim
 ·rename_i c ho;split at h
  ·rename_i aV;split at h
   ·rename_i x y t t' ha ht;obtain⟨⟨elem,sz,z⟩,h1,hA⟩:=h.out;obtain⟨a,h2,hB⟩:=hA.out;obtain⟨b,h3,hC⟩:=hB.out;rcases HB hC with⟨id,off,n,c0,e1,hD⟩|⟨n,l,e,e1,hD⟩
    ·clear h hA hB hC;subst e1;obtain⟨⟨m,l'⟩,h4,rfl,g2,g3,g4,g5,hE⟩:=hD.out;split at hE
     ·rename_i hk;obtain⟨rfl,rfl,g6,g7,g8⟩:=hE;exact ab8 ho aV (mI ha) (ru ht) h1 h2 g2 hk rfl h3 h4 g6 g3 g4 g5 (by rw[g7,g8])
     ·exact hE.elim
    ·clear h hA hB hC;subst e1;obtain⟨⟨m,l'⟩,h4,h5,h6,h7,h8⟩:=hD.out;cases e with
     |exact=>
      rcases PF (t:=⟨0⟩) h8 with⟨_,h0,e1,e2⟩|⟨_,e1,e2⟩
      ·exact ab9 ho aV (mI ha) (ru ht) h1 h2 h3 h4 h5 h6 h7 h0 (by rw[e1,e2])
      ·exact step_append ho aV (mI ha) (ru ht) h1 h2 h3 h4 h5 h6 h7 (by show (_:AS)=_;rw[<- e1,<- e2])
     |shut=>
      obtain⟨e0,e1,e2⟩:=h8;exact step_append ho aV (mI ha) (ru ht) h1 h2 h3 h4 h5 h6 h7 ⟨e0,by rw[<- e1,<- e2]⟩
     |opn i=>
      obtain⟨e0,e0',e1,e2⟩:=h8;exact step_append ho aV (mI ha) (ru ht) h1 h2 h3 h4 h5 h6 h7 ⟨e0,e0',by rw[<- e1,<- e2]⟩
   ·exact h.elim
  ·rename_i x aV;obtain⟨f,h1,hA⟩:=h.out;obtain⟨aD,h2,hB⟩:=hA.out;obtain⟨a0,H0,g1,g2,g3⟩:=hB;subst g2 g3;exact MI ho aV h1 h2 (g1.mono (λa H h=>by rw[h.1,h.2]) λ_ _ h=>h.elim)
  ·rename_i x name aV;obtain⟨f,h1,hA⟩:=h.out;obtain⟨aD,h2,hB⟩:=hA.out;obtain⟨a0,H0,g1,g2,g3⟩:=hB;subst g2 g3;exact acd ho aV h1 h2 (λE V cv vs hc hd oB=>(g1 E V cv vs hc hd oB).mono (λ_ _ x=>Nx.mono (λ_ _ y=>y.mono (λa H h=>by rw[h.1,h.2]) λ_ _ h=>h.elim) x) λ_ _ y=>y.mono (λa H h=>by rw[h.1,h.2]) λ_ _ h=>h.elim)
  ·exact h.elim
 ·rename_i t x y ho;obtain⟨⟨e,sz,z⟩,h1,hA⟩:=h.out;obtain⟨a,h2,hB⟩:=hA.out;obtain⟨b,h3,hC⟩:=hB.out;obtain⟨j,n,e1,hD⟩:=nB hC;obtain⟨j',n',e2,hE⟩:=nB hD;clear h hA hB hC hD;subst e1 e2;obtain⟨e3,h4,h5,h6,h7⟩:=hE;subst e3;obtain⟨m,rfl⟩:∃m:Nat,n'=m:=⟨n'.toNat,by omega⟩;exact ace ho h1 h2 h3 (by omega) (by rw[Vw]at h6 h7;rw[h6,h7])
 ·rename_i t len parts ho;obtain⟨⟨e,sz,z⟩,h1,h2,hA⟩:=h.out;obtain⟨lE,h3,hB⟩:=hA.out;obtain⟨l,h4,h5,h6⟩:=hB.out;exact acb ho h1 h2 h3 h4 (by rw[h5,h6])
 ·exact h.elim
theorem jE.congr{T T':List (Nat×AV)}{H:List aa}(h:∀x∈o.op.operands,AS.ev ⟨T,H⟩ x=AS.ev ⟨T',H⟩ x)(ha:jE lv P G ⟨T,H⟩ o k):jE lv P G ⟨T',H⟩ o k:=by
 unfold jE at ha⊢;generalize o.op=op at h ha⊢;cases op with
 |box t x=>dsimp only at ha⊢;rw[<- h x (by simp[Tt])];exact ha
 |alloc t=>exact ha
 |store t x y=>dsimp only at ha⊢;rw[<- h x (by simp[Tt]),<- h y (by simp[Tt])];exact ha
 |call c=>
  have cI:∀x∈c.args.toList,AS.ev ⟨T,H⟩ x=AS.ev ⟨T',H⟩ x:=λx hx=>h x (by simp[Tt,VN];exact .inr (by simpa using hx));dsimp only at ha⊢;split at ha
  ·split at ha
   ·rename_i x y t t' hx ht;rw[hx]at cI;rw[<- cI x (by simp),<- cI y (by simp)];exact ha
   ·exact ha.elim
  ·rename_i x aV;rw[<- h x (by simp[Tt,VN,aV]),<- A6 _ cI];exact ha
  ·rename_i x name aV;rw[<- h x (by simp[Tt,VN,aV]),<- A6 _ cI];exact ha
  ·exact ha.elim
 |makeSlice t x y=>dsimp only at ha⊢;rw[<- h x (by simp[Tt]),<- h y (by simp[Tt])];exact ha
 |buildSlice t len parts=>
  have e:jJ ⟨T',H⟩ parts.toList=jJ ⟨T,H⟩ parts.toList:=by
   have hp:∀p∈parts.toList,AS.ev ⟨T,H⟩ p.2=AS.ev ⟨T',H⟩ p.2:=λp hp=>h p.2 (by simp[Tt];exact⟨p.1,by simpa using hp⟩);clear ha;generalize parts.toList=l at hp;induction l with
   |nil=>rfl
   |cons p l ih=>simp only[jJ,hp p Tw,ih λq hq=>hp q (Tb _ hq)]
  dsimp only at ha⊢;rw[e];exact ha
 |_=>exact ha.elim
end
def mP (acc:List (Nat×List Nat))(j:Nat):List Nat:=((acc.find? (·.1==j)).map (·.2)).getD []
def gh (ops:Array Tv):List Nat->List (Nat×List Nat)->List (Nat×List Nat)
 |[],acc=>acc
 |i::l,acc=>match ops[i]?with
  |some o=>gh ops l ((i,(cK o++(cK o).flatMap (mP acc)).eraseDups)::acc)
  |none=>gh ops l acc
def sP:List Nat->List (List Nat)
 |[]=>[[]]
 |x::l=>sP l++(sP l).map (x::·)
def vN (cl:List (Nat×List Nat))(es:List Nat)(i:Nat)(D:List Nat):Bool:=
 !D.contains i&&es.all λe=>(!(mP cl i).contains e||D.contains e)&&(!D.contains e||(!(mP cl e).contains i&&es.all λe'=> !(mP cl e).contains e'||D.contains e'))
def sF (es:List Nat)(i:Nat)(D:List Nat):List Nat:=es.filter λe=>e==i||D.contains e
structure qa where
 i:Nat
 eff:Bool
 aft:List Nat
 LV:List (List Nat×List Nat)
 deriving DecidableEq
def entry (cl:List (Nat×List Nat))(es X:List Nat)(i:Nat):qa:=
 let cur:=es.filter λe=>X.contains e
 ⟨i,es.contains i,sF es i cur,((sP es).filter λD=>vN cl es i D&&D !=cur).map λD=>(D,sF es i D)⟩
def pN (cl:List (Nat×List Nat))(es:List Nat):List Nat->List Nat->List qa
 |_,[]=>[]
 |X,i::B=>entry cl es X i::pN cl es (i::X) B
def aba (ops:Array Tv)(es ord:List Nat):List qa:=pN (gh ops ord []) es [] ord
def jS (ops:Array Tv):List Nat->List Nat->Bool
 |_,[]=>true
 |X,i::B=> !X.contains i&&(match ops[i]?with
  |some o=>(cK o).all X.contains
  |none=>false)&&jS ops (i::X) B
def qp (nt:Nat)(ops:Array Tv)(es ord:List Nat):Bool:=
 let cl:=gh ops ord [];decide (ord.length=ops.size)&&jS ops [] ord&&ord.all λi=>match ops[i]?with
  |some o=>o.dst.all (·<nt)&& !lR o.op&&o.guard.isNone&&
   (ord.all λj=>i==j||match o.dst,cQ ops j with
    |some d,some d'=>d !=d'
    |_,_=>true)&&
   (o.op.operands.toList.all λx=>match x with
    |.tmp t=>ord.all λj=>cQ ops j !=some t||(cK o).contains j||(mP cl j).contains i
    |_=>true)
  |none=>false
theorem PH{acc:List (Nat×List Nat)}{j k:Nat}(h:k∈mP acc j):∃l,(j,l)∈acc/\k∈l:=by
 unfold mP at h;cases e:acc.find? (·.1==j)with
 |none=>rw[e]at h;simp at h
 |some x=>
  rw[e]at h;obtain⟨j',l⟩:=x;have h1:=List.mem_of_find?_eq_some e;have h2:=List.find?_some e;simp only[beq_iff_eq]at h2;subst h2;exact⟨l,h1,by simpa using h⟩
theorem HU{ops:Array Tv}:∀(ord:List Nat)(acc:List (Nat×List Nat)),(∀i l,(i,l)∈acc->∀j∈l,Reach ops i j)->∀i l,(i,l)∈gh ops ord acc->∀j∈l,Reach ops i j
 |[],acc,h=>h
 |x::ord,acc,h=>by
  unfold gh;split
  ·rename_i o ho;refine HU ord _ λi l hm j hj=> ?_;rcases SL.1 hm with e|hm
   ·cases e;rw[Y_,SS]at hj;rcases hj with hj|hj
    ·exact .Ik ho hj
    ·obtain⟨k,hk,hj⟩:=S7.1 hj;obtain⟨l',h1,h2⟩:=PH hj;exact .more ho hk (h _ _ h1 _ h2)
   ·exact h i l hm j hj
  ·exact HU ord acc h
theorem yi{ops:Array Tv}{ord:List Nat}{i j:Nat}(h:j∈mP (gh ops ord []) i):Reach ops i j:=by
 obtain⟨l,h1,h2⟩:=PH h;exact HU ord [] (by simp) i l h1 j h2
theorem D7(p:Nat->Bool):∀l:List Nat,l.filter p∈sP l
 |[]=>by simp[sP]
 |x::l=>by
  unfold sP;rw[SS];by_cases h:p x=true
  ·rw[Yw h];exact .inr (Tm.2 ⟨_,D7 p l,rfl⟩)
  ·rw[Yx h];exact .inl (D7 p l)
structure xU (nt:Nat)(ops:Array Tv)(ord:List Nat):Prop where
 full:∀i,i<ops.size->i∈ord
 lt:∀i∈ord,i<ops.size
 top:jS ops [] ord=true
 dst:∀(i:Nat) o d,ops[i]?=some o->o.dst=some d->d<nt
 uX:∀(i:Nat) o,ops[i]?=some o->lR o.op=false
 Bd:∀(i:Nat) o,ops[i]?=some o->o.guard=none
 Ab:∀(i j d:Nat),cQ ops i=some d->cQ ops j=some d->i=j
 LU:∀(i:Nat) o t j,ops[i]?=some o-> .tmp t∈o.op.operands->cQ ops j=some t->j∈cK o\/Reach ops j i
theorem CW{ops:Array Tv}:∀{ord X:List Nat},jS ops X ord=true->ord.Nodup/\(∀i∈ord,i∉X)/\∀i∈ord,i<ops.size
 |[],_,_=>⟨WM,by simp,by simp⟩
 |i::B,X,h=>by
  simp only[jS,Th,TW,Up,decide_eq_false_iff_not]at h;obtain⟨⟨h1,h2⟩,h3⟩:=h;obtain⟨q1,q2,q3⟩:=CW h3;refine⟨VS.2 ⟨λhm=>q2 i hm (Tw ..),q1⟩,λj hj=> ?_,λj hj=> ?_⟩
  ·rcases SL.1 hj with rfl|hj
   ·exact h1
   ·exactλhx=>q2 j hj (Tb _ hx)
  ·rcases SL.1 hj with rfl|hj
   ·apply Tu;intro hn;rw[YC (by omega)]at h2;cases h2
   ·exact q3 j hj
theorem qp.out{nt:Nat}{ops:Array Tv}{es ord:List Nat}(h:qp nt ops es ord=true):xU nt ops ord:=by
 unfold qp at h;simp only[Th,decide_eq_true_eq]at h;obtain⟨⟨hlen,nc⟩,h⟩:=h;obtain⟨vC,_,hlt⟩:=CW nc;have yU:∀i,i<ops.size->i∈ord:=λi hi=>by
  apply Tu;intro hn;have lg:(i::ord)⊆SV ops.size:=λj hj=>by
   rcases SL.1 hj with rfl|hj
   ·simpa using hi
   ·simpa using hlt j hj
  have:=(VS.2 ⟨hn,vC⟩).length_le_of_subset lg;simp at this;omega
 have key:∀(i:Nat) o,ops[i]?=some o->o.dst.all (·<nt)=true/\lR o.op=false/\o.guard.isNone=true/\(∀j∈ord,(i==j||match o.dst,cQ ops j with
    |some d,some d'=>d !=d'
    |_,_=>true)=true)/\(∀x∈o.op.operands.toList,(match x with
    |.tmp t=>ord.all λj=>cQ ops j !=some t||(cK o).contains j||(mP (gh ops ord []) j).contains i
    |_=>true)=true):=λi o ho=>by
  have hi:i<ops.size:=(SR.1 ho).1;have:=Tx.1 h i (yU i hi);rw[ho]at this;simp only[Th,Tx,TW]at this;exact⟨this.1.1.1.1,this.1.1.1.2,this.1.1.2,this.1.2,this.2⟩
 have Qu:∀j d,cQ ops j=some d->j<ops.size:=λj d e=>by
  apply Tu;intro hn;rw[cQ,YC (by omega)]at e;cases e
 refine⟨yU,hlt,nc,λi o d ho hd=> ?_,λi o ho=>(key i o ho).2.1,λi o ho=>by simpa using(key i o ho).2.2.1,λi j d hi hj=> ?_,λi o t j ho ht hj=> ?_⟩
 ·have:=(key i o ho).1;rw[hd]at this;simpa using this
 ·apply Tu;intro aC;obtain⟨o,ho,sf⟩:=Td.1 hi;have:=(key i o ho).2.2.2.1 j (yU j (Qu j d hj));rw[sf,hj]at this;simp[aC]at this
 ·have:=(key i o ho).2.2.2.2 (.tmp t) (by simpa using ht);simp only[Tx]at this;have:=this j (yU j (Qu j t hj));rw[hj]at this;simp only[bne_self_eq_false,XU,X6,Up,decide_eq_true_eq]at this;exact this.imp id yi
section
variable (lv:Bool)(P:SJ)(Hf:List Nat->List aa)
def BQ (T:List (Nat×AV))(o:Tv)(av:AV):List (List Nat×List Nat)->Prop
 |[]=>True
 |(D,_)::l=>(AQ lv P ⟨T,Hf D⟩ o λa=>a=av)/\BQ T o av l
def BE (T:List (Nat×AV))(o:Tv)(av:AV):List (List Nat×List Nat)->Prop
 |[]=>True
 |(D,D')::l=>(jE lv P (Hf D') ⟨T,Hf D⟩ o λa H'=>a=av/\H'=Hf D')/\BE T o av l
structure Ao (K:AS->Prop):Type where
 n:Nat
def fK (ops:Array Tv):List qa->AS->(K:AS->Prop)->Ao K->Prop
 |[],s,K,_=>K s
 |⟨i,false,_,l⟩::rest,s,K,t=>ao (ops[i]?) λo=>AQ lv P s o λav=>BQ lv P Hf s.T o av l/\fK ops rest (s.put o.dst av) K t
 |⟨i,true,D,l⟩::rest,s,K,t=>ao (ops[i]?) λo=>jE lv P (Hf D) s o λav H'=>H'=Hf D/\BE lv P Hf s.T o av l/\fK ops rest ((⟨s.T,H'⟩:AS).put o.dst av) K t
end
def TX (ops:Array Tv)(T0:List (Nat×AV))(f:Nat->AV):List Nat->List (Nat×AV)
 |[]=>T0
 |i::X=>match cQ ops i with
  |some d=>(d,f i)::TX ops T0 f X
  |none=>TX ops T0 f X
section
variable {ops:Array Tv}{T0:List (Nat×AV)}{f g:Nat->AV}
theorem Ay:∀{X:List Nat},(∀j∈X,f j=g j)->TX ops T0 f X=TX ops T0 g X
 |[],_=>rfl
 |i::X,h=>by
  simp only[TX,Ay (X:=X) λj hj=>h j (Tb _ hj),h i (Tw ..)]
theorem Az(RO:∀(i j d:Nat),cQ ops i=some d->cQ ops j=some d->i=j):∀{X:List Nat}{j t:Nat},j∈X->cQ ops j=some t->look (TX ops T0 f X) t=some (f j)
 |i::X,j,t,hj,ht=>by
  by_cases jP:i=j
  ·subst jP;simp[TX,ht,look]
  ·have gY:j∈X:=(SL.1 hj).resolve_left (Ne.symm jP);have ih:=Az RO (X:=X) gY ht;unfold TX;split
   ·rename_i d hd;have:d≠t:=λe=>jP (RO i j d hd (by rw[e];exact ht));simp only[look,if_neg this];exact ih
   ·exact ih
theorem wj:∀{X:List Nat}{t:Nat},(∀j∈X,cQ ops j≠some t)->look (TX ops T0 f X) t=look T0 t
 |[],_,_=>rfl
 |i::X,t,h=>by
  have ih:=wj (X:=X) (t:=t) λj hj=>h j (Tb _ hj);unfold TX;split
  ·rename_i d hd;have:d≠t:=λe=>h i (Tw ..) (by rw[hd,e]);simp only[look,if_neg this];exact ih
  ·exact ih
theorem wl{H:List aa}{X:List Nat}{i:Nat}{o:Tv}{av:AV}(ho:ops[i]?=some o)(hf:f i=av):(⟨TX ops T0 f X,H⟩:AS).put o.dst av=⟨TX ops T0 f (i::X),H⟩:=by
 have hd:cQ ops i=o.dst:=by simp[cQ,ho]
 have e:TX ops T0 f (i::X)=match cQ ops i with
  |some d=>(d,f i)::TX ops T0 f X
  |none=>TX ops T0 f X:=rfl
 rw[e,hd];cases o.dst with
 |none=>rfl
 |some d=>simp[AS.put,hf]
def kj (ops:Array Tv)(X:List Nat):Prop:=∀i∈X,∀o,ops[i]?=some o->∀j∈cK o,j∈X
theorem kj.reach{X:List Nat}(hX:kj ops X){i j:Nat}(hi:i∈X)(h:Reach ops i j):j∈X:=zK hX h λo ho k hk=>hX i hi o ho k hk
theorem kj.cons{X:List Nat}(hX:kj ops X){i:Nat}{o:Tv}(ho:ops[i]?=some o)(hd:∀j∈cK o,j∈X):kj ops (i::X):=λk hk o' aY j hj=>by
 rcases SL.1 hk with rfl|hk
 ·rw[ho]at aY;cases aY;exact Tb _ (hd j hj)
 ·exact Tb _ (hX k hk o' aY j hj)
theorem adi{nt:Nat}{ord:List Nat}(ay:xU nt ops ord){X X':List Nat}{i:Nat}{o:Tv}(ho:ops[i]?=some o)(hX:kj ops X)(nJ:kj ops X')(hi:i∉X)(cu:i∉X')(hd:∀j∈cK o,j∈X)(cr:∀j∈cK o,j∈X'){t:Nat}(ht: .tmp t∈o.op.operands):
  look (TX ops T0 f X) t=look (TX ops T0 f X') t:=by
 by_cases hex:∃j,cQ ops j=some t
 ·obtain⟨j,hj⟩:=hex;rcases ay.LU i o t j ho ht hj with h|h
  ·rw[Az ay.Ab (hd j h) hj,Az ay.Ab (cr j h) hj]
  ·rw[wj λj' gY e=>hi (hX.reach (ay.Ab j j' t hj e▸gY) h),wj λj' gY e=>cu (nJ.reach (ay.Ab j j' t hj e▸gY) h)]
 ·rw[wj λj _ e=>hex ⟨j,e⟩,wj λj _ e=>hex ⟨j,e⟩]
end
section
variable {lv:Bool}{P:SJ}{r:Option Nat}{ops:Array Tv}{Hf:List Nat->List aa}{T0:List (Nat×AV)}{es ord:List Nat}{nt:Nat}
def done (es X:List Nat):List Nat:=es.filter λe=>X.contains e
theorem D1{X:List Nat}{i:Nat}:sF es i (done es X)=done es (i::X):=by
 unfold sF done;apply Vj;intro e he;by_cases h:e=i
 ·subst h;simp
 ·simp[Ul,he,h]
theorem Ic{X:List Nat}{i:Nat}(hi:i∉es):done es (i::X)=done es X:=by
 unfold done;apply Vj;intro e he;have:e≠i:=λh=>hi (h▸he);simp[this]
theorem Ie{X:List Nat}(hX:kj ops X){i:Nat}{o:Tv}(ho:ops[i]?=some o)(hi:i∉X)(hd:∀j∈cK o,j∈X):vN (gh ops ord []) es i (done es X)=true:=by
 have b_:∀e,e∈es->(e∈done es X<->e∈X):=λe he=>by simp[done,Ul,he]
 have hX2:=hX.cons ho hd;unfold vN;simp only[Th,TW,Up,decide_eq_false_iff_not,Tx,X6,decide_eq_true_eq];refine⟨λh=>hi (by simpa[done]using(Ul.1 h).2),λe he=>⟨?_,?_⟩⟩
 ·by_cases h:e∈mP (gh ops ord []) i
  ·right;rw[b_ e he];exact zK hX (yi h) λo' aY k hk=>by rw[ho]at aY;cases aY;exact hd k hk
  ·exact .inl h
 ·by_cases h:e∈X
  ·right;refine⟨λhm=>hi (hX.reach h (yi hm)),λe' jN=> ?_⟩;by_cases hm:e'∈mP (gh ops ord []) e
   ·right;rw[b_ e' jN];exact hX.reach h (yi hm)
   ·exact .inl hm
  ·left;rw[b_ e he];exact h
def OB (lv:Bool)(P:SJ)(r:Option Nat)(ops:Array Tv)(Hf:List Nat->List aa)(T0:List (Nat×AV))(es:List Nat)(f:Nat->AV)(i:Nat)(o:Tv)(X:List Nat):Prop:=
 if i∈es then jE lv P (Hf (done es (i::X))) ⟨TX ops T0 f X,Hf (done es X)⟩ o (λa H'=>a=f i/\H'=Hf (done es (i::X)))
 else∃T,(∀t a,look T t=some a->look (TX ops T0 f X) t=some a)/\dq lv P r o ⟨T,Hf (done es X)⟩ (f i)
theorem BQ.mem{T:List (Nat×AV)}{o:Tv}{av:AV}:∀{l:List (List Nat×List Nat)},BQ lv P Hf T o av l->∀p∈l,AQ lv P ⟨T,Hf p.1⟩ o λa=>a=av
 |(D,D')::l,h,p,hp=>by
  rcases SL.1 hp with rfl|hp
  ·exact h.1
  ·exact BQ.mem h.2 p hp
theorem BE.mem{T:List (Nat×AV)}{o:Tv}{av:AV}:∀{l:List (List Nat×List Nat)},BE lv P Hf T o av l->∀p∈l,jE lv P (Hf p.2) ⟨T,Hf p.1⟩ o λa H'=>a=av/\H'=Hf p.2
 |(D,D')::l,h,p,hp=>by
  rcases SL.1 hp with rfl|hp
  ·exact h.1
  ·exact BE.mem h.2 p hp
def canon (T:List (Nat×AV)):List Tg->List (Nat×AV)
 |[]=>[]
 |.tmp t::l=>match look T t with
  |some a=>(t,a)::canon T l
  |none=>canon T l
 |_::l=>canon T l
theorem HS{T:List (Nat×AV)}:∀{l:List Tg}{t:Nat}{a:AV},look (canon T l) t=some a->look T t=some a
 |[],_,_,h=>by cases h
 |x::l,t,a,h=>by
  have ih:=@HS T l t a;cases x with
  |tmp t'=>
   simp only[canon]at h;split at h
   ·rename_i b hb;simp only[look]at h;split at h
    ·rename_i e;subst e;cases h;exact hb
    ·exact ih h
   ·exact ih h
  |_=>exact ih h
theorem Oe{T:List (Nat×AV)}:∀{l:List Tg}{t:Nat},.tmp t∈l->look (canon T l) t=look T t
 |x::l,t,h=>by
  by_cases hx:x=.tmp t
  ·subst hx;simp only[canon];split
   ·rename_i b hb;simp[look,hb]
   ·rename_i hb;rw[hb];cases e:look (canon T l) t with
    |none=>rfl
    |some a=>have:=HS e;rw[hb]at this;cases this
  ·have hm: .tmp t∈l:=(SL.1 h).resolve_left (Ne.symm hx);have ih:=Oe (T:=T) hm;cases x with
   |tmp t'=>
    have aC:t'≠t:=λe=>hx (by rw[e]);simp only[canon];split
    ·simp only[look,if_neg aC];exact ih
    ·exact ih
   |_=>exact ih
theorem Od{T:List (Nat×AV)}:∀{l:List Tg}{t:Nat}{a:AV},look (canon T l) t=some a-> .tmp t∈l
 |[],_,_,h=>by cases h
 |x::l,t,a,h=>by
  have ih:=@Od T l t a;cases x with
  |tmp t'=>
   simp only[canon]at h;split at h
   ·simp only[look]at h;split at h
    ·rename_i e;subst e;exact Tw ..
    ·exact Tb _ (ih h)
   ·exact Tb _ (ih h)
  |_=>exact Tb _ (ih h)
theorem Oc{T:List (Nat×AV)}{H:List aa}{l:List Tg}{x:Tg}(h:x∈l):AS.ev ⟨T,H⟩ x=AS.ev ⟨canon T l,H⟩ x:=by
 cases x with
 |tmp t=>exact(Oe h).symm
 |_=>rfl
theorem AX(ay:xU nt ops ord){K:AS->Prop}{tk:Ao K}:∀(B X:List Nat)(acc:Nat->AV),jS ops X B=true->kj ops X->fK lv P Hf ops (pN (gh ops ord []) es X B) ⟨TX ops T0 acc X,Hf (done es X)⟩ K tk->
  ∃f,(∀j∈X,f j=acc j)/\(∀i∈B,∀o,ops[i]?=some o->∀X',kj ops X'->i∉X'->(∀j∈cK o,j∈X')->OB lv P r ops Hf T0 es f i o X')/\K ⟨TX ops T0 f (B.reverse++X),Hf (done es (B.reverse++X))⟩
 |[],X,acc,_,_,h=>⟨acc,λ_ _=>rfl,by simp,by simpa[pN,fK]using h⟩
 |i::B,X,acc,nc,hX,h=>by
  have asQ:=nc;simp only[jS,Th,TW,Up,decide_eq_false_iff_not]at nc;obtain⟨⟨hi,h2⟩,h3⟩:=nc;cases ho:ops[i]?with
  |none=>rw[ho]at h2;cases h2
  |some o=>
  rw[ho]at h2;have hd:∀j∈cK o,j∈X:=λj hj=>by have:=Tx.1 h2 j hj;simpa using this
  have nJ:=hX.cons ho hd;have asB:vN (gh ops ord []) es i (done es X)=true:=Ie hX ho hi hd;have LV:∀D,D∈sP es->vN (gh ops ord []) es i D=true->D≠done es X->(D,sF es i D)∈((sP es).filter λD=>vN (gh ops ord []) es i D&&D !=done es X).map λD=>(D,sF es i D):=λD h1 h2 h3=>Tm.2 ⟨D,Ul.2 ⟨h1,by simp[h2,h3]⟩,rfl⟩;have Nw:∀av:AV,TX ops T0 acc X=TX ops T0 (λj=>if j=i then av else acc j) X:=λav=>Ay λj hj=>by
   have:j≠i:=λe=>hi (e▸hj);simp[this]
  have seen:∀(f:Nat->AV) X',(∀j∈X,f j=acc j)->kj ops X'->i∉X'->(∀j∈cK o,j∈X')->∀(H:List aa),∀x∈o.op.operands,AS.ev ⟨TX ops T0 acc X,H⟩ x=AS.ev ⟨TX ops T0 f X',H⟩ x:=λf X' hf hc hn cr H x hx=>by
   cases x with
   |tmp t=>
    show look _ t=look _ t;rw[<- Ay (f:=f) (g:=acc) hf];exact adi ay ho hX hc hi hn hd cr hx
   |_=>rfl
  unfold pN at h;by_cases dl:i∈es
  ·have Jy:entry (gh ops ord []) es X i=⟨i,true,sF es i (done es X),((sP es).filter λD=>vN (gh ops ord []) es i D&&D !=done es X).map λD=>(D,sF es i D)⟩:=by
    unfold entry done;simp[dl]
   rw[Jy,fK,ho,ao]at h;obtain⟨av,H',g1,e1,g2,g3⟩:=h.ex;subst e1;rw[D1]at g1 g3;rw[Nw av,wl ho (by simp)]at g3;obtain⟨f,q1,q2,q3⟩:=AX ay B (i::X) _ h3 nJ g3;have JA:f i=av:=(by have:=q1 i (Tw ..);simpa using this);have BH:∀j∈X,f j=acc j:=λj hj=>by
    have:=q1 j (Tb _ hj);have aC:j≠i:=λe=>hi (e▸hj);simpa[aC]using this
   refine⟨f,BH,λk hk o' aY X' hc hn cr=> ?_,by simpa using q3⟩;rcases SL.1 hk with rfl|hk
   ·rw[ho]at aY;cases aY;unfold OB;rw[if_pos dl,JA];refine jE.congr (T:=TX ops T0 acc X) (seen f X' BH hc hn cr _) ?_;by_cases hD:done es X'=done es X
    ·rw[<- D1,hD,D1];exact g1
    ·have:=g2.mem _ (LV _ (D7 _ es) (Ie hc ho hn cr) hD);rw[<- D1];exact this
   ·exact q2 k hk o' aY X' hc hn cr
  ·have Jy:entry (gh ops ord []) es X i=⟨i,false,sF es i (done es X),((sP es).filter λD=>vN (gh ops ord []) es i D&&D !=done es X).map λD=>(D,sF es i D)⟩:=by
    unfold entry done;simp[dl]
   rw[Jy,fK,ho,ao]at h;have h':=AQ.congr (T':=canon (TX ops T0 acc X) o.op.operands.toList) (λx hx=>Oc (by simpa using hx)) h;obtain⟨av,g1,g2,g3⟩:=h'.sound (r:=r);rw[Nw av,wl ho (by simp),<- Ic (X:=X) dl]at g3;obtain⟨f,q1,q2,q3⟩:=AX ay B (i::X) _ h3 nJ g3;have JA:f i=av:=(by have:=q1 i (Tw ..);simpa using this);have BH:∀j∈X,f j=acc j:=λj hj=>by
    have:=q1 j (Tb _ hj);have aC:j≠i:=λe=>hi (e▸hj);simpa[aC]using this
   refine⟨f,BH,λk hk o' aY X' hc hn cr=> ?_,by simpa using q3⟩;rcases SL.1 hk with rfl|hk
   ·rw[ho]at aY;cases aY;unfold OB;rw[if_neg dl,JA];refine⟨canon (TX ops T0 acc X) o.op.operands.toList,λt a e=> ?_,?_⟩
    ·have h1:=seen f X' BH hc hn cr [] (.tmp t) (by simpa using Od e);have h2:look (TX ops T0 acc X) t=look (TX ops T0 f X') t:=h1;rw[<- h2];exact HS e
    ·by_cases hD:done es X'=done es X
     ·rw[hD];exact g1
     ·have h1:=g2.mem _ (LV _ (D7 _ es) (Ie hc ho hn cr) hD);have h2:=AQ.congr (T':=canon (TX ops T0 acc X) o.op.operands.toList) (λx hx=>Oc (by simpa using hx)) h1;obtain⟨mc,h3,rfl⟩:=h2.sound (r:=r);exact h3
   ·exact q2 k hk o' aY X' hc hn cr
theorem Ds{f:Nat->AV}(ay:xU nt ops ord){X X':List Nat}(h:∀i,i∈X<->i∈X')(t:Nat):look (TX ops T0 f X) t=look (TX ops T0 f X') t:=by
 by_cases hex:∃j∈X,cQ ops j=some t
 ·obtain⟨j,hj,hd⟩:=hex;rw[Az ay.Ab hj hd,Az ay.Ab ((h j).1 hj) hd]
 ·rw[wj λj hj e=>hex ⟨j,hj,e⟩,wj λj hj e=>hex ⟨j,(h j).2 hj,e⟩]
theorem D2{X X':List Nat}(h:∀i,i∈X<->i∈X'):done es X=done es X':=by
 unfold done;apply Vj;intro e _;have:=h e;by_cases h1:e∈X
 ·have h2:=this.1 h1;simp[h1,h2]
 ·have h2:e∉X':=λx=>h1 (this.2 x);simp[h1,h2]
theorem age{f:Nat->AV}(ay:xU nt ops ord)(au:∀i∈ord,∀o,ops[i]?=some o->∀X',kj ops X'->i∉X'->(∀j∈cK o,j∈X')->OB lv P r ops Hf T0 es f i o X'){X l:List Nat}(hs:lC ops X l):
  (∀i∈X,i<ops.size)->kj ops X->∀(E:Env)(V:View)(a:Act)(Q:Ex->Act->View->Prop),At E V ⟨TX ops T0 f X,Hf (done es X)⟩ a nt->
   (∀E' V' a' X',Kept E E' V V' a a'->At E' V' ⟨TX ops T0 f X',Hf (done es X')⟩ a' nt->(∀i,i∈X'<->i<ops.size)->Q .normal a' V')->c_ lv P r ops Q l a V:=by
 induction hs with
 |nil X h=>
  intro hX hc E V a Q ah hQ;exact hQ E V a X (Kept.refl E V a) ah λi=>⟨hX i,h i⟩
 |cons o ho hn hd k_ ih=>
  rename_i X i l;intro hX hc E V a Q ah hQ;have hi:i<ops.size:=(SR.1 ho).1;simp only[c_,ho];have nJ:∀k∈i::X,k<ops.size:=λk hk=>(SL.1 hk).elim (λe=>by rw[e];exact hi) (hX k);have bf:=hc.cons ho hd;have hw:Tf o (yielded ops a.tmps)=true:=by unfold Tf;rw[ay.Bd i o ho]
  rw[if_pos hw];refine .inl ?_;have db:∀d,o.dst=some d->d<a.tmps.size:=λd e=>by rw[ah.size];exact ay.dst i o d ho e
  have kZ:=au i (ay.full i hi) o ho X hc hn hd;unfold OB at kZ;by_cases dl:i∈es
  ·rw[if_pos dl]at kZ;have aP:=kZ.step (r:=r) (bad:=λ_ _=>False);refine aP E V a _ Q ah.br ah.tok db (.inr (ay.uX i o ho)) (λE' V' a' s' hk cN ht e=> ?_) λ_ _ _ _ _ _ _ _ _ h=>h.elim;subst e;rw[wl ho rfl]at ht cN;exact ih nJ bf E' V' a' Q ⟨cN,ht,hk.size.trans ah.size⟩ λbO aR b8 ma aI cX eI=>hQ bO aR b8 ma (hk.trans aI) cX eI
  ·rw[if_neg dl]at kZ;obtain⟨T,hT,hq⟩:=kZ;refine hq E V a _ Q ah.br (λt av e=>ah.tok t av (hT t av e)) (.inr (ay.uX i o ho)) λE' V' v hle bX eK cN hv=> ?_;have ht:bZ E' ((⟨TX ops T0 f X,Hf (done es X)⟩:AS).put o.dst (f i)).T (a.put o.dst v).tmps:=bZ.gF (s:=⟨TX ops T0 f X,Hf (done es X)⟩) (ah.tok.mono hle) db hv;rw[wl ho rfl]at ht;refine ih nJ bf E' V' (a.put o.dst v) Q ⟨by rw[Ic dl];exact cN,ht,(dR _ _ _).trans ah.size⟩ λbO aR b8 ma hk cX eI=>
    hQ bO aR b8 ma ⟨hle.trans hk.le,hk.size.trans (dR _ _ _),hk.defers.trans (put_defers _ _ _),hk.role.trans bX,hk.deaf.trans eK⟩ cX eI
theorem aeK{s:AS}{id:Nat}{Φ:am->AS->Prop}(es ord:List Nat)(pl:List qa)(Hf:List Nat->List aa)(hm:P.follows .mixedOrders=true)(ay:qp nt ops es ord=true)(dc:aba ops es ord=pl)(h0:s.H=Hf [])
  (h:fK lv P Hf ops pl s (Φ .normal) ⟨0⟩):aU lv P r nt (.region id ops true) s Φ:=by
 intro E V a Q ah hQ;have ay:=qp.out ay;obtain⟨vC,_,hlt⟩:=CW ay.top;have dE:s=⟨TX ops s.T (λ_=> .val undef) [],Hf (done es [])⟩:=by
  have:done es []=[]:=by simp[done]
  rw[this,<- h0];rfl
 subst dc;have h':fK lv P Hf ops (pN (gh ops ord []) es [] ord) ⟨TX ops s.T (λ_=> .val undef) [],Hf (done es [])⟩ (Φ .normal) ⟨0⟩:=by rw[<- dE];exact h
 obtain⟨f,_,q2,q3⟩:=AX (r:=r) ay ord [] _ ay.top (λi hi=>by cases hi) h';have yU:∀i,i∈ord<->i<ops.size:=λi=>⟨hlt i,ay.full i⟩;refine M6 λt=> ?_;rw[show VK (P.follows .mixedOrders) ops t=UC .any ops ops.size t (TK ops.size false) [] by unfold VK;rw[hm];simp[Za]];have binds:∀(A B:List Nat)(X:List Nat),jS ops X (A++B)=true->True:=λ_ _ _ _=>trivial;have ready:∀(ord X:List Nat),jS ops X ord=true->∀A i B,ord=A++i::B->∃o,ops[i]?=some o/\∀j∈cK o,j∈A\/j∈X:=by
  intro ord;induction ord with
  |nil=>intro X _ A i B e;cases A<;>cases e
  |cons x l ih=>
   intro X nc A i B e;simp only[jS,Th,TW,Up,decide_eq_false_iff_not]at nc;obtain⟨⟨h1,h2⟩,h3⟩:=nc;cases A with
   |nil=>
    have e1:x=i:=(by have:=congrArg List.head? e;simpa using this);rw[e1]at h2;cases ho:ops[i]?with
    |none=>rw[ho]at h2;cases h2
    |some o=>
     rw[ho]at h2;exact⟨o,rfl,λj hj=> .inr (by have:=Tx.1 h2 j hj;simpa using this)⟩
   |cons y A=>
    cases e;obtain⟨o,ho,hb⟩:=ih (x::X) h3 A i B rfl;refine⟨o,ho,λj hj=> ?_⟩;rcases hb j hj with h|h
    ·exact .inl (Tb _ h)
    ·rcases SL.1 h with rfl|h
     ·exact .inl (Tw ..)
     ·exact .inr h
 have hs:=Lv (ops:=ops) (λi o ho j hj=>by
   obtain⟨A,B,e⟩:=List.append_of_mem (ay.full i (SR.1 ho).1);obtain⟨o',aY,hb⟩:=ready ord [] ay.top A i B e;rw[ho]at aY;cases aY;rcases hb j hj with h|h
   ·exact hlt j (by rw[e];exact Te _ h)
   ·cases h)
  (λX ⟨i,hi,hn⟩=>by
   obtain⟨A,i',B,e,h1,h2⟩:=IJ (X:=X) ⟨i,ay.full i hi,hn⟩;obtain⟨o',aY,hb⟩:=ready ord [] ay.top A i' B e;refine⟨i',o',aY,h1,λj hj=> ?_⟩;rcases hb j hj with h|h
   ·exact h2 j h
   ·cases h)
  ops.size t (TK ops.size false) [] ⟨by simp,λi hi=>by simp[hi]⟩ (UF Y4 (by simp))
 have r_:At E V ⟨TX ops s.T f [],Hf (done es [])⟩ a nt:=by
  have e:(⟨TX ops s.T f [],Hf (done es [])⟩:AS)=s:=dE.symm;rw[e];exact ah
 refine age (Hf:=Hf) (es:=es) ay q2 hs (by simp) (λi hi=>by cases hi) E V a Q r_ λE' V' a' X' hk aQ eI=> ?_;have fl:∀i,i∈X'<->i∈ord.reverse++[]:=λi=>by simp[eI,yU]
 refine hQ .normal .normal E' V' a' _ hk ⟨?_,λt x e=> ?_,aQ.size⟩ trivial q3
 ·rw[<- D2 fl];exact aQ.br
 ·rw[<- Ds ay fl]at e;exact aQ.tok t x e
end
open Go.Proofs
theorem F.Nm:kQ SC 77=(SM Go.Gg.x6.map):=by kernel_rfl
theorem F.Nt:ey SC 4=(SM (Xb Bool.false)):=by kernel_rfl
theorem F.Nu:ey SC 88=(SM (TD #[(Xb Bool.false),(Zt Option.none),(SG S6 (0)),(SG S6 (0)),(SG S6 (0)),(SG S6 (0)),(SG S6 (0)),(SG S6 (0)),(SG S6 (0)),(SG S6 (0)),(SG S6 (0)),(SG S6 (0)),(SG S6 (0)),(SG S6 (0)),(SG S6 (0)),(SG S6 (0)),(SG S6 (0)),(SG SF (0)),(SG SF (0)),(SG SF (0)),(SG SF (0)),(SG SF (0)),(SG SF (0)),(SG SF (0)),(SG SF (0)),(SG SF (0)),(SG SF (0)),(SG SF (0))])):=by kernel_rfl
theorem F.ak3:lS SC 116=(SM Bool.false):=by kernel_rfl
theorem F.Cl:lS SC 126=(SM Bool.true):=by kernel_rfl
theorem F.K6:lS SC 136=(SM Bool.false):=by kernel_rfl
theorem F.ak4:lS SC 156=(SM Bool.false):=by kernel_rfl
theorem F.R_:lS SC 97=(SM Bool.false):=by kernel_rfl
theorem F.f31:SC.funcs[31]?=some Tryz.f31:=by kernel_rfl
theorem F.f71:SC.funcs[71]?=some Tryz.f71:=by kernel_rfl
theorem F.f77:SC.funcs[77]?=some XN:=by kernel_rfl
theorem F.f91:SC.funcs[91]?=some Tryz.f91:=by kernel_rfl
theorem F.f95:SC.funcs[95]?=some Tryz.f95:=by kernel_rfl
theorem F.f97:SC.funcs[97]?=some asg:=by kernel_rfl
theorem F.mixed:SC.follows .mixedOrders=true:=by kernel_rfl
inductive dz (lv:Bool)(P:SJ)(r:Option Nat)(nt:Nat):T9->(am->AS->Prop)->T9->(am->AS->Prop)->Prop
 |base {c:T9} {Φ:am->AS->Prop}:dz lv P r nt c Φ c Φ
 |seq {x y h:T9} {Φ Ψ:am->AS->Prop} (i:dz lv P r nt x (am.then (λs=>aU lv P r nt y s Φ) Φ) h Ψ):dz lv P r nt (.seq x y) Φ h Ψ
 |block {id:Nat} {x h:T9} {Φ Ψ:am->AS->Prop} (i:dz lv P r nt x (am.inBlock id Φ) h Ψ):dz lv P r nt (.block id x) Φ h Ψ
section
variable {lv:Bool}{P:SJ}{r:Option Nat}{s:AS}{nt id:Nat}{ops:Array Tv}{c h:T9}{Φ Ψ:am->AS->Prop}
theorem bE{f:TO}{H:List aa}{args:List AV}{k kp:AV->List aa->Prop}{rs:List UL}(fn:YF)
  (h:bM H->(∀a∈args,Lt H.length a)->aU lv P none nt c ⟨bk 0 args,H⟩ (sT P rs H.length k kp)) (hf:P.funcs[f]?=some fn:=by kernel_rfl) (hb:fn.body=some c:=by rfl) (hr:fn.results=rs.toArray:=by rfl) (hn:fn.ntmps=nt:=by rfl) (cI:args.length<=nt:=by simp):ba lv P f H args k kp:=aif hf hb hr hn cI h
theorem dz.go(i:dz lv P r nt c Φ h Ψ):∀{s:AS},aU lv P r nt h s Ψ->aU lv P r nt c s Φ:=by
 induction i with
 |base=>exactλh=>h
 |seq _ ih=>exactλk=>gX (ih k)
 |block _ ih=>exactλk=>NL (ih k)
theorem aj(h:gV lv P ops ops.toList s (Ψ .normal) (λpv s=>Ψ (.panic pv) s))(i:dz lv P r nt c Φ (.region id ops false) Ψ:=by repeat first|exact .base|apply dz.seq|apply dz.block)(hd:jw nt ops=true:=by kernel_rfl):aU lv P r nt c s Φ:=i.go (NQ hd h)
theorem asa{o:Tg}{x y:T9}(h:ao (s.ev o) λa=>a.asBool λb=>(b=true->aU lv P r nt x s Ψ)/\(b=false->aU lv P r nt y s Ψ))(i:dz lv P r nt c Φ (.cond o x y) Ψ:=by repeat first|exact .base|apply dz.seq|apply dz.block):aU lv P r nt c s Φ:=i.go (NM h)
theorem aeS(h:Ψ .normal s)(i:dz lv P r nt c Φ .skip Ψ:=by repeat first|exact .base|apply dz.seq|apply dz.block):aU lv P r nt c s Φ:=i.go (NT h)
theorem oq(h:Ψ .ret s)(i:dz lv P r nt c Φ .ret Ψ:=by repeat first|exact .base|apply dz.seq|apply dz.block):aU lv P r nt c s Φ:=i.go (NR h)
theorem asc(h:Ψ (.exit id) s)(i:dz lv P r nt c Φ (.exit id) Ψ:=by repeat first|exact .base|apply dz.seq|apply dz.block):aU lv P r nt c s Φ:=i.go (NN h)
theorem cF{x:T9}(h:aU lv P r nt x s (am.inBlock id Ψ))(i:dz lv P r nt c Φ (.block id x) Ψ:=by repeat first|exact .base|apply dz.seq|apply dz.block):aU lv P r nt c s Φ:=i.go (NL h)
theorem ai{p:Prop}(h:p)(i:dz lv P r nt c Φ (.region id ops false) Ψ:=by repeat first|exact .base|apply dz.seq|apply dz.block)(e:gV lv P ops ops.toList s (Ψ .normal) (λpv s=>Ψ (.panic pv) s)=p:=by conv=>lhs;simp only[seval])(hd:jw nt ops=true:=by kernel_rfl):aU lv P r nt c s Φ:=i.go (NQ hd (e.mpr h))
theorem aE{p:Prop}{o:Tg}{x y:T9}(h:p)(i:dz lv P r nt c Φ (.cond o x y) Ψ:=by repeat first|exact .base|apply dz.seq|apply dz.block)(e:(ao (s.ev o) λa=>a.asBool λb=>(b=true->aU lv P r nt x s Ψ)/\(b=false->aU lv P r nt y s Ψ))=p:=by conv=>lhs;simp only[seval]):aU lv P r nt c s Φ:=i.go (NM (e.mpr h))
theorem aN{p:Prop}(h:p)(i:dz lv P r nt c Φ .skip Ψ:=by repeat first|exact .base|apply dz.seq|apply dz.block)(e:Ψ .normal s=p:=by conv=>lhs;simp only[seval]):aU lv P r nt c s Φ:=i.go (NT (e.mpr h))
theorem aX{p:Prop}(h:p)(i:dz lv P r nt c Φ .ret Ψ:=by repeat first|exact .base|apply dz.seq|apply dz.block)(e:Ψ .ret s=p:=by conv=>lhs;simp only[seval]):aU lv P r nt c s Φ:=i.go (NR (e.mpr h))
theorem b9{p:Prop}(h:p)(i:dz lv P r nt c Φ (.exit id) Ψ:=by repeat first|exact .base|apply dz.seq|apply dz.block)(e:Ψ (.exit id) s=p:=by conv=>lhs;simp only[seval]):aU lv P r nt c s Φ:=i.go (NN (e.mpr h))
theorem eo{Φ Ψ:am->AS->Prop}{c:T9}(p:Nat)(h:mC lv P ops (ops.toList.take p) s (λs'=>gV lv P ops (ops.toList.drop p) s' (Ψ .normal) (λpv s=>Ψ (.panic pv) s)))(i:dz lv P r nt c Φ (.region id ops true) Ψ:=by repeat first|exact .base|apply dz.seq|apply dz.block)(hm:P.follows .mixedOrders=true:=by kernel_rfl)(ay:ym nt p ops=true:=by kernel_rfl):aU lv P r nt c s Φ:=i.go (aeJ hm p ay h)
theorem qi{Φ Ψ:am->AS->Prop}{c:T9}(es ord:List Nat){pl:List qa}(Hf:List Nat->List aa)(h:fK lv P Hf ops pl s (Ψ .normal) ⟨0⟩)(i:dz lv P r nt c Φ (.region id ops true) Ψ:=by repeat first|exact .base|apply dz.seq|apply dz.block)(hm:P.follows .mixedOrders=true:=by kernel_rfl)(ay:qp nt ops es ord=true:=by kernel_rfl)(dc:aba ops es ord=pl:=by conv=>lhs;cbv)(h0:s.H=Hf []:=by first|rfl|simp only[seval]):aU lv P r nt c s Φ:=i.go (aeK es ord pl Hf hm ay dc h0 h)
theorem rM(n:Nat)(V:Nat->List (Nat×AV))(Hf:Nat->List aa)(ok:Nat->Prop)(hm:ok 0)
  (h:bM s.H->(∀t a,look s.T t=some a->Lt s.H.length a)->∀m,m<=n->ok m->∀R:AS->Prop,(∀s',(m<n/\ok (m+1)/\s7 s.T (V m) (V (m+1)) (Hf (m+1)) s')->R s')->aU lv P r nt c ⟨V m++s.T,Hf m⟩ (am.then R Φ)) (BM:∀m m',(V m).map (·.1)=(V m').map (·.1):=by exactλ_ _=>rfl) (ij:∀p∈V 0,∃b,look s.T p.1=some b/\Wk b p.2:=by(simp only[seval];simp[bN,Wk.refl])) (Bl:Hf 0=s.H:=by rfl) (hl:∀m,m<=n->ok m->(Hf m).length=s.H.length:=by exactλ_ _ _=>rfl):aU lv P r nt (.loop c) s Φ:=gA n V Hf ok BM ij Bl hl hm h
theorem dn{base Vi Vn T:List (Nat×AV)}{H:List aa}(hk:rE T (Vi++base) Vn:=by exact pI rfl rfl)(hv:∀p∈Vn,∃b,look T p.1=some b/\Wk b p.2:=by(simp only[seval];simp[bN,Wk.refl])):s7 base Vi Vn H ⟨T,H⟩:=aoS hk hv
theorem abq{base Vi Vn T:List (Nat×AV)}{H H':List aa}(ay:bM H)(hg:∃G,H++G=H':=by first|exact⟨_,rfl⟩|exact⟨_,SD ..⟩)(hk:rE T (Vi++base) Vn:=by exact pI rfl rfl)(hv:∀p∈Vn,∃b,look T p.1=some b/\Wk b p.2:=by(simp only[seval];simp[bN,Wk.refl]))(hlt:∀p∈Vn,Lt H.length p.2:=by simp[eE]):s7 base Vi Vn H ⟨T,H'⟩:=by
 obtain⟨G,rfl⟩:=hg;exact abp hk hv ay hlt
theorem dC{H:List aa}{args:List AV}{k kp:AV->List aa->Prop}{g:TO}{first cM:List AV}(hf:ba lv P g H (first++args++cM) k kp)(hg:pY P g=true:=by kernel_rfl):iG lv P (.fn (.func g) first cM) H args k kp:=DT hg hf
end
theorem aM{lv:Bool}{P:SJ}{H:List aa}{args:List AV}{k kp:AV->List aa->Prop}{g:TO}{first cM:List AV}{t:Do k kp}(hf:ba lv P g H (first++args++cM) k kp)(hg:pY P g=true:=by kernel_rfl):Ah lv P (.fn (.func g) first cM) H args k kp t:=wy (DT hg hf)
theorem F.q0:jo SC 22 22=(SM (3,(1,(SG SF (0)))))/\jo SC 23 23=(SM (61,(3,(TD #[(SG SF (0)),(SG SF (0)),(SG SF (0))]))))/\jo SC 24 24=(SM (48,(4,(TD #[(SG SF (0)),(SG SF (0)),(SG SF (0)),(SG SF (0))]))))/\jo SC 57 57=(SM (22,(1,(Us Option.none 0 0))))/\n9 SC 136=(SM ((Go.Gg.gW.fields []),(TD #[])))/\n9 SC 26=(SM ((Go.Gg.gW.fields [(0,1),(1,1),(2,1),(3,1),(4,1),(5,1)]),(TD #[(SG SF (0)),(SG SF (0)),(SG SF (0)),(Us Option.none 0 0),(Us Option.none 0 0),(Us Option.none 0 0)])))/\n9 SC 46=(SM ((Go.Gg.gW.fields [(0,1),(1,1)]),(TD #[(SG SF (0)),(SG SF (0))])))/\n9 SC 48=(SM ((Go.Gg.gW.fields [(0,2),(2,2)]),(TD #[(SG SF (0)),(SG SF (0)),(SG SF (0)),(SG SF (0))])))/\n9 SC 61=(SM ((Go.Gg.gW.fields [(0,1),(1,2)]),(TD #[(SG SF (0)),(SG SF (0)),(SG SF (0))])))/\n9 SC 73=(SM ((Go.Gg.gW.fields [(0,1),(1,1),(2,1)]),(TD #[(Us Option.none 0 0),(SG SF (0)),(SG TB (0))])))/\n9 SC 76=(SM ((Go.Gg.gW.fields [(0,6)]),(TD #[(SG SF (0)),(SG SF (0)),(SG SF (0)),(Us Option.none 0 0),(Us Option.none 0 0),(Us Option.none 0 0)])))/\n9 SC 86=(SM ((Go.Gg.gW.fields [(0,4),(4,4),(8,3)]),(TD #[(SG SF (0)),(SG SF (0)),(SG SF (0)),(SG SF (0)),(SG SF (0)),(SG SF (0)),(SG SF (0)),(SG SF (0)),(SG SF (0)),(SG SF (0)),(SG SF (0))])))/\n9 SC 88=(SM ((Go.Gg.gW.fields [(0,1),(1,1),(2,4),(6,4),(10,4),(14,3),(17,11)]),(TD #[(Xb Bool.false),(Zt Option.none),(SG S6 (0)),(SG S6 (0)),(SG S6 (0)),(SG S6 (0)),(SG S6 (0)),(SG S6 (0)),(SG S6 (0)),(SG S6 (0)),(SG S6 (0)),(SG S6 (0)),(SG S6 (0)),(SG S6 (0)),(SG S6 (0)),(SG S6 (0)),(SG S6 (0)),(SG SF (0)),(SG SF (0)),(SG SF (0)),(SG SF (0)),(SG SF (0)),(SG SF (0)),(SG SF (0)),(SG SF (0)),(SG SF (0)),(SG SF (0)),(SG SF (0))])))/\n9 SC 97=(SM ((Go.Gg.gW.fields [(0,1),(1,1)]),(TD #[(SG SF (0)),(SG SF (0))])))/\Ai SC 3 71=(SM (SM TB))/\Ai SC 71 3=(SM (SM SF)):=by and_intros<;>kernel_rfl
theorem F.q1:eQ SC 112 0=(SM 0)/\eQ SC 112 1=(SM 1)/\eQ SC 112 2=(SM 2)/\eQ SC 26 0=(SM 0)/\eQ SC 26 1=(SM 1)/\eQ SC 26 2=(SM 2)/\eQ SC 26 3=(SM 3)/\eQ SC 26 4=(SM 4)/\eQ SC 26 5=(SM 5)/\eQ SC 46 0=(SM 0)/\eQ SC 46 1=(SM 1)/\eQ SC 48 0=(SM 0)/\eQ SC 48 1=(SM 2)/\eQ SC 61 0=(SM 0)/\eQ SC 61 1=(SM 1)/\eQ SC 73 0=(SM 0):=by and_intros<;>kernel_rfl
theorem F.q2:eQ SC 73 1=(SM 1)/\eQ SC 73 2=(SM 2)/\eQ SC 76 0=(SM 0)/\eQ SC 86 0=(SM 0)/\eQ SC 86 1=(SM 4)/\eQ SC 86 2=(SM 8)/\eQ SC 88 0=(SM 0)/\eQ SC 88 1=(SM 1)/\eQ SC 88 2=(SM 2)/\eQ SC 88 3=(SM 6)/\eQ SC 88 4=(SM 10)/\eQ SC 88 5=(SM 14)/\eQ SC 88 6=(SM 17)/\eQ SC 97 0=(SM 0)/\eQ SC 97 1=(SM 1)/\nu SC 22=(SM (Option.none,1)):=by and_intros<;>kernel_rfl
theorem F.q3:nu SC 23=(SM (Option.none,3))/\nu SC 24=(SM (Option.none,4))/\nu SC 57=(SM (Option.none,1))/\nu SC 80=(SM ((SM 4),1))/\nu SC 81=(SM ((SM 3),1))/\nu SC 82=(SM ((SM 4),1))/\nu SC 83=(SM ((SM 4),1))/\nu SC 84=(SM ((SM 3),1))/\uE SC 22=Option.none/\uE SC 82=(SM (4,1))/\uE SC 83=(SM (4,1))/\uE SC 84=(SM (3,1))/\jU SC 22=(SM (3,1))/\jU SC 24=(SM (48,4))/\jU SC 82=Option.none/\jU SC 83=Option.none:=by and_intros<;>kernel_rfl
theorem F.q4:jU SC 84=Option.none/\kQ SC 22=(SM Go.Gg.x6.slice)/\kQ SC 23=(SM Go.Gg.x6.slice)/\kQ SC 24=(SM Go.Gg.x6.slice)/\kQ SC 57=(SM Go.Gg.x6.slice)/\Aq SC 22=(SM (3,(1,(SG SF (0)))))/\od SC 77=(SM (83,4))/\qf SC 22=(SM (3,(1,(SG SF (0)))))/\qf SC 23=(SM (61,(3,(TD #[(SG SF (0)),(SG SF (0)),(SG SF (0))]))))/\qf SC 24=(SM (48,(4,(TD #[(SG SF (0)),(SG SF (0)),(SG SF (0)),(SG SF (0))]))))/\qf SC 57=(SM (22,(1,(Us Option.none 0 0))))/\Ty SC 130=(SM (1,Bool.false))/\Ty SC 132=(SM (1,Bool.false))/\Ty SC 136=(SM (0,Bool.true))/\Ty SC 139=(SM (1,Bool.false))/\Ty SC 157=(SM (1,Bool.false)):=by and_intros<;>kernel_rfl
theorem F.q5:Ty SC 22=(SM (1,Bool.false))/\Ty SC 23=(SM (1,Bool.false))/\Ty SC 24=(SM (1,Bool.false))/\Ty SC 26=(SM (6,Bool.true))/\Ty SC 3=(SM (1,Bool.false))/\Ty SC 4=(SM (1,Bool.false))/\Ty SC 46=(SM (2,Bool.true))/\Ty SC 48=(SM (4,Bool.true))/\Ty SC 61=(SM (3,Bool.true))/\Ty SC 68=(SM (1,Bool.false))/\Ty SC 71=(SM (1,Bool.false))/\Ty SC 76=(SM (6,Bool.true))/\Ty SC 77=(SM (1,Bool.false))/\Ty SC 79=(SM (1,Bool.false))/\Ty SC 81=(SM (3,Bool.true))/\Ty SC 83=(SM (4,Bool.true)):=by and_intros<;>kernel_rfl
theorem F.q6:Ty SC 86=(SM (11,Bool.true))/\Ty SC 88=(SM (28,Bool.true))/\Ty SC 97=(SM (2,Bool.true))/\ey SC 112=(SM (TD #[(SG SF (0)),(SG SF (0)),(Xb Bool.false)]))/\ey SC 116=(SM (TD #[(SG SF (0)),(SG SF (0))]))/\ey SC 136=(SM (TD #[]))/\ey SC 139=(SM (XP Option.none))/\ey SC 147=(SM (TD #[(SG TB (0)),(SG ai' (0))]))/\ey SC 153=(SM (TD #[(SG SF (0)),(SG SF (0))]))/\ey SC 157=(SM YV)/\ey SC 26=(SM (TD #[(SG SF (0)),(SG SF (0)),(SG SF (0)),(Us Option.none 0 0),(Us Option.none 0 0),(Us Option.none 0 0)]))/\ey SC 3=(SM (SG SF (0)))/\ey SC 46=(SM (TD #[(SG SF (0)),(SG SF (0))]))/\ey SC 48=(SM (TD #[(SG SF (0)),(SG SF (0)),(SG SF (0)),(SG SF (0))]))/\ey SC 61=(SM (TD #[(SG SF (0)),(SG SF (0)),(SG SF (0))]))/\ey SC 68=(SM YV):=by and_intros<;>kernel_rfl
theorem F.q7:ey SC 76=(SM (TD #[(SG SF (0)),(SG SF (0)),(SG SF (0)),(Us Option.none 0 0),(Us Option.none 0 0),(Us Option.none 0 0)]))/\ey SC 79=(SM (SG S6 (0)))/\ey SC 80=(SM (TD #[(SG S6 (0)),(SG S6 (0)),(SG S6 (0)),(SG S6 (0))]))/\ey SC 81=(SM (TD #[(SG S6 (0)),(SG S6 (0)),(SG S6 (0))]))/\ey SC 83=(SM (TD #[(SG SF (0)),(SG SF (0)),(SG SF (0)),(SG SF (0))]))/\ey SC 86=(SM (TD #[(SG SF (0)),(SG SF (0)),(SG SF (0)),(SG SF (0)),(SG SF (0)),(SG SF (0)),(SG SF (0)),(SG SF (0)),(SG SF (0)),(SG SF (0)),(SG SF (0))]))/\ey SC 97=(SM (TD #[(SG SF (0)),(SG SF (0))])):=by and_intros<;>kernel_rfl
attribute [seval] F.q0 F.q1 F.q2 F.q3 F.q4 F.q5 F.q6 F.q7 F.Nm F.Nu
def isDone (j:Nat)(D:List Nat):Bool:=D.contains j
theorem ak2(j:Nat):isDone j []=false:=by simp[isDone]
theorem ak1(i j:Nat)(D:List Nat):isDone j (i::D)=((j==i)||isDone j D):=by
 by_cases h:j=i<;>simp[isDone,h]
theorem afD(lv:Bool)(P:SJ)(Hf:List Nat->List aa)(T:List (Nat×AV))(o:Tv)(av:AV):BQ lv P Hf T o av []=True:=by rw[BQ]
theorem afC(lv:Bool)(P:SJ)(Hf:List Nat->List aa)(T:List (Nat×AV))(o:Tv)(av:AV)(D D':List Nat)(l:List (List Nat×List Nat)):BQ lv P Hf T o av ((D,D')::l)=((AQ lv P ⟨T,Hf D⟩ o λa=>a=av)/\BQ lv P Hf T o av l):=by rw[BQ]
theorem ae8(lv:Bool)(P:SJ)(Hf:List Nat->List aa)(T:List (Nat×AV))(o:Tv)(av:AV):BE lv P Hf T o av []=True:=by rw[BE]
theorem ae7(lv:Bool)(P:SJ)(Hf:List Nat->List aa)(T:List (Nat×AV))(o:Tv)(av:AV)(D D':List Nat)(l:List (List Nat×List Nat)):BE lv P Hf T o av ((D,D')::l)=((jE lv P (Hf D') ⟨T,Hf D⟩ o λa H'=>a=av/\H'=Hf D')/\BE lv P Hf T o av l):=by rw[BE]
theorem ae4:type_of% @fK.eq_1:=by intros;rw[fK.eq_1]
theorem ae5:type_of% @fK.eq_2:=by intros;rw[fK.eq_2]
theorem ae3:type_of% @fK.eq_3:=by intros;rw[fK.eq_3]
theorem adu:type_of% @jE.eq_1:=by intros;rw[jE.eq_1]
theorem agq(G H:List aa)(k:AV->List aa->Prop)(n m sz:Nat)(elem:TypeId)(l l':List AV):p7 G H k n m sz elem l l' .exact=jG G[H.length]? (0<m/\k (.bD H.length 0 (n+m) 0) (H++[.own sz (l++l') elem])) (k (.sl (n+m) (l++l') (.opn H.length)) (H++[.tail (n+m) sz elem])) ⟨0⟩:=by rw[p7]
theorem aiA(X Y:Prop)(t:lB X Y):jG none X Y t=Y:=by rw[jG];simp
theorem aiB(a:Nat)(b:List AV)(c:TypeId)(X Y:Prop)(t:lB X Y):jG (some (.own a b c)) X Y t=X:=by rw[jG]
theorem aiz(b:List AV)(c:TypeId)(X Y:Prop)(t:lB X Y):jG (some (.cells b c)) X Y t=Y:=by rw[jG];simp
theorem aiE(a b:Nat)(c:TypeId)(X Y:Prop)(t:lB X Y):jG (some (.tail a b c)) X Y t=Y:=by rw[jG];simp
theorem aiy(b:Obj)(X Y:Prop)(t:lB X Y):jG (some (.obj b)) X Y t=Y:=by rw[jG];simp
theorem aiD(a:Nat)(b:List AV)(c:TypeId)(X Y:Prop)(t:lB X Y):jG (some (.part a b c)) X Y t=Y:=by rw[jG];simp
@[congr] theorem asu {x x' : Option aa} {X Y : Prop} {t : lB X Y} (h : x = x') : jG x X Y t = jG x' X Y t := by rw [h]
theorem agr(G H:List aa)(k:AV->List aa->Prop)(n m sz:Nat)(elem:TypeId)(l l':List AV)(i:Nat):p7 G H k n m sz elem l l' (.opn i)=((match H[i]?with
   |some (.tail n' eg fO)=>n'=n/\eg=sz/\fO=elem
   |_=>False)/\(∀a∈l',a.leaf=true)/\k (.sl (n+m) (l++l') (.opn i)) (H.set i (.tail (n+m) sz elem))):=by first|(rw[p7];done)|(rw[p7];rfl)
section
variable {lv:Bool}{P:SJ}{s s':AS}
@[congr] theorem arS {G G' : List aa} {o : Tv} {k : AV -> List aa -> Prop} (hG : G = G') (h : s = s') : jE lv P G s o k = jE lv P G' s' o k := by rw [hG, h]
@[congr] theorem ash {Hf : List Nat -> List aa} {ops : Array Tv} {l l' : List qa} {K : AS -> Prop} {t : Ao K} (hl : l = l') (h : s = s') : fK lv P Hf ops l s K t = fK lv P Hf ops l' s' K t := by rw [hl, h]
@[congr] theorem asl {Hf : List Nat -> List aa} {T T' : List (Nat × AV)} {o : Tv} {av mc : AV} {l l' : List (List Nat × List Nat)} (h1 : T = T') (h2 : av = mc) (h3 : l = l') : BQ lv P Hf T o av l = BQ lv P Hf T' o mc l' := by rw [h1, h2, h3]
@[congr] theorem asi {Hf : List Nat -> List aa} {T T' : List (Nat × AV)} {o : Tv} {av mc : AV} {l l' : List (List Nat × List Nat)} (h1 : T = T') (h2 : av = mc) (h3 : l = l') : BE lv P Hf T o av l = BE lv P Hf T' o mc l' := by rw [h1, h2, h3]
@[congr] theorem asp {f f' : AV} {H H' : List aa} {aD s_ : List AV} {k : AV -> List aa -> Prop} {t : Ap k} (h1 : f = f') (h2 : H = H') (h3 : aD = s_) : Dh lv P f H aD k t = Dh lv P f' H' s_ k t := by rw [h1, h2, h3]
@[congr] theorem asq {f f' : AV} {name : String} {H H' : List aa} {aD s_ : List AV} {k : AV -> List aa -> Prop} {t : Ap k} (h1 : f = f') (h2 : H = H') (h3 : aD = s_) : Hh lv P f name H aD k t = Hh lv P f' name H' s_ k t := by rw [h1, h2, h3]
@[congr] theorem aso {G G' H H' : List aa} {k : AV -> List aa -> Prop} {n n' m m' sz : Nat} {elem : TypeId} {l l' x x' : List AV} {e e' : End} (hG : G = G') (h0 : H = H') (h1 : n = n') (h2 : m = m') (h3 : l = l') (h4 : x = x') (h5 : e = e') : p7 G H k n m sz elem l x e = p7 G' H' k n' m' sz elem l' x' e' := by rw [hG, h0, h1, h2, h3, h4, h5]
end
attribute [seval] ak2 ak1 afD afC ae8 ae7 ae4 ae5 ae3 adu agq agr aiA aiB aiz aiE aiy aiD Bool.true_or Bool.false_or Bool.or_true Bool.or_false cond_true cond_false
def am.stay (Φ:am->AS->Prop):am->AS->Prop
 |.goto _,_=>False
 |e,s=>Φ e s
theorem ap5(Φ:am->AS->Prop)(s:AS):am.stay Φ .normal s=Φ .normal s:=by rw[am.stay];simp
theorem ap7(Φ:am->AS->Prop)(s:AS):am.stay Φ .ret s=Φ .ret s:=by rw[am.stay];simp
theorem ap4(Φ:am->AS->Prop)(i:Nat)(s:AS):am.stay Φ (.exit i) s=Φ (.exit i) s:=by rw[am.stay];simp
theorem ap6(Φ:am->AS->Prop)(a:AV)(s:AS):am.stay Φ (.panic a) s=Φ (.panic a) s:=by rw[am.stay];simp
theorem NS{lv:Bool}{P:SJ}{r:Option Nat}{s:AS}{nt:Nat}{c:T9}{Φ:am->AS->Prop}(h:aU lv P r nt c s (am.stay Φ)):aU lv P r nt (.scope c) s Φ:=by
 refine aeR (λ_ _ _=>False) ⟨0,h.mono λe s hs=> ?_⟩ λ_ _ _ _ _ hf=>hf.elim;cases e<;>first|exact hs|exact hs.elim
@[congr] theorem as0 {s s' : AS} {Φ : am -> AS -> Prop} {e e' : am} (he : e = e') (h : s = s') : am.stay Φ e s = am.stay Φ e' s' := by rw [he, h]
attribute [seval] ap5 ap7 ap4 ap6
theorem akZ{α:Type}(n:Nat)(x:α):(if(n:Int)<0 then none else some x)=some x:=by rw[if_neg (by omega)]
theorem afA:(XK==VX)=false:=by decide
theorem afB:(VX==VX)=true:=by decide
theorem aqC{α β:Type}(f:α->β)(xs:List α):(xs.map f).take xs.length=xs.map f:=SX (by simp)
theorem ana(o:VZ):(o=o\/o=.neq)=True:=by simp
theorem anb:(VX=.eql\/VX=.neq)=True:=by simp
theorem ak6{α:Type}(a b:α):(if false=true then a else b)=b:=by simp
theorem ak7{α:Type}(a b:α):(if true=true then a else b)=a:=by simp
theorem afw(s:AS):s.iI none=some none:=by rw[AS.iI]
theorem afx(s:AS)(x:Tg):s.iI (some x)=(s.ev x).bind λa=>a.uM.map some:=by
 rw[AS.iI];cases s.ev x<;>rfl
theorem aet(j:TV)(n:Int):AV.uM (.val (.int j n))=some n:=by rw[AV.uM]
theorem adJ(P:SJ)(t:TypeId)(id off:Nat)(l h m:Option Int)(k:AV->Prop):rB P t (.op id off) l h m k=ao (uE P t) λp=>rG id off p.1 p.1 p.2 l h m k:=by rw[rB]
theorem adK(P:SJ)(t:TypeId)(id off n c:Nat)(l h m:Option Int)(k:AV->Prop):rB P t (.bD id off n c) l h m k=ao (jU P t) λp=>rG id off n c p.2 l h m k:=by rw[rB]
theorem adL(P:SJ)(t:TypeId)(n:Nat)(li:List AV)(e:End)(l h m:Option Int)(k:AV->Prop):rB P t (.sl n li e) l h m k=ao (jU P t) λp=>wi n li e p.2 l h m k:=by rw[rB]
theorem ani:type_of% @rG.eq_1:=by intros;rw[rG.eq_1]
theorem apE:type_of% @wi.eq_1:=by intros;rw[wi.eq_1]
@[congr] theorem asV {id nU off CE n n' cap cap' sz eg : Nat} {lo Cu hi cu mx Cy : Option Int} {k : AV -> Prop} (h1 : id = nU) (h2 : off = CE) (h3 : n = n') (h4 : cap = cap') (h5 : sz = eg) (h6 : lo = Cu) (h7 : hi = cu) (h8 : mx = Cy) : rG id off n cap sz lo hi mx k = rG nU CE n' cap' eg Cu cu Cy k := by rw [h1, h2, h3, h4, h5, h6, h7, h8]
@[congr] theorem asY {n n' sz eg : Nat} {l l' : List AV} {e e' : End} {lo Cu hi cu mx Cy : Option Int} {k : AV -> Prop} (h3 : n = n') (h1 : l = l') (h2 : e = e') (h5 : sz = eg) (h6 : lo = Cu) (h7 : hi = cu) (h8 : mx = Cy) : wi n l e sz lo hi mx k = wi n' l' e' eg Cu cu Cy k := by rw [h1, h2, h3, h5, h6, h7, h8]
theorem amF:((1:Nat):Int)=1:=rfl
theorem amG:((2:Nat):Int)=2:=rfl
theorem amH:((3:Nat):Int)=3:=rfl
theorem amI:((4:Nat):Int)=4:=rfl
theorem amJ:((5:Nat):Int)=5:=rfl
theorem amK:((6:Nat):Int)=6:=rfl
theorem aqZ(p:Prop):(True\/p)=True:=by simp
theorem ang(p:Prop):(p\/True)=True:=by simp
attribute [seval] amF amG amH amI amJ amK aqZ ang Int.le_refl List.length_map
theorem aek(H L:List aa):(H++L)[H.length+1+1]?=L[2]?:=uK H L 2
theorem ael(H L:List aa):(H++L)[H.length+1+1+1]?=L[3]?:=uK H L 3
theorem aeo(H L:List aa)(x:aa):(H++L).set (H.length+1+1) x=H++L.set 2 x:=uL H L 2 x
theorem aep(H L:List aa)(x:aa):(H++L).set (H.length+1+1+1) x=H++L.set 3 x:=uL H L 3 x
attribute [seval] aek ael aeo aep
attribute [seval] afw afx aet adJ adK adL ani apE Option.getD_none Option.getD_some Int.toNat_zero Nat.sub_zero Option.bind_some Option.map_some Nat.zero_le Option.isSome_none Option.isSome_some Bool.false_eq_true false_implies
attribute [seval] akZ afA afB aqC ana anb ak6 ak7
section
variable {P:SJ}{α β:Type}
theorem gU(a:α):cp P (pure a) a:=λw es=>by simp only[pure,VD]
theorem kN{x:Sem α}{f:α->Sem β}{a:α}{b:β}(h:cp P x a)(k:cp P (f a) b):cp P (x>>=f) b:=λw es=>by
 show (x.bind f).runT P w es=_;rw[Sem.runT_bind',h w es];exact k w es
theorem aqr{k:SJ->Sem α}{a:α}(h:cp P (k P) a):cp P (.program k) a:=λw es=>by simp only[VD];exact h w es
theorem ML{k:SJ->Sem α}{a:α}(h:cp P (k P) a):cp P (program>>=k) a:=kN (a:=P) (aqr (gU P)) h
theorem vY{t:TypeId}{d:TypeDesc}{k:TypeDesc->Sem α}{a:α}(h:P.underlying t=some d)(hk:cp P (k d) a):cp P (underlying t>>=k) a:=by
 unfold underlying;refine kN (a:=d) (ML ?_) hk;rw[h];exact gU d
def ya:TypeDesc->Bool
 |.struct _|.array _ _=>true
 |_=>false
theorem acr{t:TypeId}{d:TypeDesc}{k:Bool->Sem α}{a:α}(h:P.underlying t=some d)(hk:cp P (k (ya d)) a):cp P (isAgg t>>=k) a:=by
 unfold isAgg;refine kN (vY (a:=ya d) h ?_) hk;cases d<;>exact gU _
theorem MM{t:TypeId}{i:Wj}{k:Nat->Sem α}{a:α}(h:P.info? t=some i)(hk:cp P (k i.size) a):cp P (sizeOf t>>=k) a:=by
 unfold sizeOf typeInfo;refine kN (kN (a:=i) (ML ?_) (gU _)) hk;rw[h];exact gU i
theorem CU{t:TypeId}{d:TypeDesc}{xs:Array SO}{off:Nat}{v:SO}{k:SO->Sem α}{a:α}(h:P.underlying t=some d)(hd:ya d=false)(hv:xs[off]?=some v)(hk:cp P (k v) a):cp P (part t xs off>>=k) a:=by
 unfold part;refine kN (a:=v) (acr h ?_) hk;rw[hd,hv];exact gU v
theorem acs{t:TypeId}{d:TypeDesc}{i:Wj}{xs:Array SO}{off:Nat}{k:SO->Sem α}{a:α}(h:P.underlying t=some d)(hd:ya d=true)(hi:P.info? t=some i)(hk:cp P (k (.agg (xs.extract off (off+i.size)))) a):cp P (part t xs off>>=k) a:=by
 unfold part;refine kN (acr h ?_) hk;rw[hd];exact MM hi (gU _)
theorem acp{t:TypeId}{k0 k:TV}{d:Nat}{x y:Int}(h:P.underlying t=some (.int k0)):cp P (U8 (d+1) t (.int k x) (.int k y)) (x==y):=by
 rw[U8];refine vY h ?_;dsimp only;rw[if_pos rfl];exact gU _
theorem aqk{t:TypeId}{d:Nat}{x y:Bool}(h:P.underlying t=some .bool):cp P (U8 (d+1) t (.bool x) (.bool y)) (x==y):=by
 rw[U8];exact vY h (gU _)
theorem acj{ι:Type}{body:ι->Option Bool×Unit->Sem (ForInStep (Option Bool×Unit))}{p:ι->Bool}:∀(l:List ι),(∀i∈l,cp P (body i (none,())) (if p i then .yield (none,())else .done (some false,())))->cp P (forIn l (none,()) body) (if l.all p then(none,())else(some false,()))
 |[],_=>by simpa using gU (none,())
 |i::l,h=>by
  rw[W2];refine kN (h i (Tw ..)) ?_;by_cases hp:p i=true
  ·simp only[hp,if_true,ZP,U9];exact acj l λj hj=>h j (Tb _ hj)
  ·have y_:p i=false:=(by simpa using hp);simp only[y_,TN,if_false,ZP,Xi];exact gU _
theorem aec{α:Type}[BEq α][LawfulBEq α]{xs ys:List α}{n:Nat}(hx:xs.length=n)(hy:ys.length=n):((Ub 0 n).all λi=>xs[i]?==ys[i]?)=(xs==ys):=by
 rw[U6,Tx,beq_iff_eq];constructor
 ·intro h;apply Yp;intro i;by_cases hi:i<n
  ·have:=h i (by simp[XX];omega);simpa using this
  ·rw[Uu (by omega),Uu (by omega)]
 ·rintro rfl i _;simp
theorem aqo{t e:TypeId}{k0 k:TV}{n d:Nat}{i:Wj}{xs ys:List Int}(ht:P.underlying t=some (.array n e))(he:P.underlying e=some (.int k0))(hi:P.info? e=some i)(hs:i.size=1)(hx:xs.length=n)(hy:ys.length=n):
  cp P (U8 (d+2) t (.agg (xs.map (SG k)).toArray) (.agg (ys.map (SG k)).toArray)) (xs==ys):=by
 rw[U8];refine vY ht ?_;dsimp only;refine MM hi ?_;rw[hs];simp only[Wv,Xu];refine kN (a:=if(xs==ys)then(none,())else(some false,())) ?_ (by cases xs==ys<;>exact gU _);have hn:(n-0+1-1)/1=n:=by simp
 rw[hn,<- aec hx hy];refine acj _ λj hj=> ?_;have oD:j<n:=by simp[XX]at hj;omega
 have gx:xs[j]?=some (xs[j]'(by omega)):=SP _;have gy:ys[j]?=some (ys[j]'(by omega)):=SP _;rw[Ye];refine CU he rfl (v:=.int k (xs[j]'(by omega))) (by simp[gx]) ?_;refine CU he rfl (v:=.int k (ys[j]'(by omega))) (by simp[gy]) ?_;refine kN (acp he) ?_;rw[gx,gy];by_cases h:xs[j]'(by omega)=ys[j]'(by omega)
 ·rw[h];simp;exact gU _
 ·have h1:(xs[j]'(by omega)==ys[j]'(by omega))=false:=by simpa using h
  have h2:(some (xs[j]'(by omega))==some (ys[j]'(by omega)))=false:=by simpa using h
  rw[h1,h2];exact gU _
theorem cp.uniq{x:Sem α}{a b:α}(h:cp P x a)(k:cp P x b):a=b:=by
 have e:=(h default #[]).symm.trans (k default #[]);have e1:=congrArg Prod.fst e;exact(ao' e1).1
theorem acm{t e:TypeId}{k0:TV}{n:Nat}{i:Wj}{xs ys:List Int}(ht:P.underlying t=some (.array n e))(he:P.underlying e=some (.int k0))(hi:P.info? e=some i)(hs:i.size=1)(hx:xs.length=n)(hy:ys.length=n):
  cp P (Xh t (.agg (xs.map (SG .i64)).toArray) (.agg (ys.map (SG .i64)).toArray)) (xs==ys):=aqo (d:=9998) ht he hi hs hx hy
theorem xH(xs:List Int):AV.raw (.agg (xs.map iv))=some (.agg (xs.map (SG .i64)).toArray):=by
 have:∀l:List Int,(l.map iv).mapM AV.zJ=some (l.map (SG .i64)):=by
  intro l;induction l with
  |nil=>rfl
  |cons x l ih=>simp only[UU,T_,ih];rfl
 simp only[AV.raw,this];rfl
theorem anR{xs:List Int}{i:Nat}{y:Int}(h:i<xs.length):h_ (xs.map iv) i [iv y]=(xs.set i y).map iv:=by
 unfold h_;rw[List.map_set,List.set_eq_take_append_cons_drop,if_pos (by simpa using h)];simp
theorem vV{xs:List Int}{i:Nat}{y:Int}(h:i<xs.length):(xs.map iv).take i++[iv y]++(xs.map iv).drop (i+1)=(xs.set i y).map iv:=anR h
theorem kv{xs:List Int}{i:Nat}{x:Int}(h:xs[i]?=some x):(xs.map iv).drop i=iv x::(xs.drop (i+1)).map iv:=by
 have h1:=eB h;rw[<- ag_,T8 h1,UU];rw[SP h1]at h;cases h;rfl
end
theorem Sw(xs:List Int):(∀a∈xs.map iv,a.leaf=true)=True:=by
 simp only[Tm,eq_iff_iff,iff_true]
 rintro a ⟨x,_,rfl⟩;rfl
attribute [seval] List.append_nil Sw
def xT (lv:Bool)(P:SJ)(g:TO)(args:Array SO)(md:U5)(V:View)(R:U5->View->Prop):Prop:=
 ∀(main:Bool)(J:View->SH->Prop),Closed lv P main J->∀(fr:Ua)(cs:List Ua),fr.mode=md->(∀nh V',R nh V'->J V' (G {fr with mode:=nh} cs))->J V (G (Frame.enter P g args .deferred) (fr::cs))
def qj:U5->U5
 |.panicking ({recovered:=true, .. }::LS)=>match LS.dropWhile (!·.goexit)with
  |[]=> .returning
  |rest=> .panicking rest
 |m=>m
theorem Sx{lv:Bool}{P:SJ}{main:Bool}{J:View->SH->Prop}(C:Closed lv P main J){fr c:Ua}{cs:List Ua}{f:TO}{v:SO}{V:View}(h:Leaves P fr f .deferred (.ret v) V)(hJ:J V (G {c with mode:=qj c.mode} cs)):J V (G fr (c::cs)):=by
 obtain⟨rfl,hd,hk,fn,hf,hm,hr⟩:=h;refine C.step _ _ rfl λw hw=> ?_;obtain⟨es,w',V',h1,h2,h3⟩:=hr.runs hw;rcases h3 with⟨x,h3,rfl,rfl⟩|⟨_,_,h⟩
 ·refine⟨G {c with mode:=qj c.mode} cs,w',seen P fr.fn es,V',?_,h1.seen P fr.fn,hJ⟩;simp only[G,stepG,unwind,doReturn,hm,hd,hk,hf,TC,h3,h2,T1];cases EQ:c.mode with
  |run=>simp[qj,<- EQ]
  |returning=>simp[qj,<- EQ]
  |panicking ch=>
   cases ch with
   |nil=>simp[qj,<- EQ]
   |cons p LS=>
    obtain⟨v,rec,ge⟩:=p;cases rec with
    |false=>simp[qj,<- EQ]
    |true=>
     simp only[qj];cases hdw:LS.dropWhile (!·.goexit)with
     |nil=>simp
     |cons x y=>simp
 ·exact h.elim
theorem O2{ρ:Tg->SO}{o:Tv}{cl:Xr}(au:o.op=.call cl)(aV:cl.callee=.builtin .recover)(P:SJ)(w:Tp)(es:Array Uq):(execOp ρ o).runT P w es=(.ok .recover w,es):=by
 unfold execOp;rw[au];dsimp only;unfold resolve;rw[aV];rfl
theorem ao7{P:SJ}{main:Bool}{b c:Ua}{a:Act}{k:List WT}{cs:List Ua}{w:Tp}{ops:Array Tv}{i:Nat}{rest:List Nat}{o:Tv}{cl:Xr}{v:SO}(ho:ops[i]?=some o)(hg:o.guard=none)(au:o.op=.call cl)(aV:cl.callee=.builtin .recover)(hb:b.kind=.deferred)(hr:b.roundOf=none)
  (hm:c.mode=.panicking [{v,recovered:=false}]):stepG P main (G (on b a (.inRegion ops (i::rest)::k)) (c::cs)) w=.go (G (on b (a.put o.dst v) (.inRegion ops rest::k)) ({c with mode:=.panicking [{v,recovered:=true}]}::cs)) w #[]:=by
 have dT:(on b a (.inRegion ops (i::rest)::k)).finish v=on b (a.put o.dst v) (.inRegion ops rest::k):=by
  rw[zB,ho];rfl
 rw[s_op ho (by unfold Tf;rw[hg]) (.inl hr),<- dT];have jA:((on b a (.inRegion ops (i::rest)::k)).kind==U3)=false:=by simp[on,hb]
 simp only[stepG.apply,if_true,O2 au aV,jA,T1,TN,if_false];have h1:(on b a (.inRegion ops (i::rest)::k)).roundOf=none:=hr;have h2:(on b a (.inRegion ops (i::rest)::k)).kind=.deferred:=hb;rw[h1];simp only[tryRecover,h2,hm];simp[seen,G]
theorem ao8{P:SJ}{main:Bool}{b c:Ua}{a:Act}{k:List WT}{cs:List Ua}{w:Tp}{ops:Array Tv}{i:Nat}{rest:List Nat}{o:Tv}{cl:Xr}(ho:ops[i]?=some o)(hg:o.guard=none)(au:o.op=.call cl)(aV:cl.callee=.builtin .recover)(hb:b.kind=.deferred)(hr:b.roundOf=none)
  (hm:c.mode=.returning):stepG P main (G (on b a (.inRegion ops (i::rest)::k)) (c::cs)) w=.go (G (on b (a.put o.dst .nilIface) (.inRegion ops rest::k)) (c::cs)) w #[]:=by
 have dT:(on b a (.inRegion ops (i::rest)::k)).finish .nilIface=on b (a.put o.dst .nilIface) (.inRegion ops rest::k):=by
  rw[zB,ho];rfl
 rw[s_op ho (by unfold Tf;rw[hg]) (.inl hr),<- dT];have jA:((on b a (.inRegion ops (i::rest)::k)).kind==U3)=false:=by simp[on,hb]
 simp only[stepG.apply,if_true,O2 au aV,jA,T1,TN,if_false];have h1:(on b a (.inRegion ops (i::rest)::k)).roundOf=none:=hr;have h2:(on b a (.inRegion ops (i::rest)::k)).kind=.deferred:=hb;rw[h1];simp only[tryRecover,h2,hm];simp[seen,G]
def Di (P:SJ)(fn:YF)(K:View->Prop):Ex->Act->View->Prop
 |.normal,a,V|.ret,a,V=>a.defers=[]/\∃v,aO P V (results fn a.tmps) (λx V'=>x=v/\V'=V) (λ_ _=>False)/\K V
 |_,_,_=>False
theorem afZ{lv:Bool}{P:SJ}{g:TO}{fn:YF}{id:Nat}{ops:Array Tv}{c2:T9}{o:Tv}{cl:Xr}{args:Array SO}{md:U5}{v0:SO}{V:View}{R:U5->View->Prop}
  (hf:P.funcs[g]?=some fn) (hb:fn.body=some (.seq (.region id ops false) c2)) (ho:ops[0]?=some o) (hg:o.guard=none) (au:o.op=.call cl) (aV:cl.callee=.builtin .recover)
  (pz:md=.panicking [{v:=v0,recovered:=false}]\/(md=.returning/\v0=.nilIface))
  (h:c_ lv P none ops (Ex.then (WP lv P none c2 (Di P fn (R .returning))) (Di P fn (R .returning))) (Ub 1 (ops.size-1)) (({tmps:=args++TK (fn.ntmps-args.size) undef,defers:=[]}:Act).put o.dst v0) V):xT lv P g args md V R:=by
 intro main J C fr cs lK hR;let b:Ua:={(default:Ua)with fn:=g,kind:=.deferred,roundOf:=none};have tM:Frame.enter P g args .deferred=on b {tmps:=args++TK (fn.ntmps-args.size) undef,defers:=[]} [.code (.seq (.region id ops false) c2)]:=by
  simp[Frame.enter,on,hf,hb,b]
 rw[tM];have aT:0<ops.size:=(SR.1 ho).1;have Kt:SV ops.size=0::Ub 1 (ops.size-1):=by
  rw[Vo];obtain⟨n,hn⟩:∃n,ops.size=n+1:=⟨ops.size-1,by omega⟩;rw[hn,VP];rfl
 refine C.idle rfl (λ_=>abx) (C.idle rfl (λ_=>abw) ?_);rw[Kt];have fin:∀(c:Ua),qj c.mode=.returning->{c with mode:=qj c.mode}={fr with mode:=.returning}->∀e a' V',Di P fn (R .returning) e a' V'->uG J b [] (c::cs) e a' V':=by
  intro c hc vo e a' V' q;cases e with
  |normal=>
   obtain⟨hd,v,hs,hr⟩:=q;refine C.idle rfl (λw=>CK rfl) (Sx (f:=g) (v:=v) C ⟨rfl,hd,rfl,fn,hf,rfl,hs⟩ ?_);rw[vo];exact hR _ _ hr
  |ret=>
   obtain⟨hd,v,hs,hr⟩:=q;intro k;refine C.idle rfl (λw=>CL rfl) (Sx (f:=g) (v:=v) C ⟨rfl,hd,rfl,fn,hf,rfl,hs⟩ ?_);rw[vo];exact hR _ _ hr
  |_=>exact q.elim
 have run:∀(c:Ua),qj c.mode=.returning->{c with mode:=qj c.mode}={fr with mode:=.returning}->J V (G (on b (({tmps:=args++TK (fn.ntmps-args.size) undef,defers:=[]}:Act).put o.dst v0) (.inRegion ops (Ub 1 (ops.size-1))::[.code c2])) (c::cs)):=by
  intro c hc vo;refine wp_ops _ _ V h main J C b [.code c2] (c::cs) (by show YP≠U3;decide) rfl λe a' V' q=> ?_;cases e with
  |normal=>exact q main J C b [] (c::cs) (by show YP≠U3;decide) rfl λe b8 aR q'=>fin c hc vo e b8 aR q'
  |ret=>exact fin c hc vo .ret a' V' q
  |panic ch=>exact q.elim
  |exit i=>exact q.elim
  |goto i=>exact q.elim
 rcases pz with pz|⟨pz,hv⟩
 ·refine C.idle rfl (λw=>ao7 ho hg au aV rfl rfl (by rw[lK,pz])) ?_;exact run {fr with mode:=.panicking [{v:=v0,recovered:=true}]} rfl rfl
 ·refine C.idle rfl (λw=>ao8 ho hg au aV rfl rfl (by rw[lK,pz])) ?_;subst hv;have jh:fr.mode=.returning:=by rw[lK,pz]
  exact run fr (by rw[jh];rfl) (by rw[jh];rfl)
section
variable {lv:Bool}{P:SJ}
theorem Mv{g:TO}{args:Array SO}{V:View}{K:Next->View->Prop}{Kp:SO->View->Prop}(hg:pY P g=true)(h:K (.enter g args) V):aO P V (callFunc g args) K Kp:=by
 unfold callFunc;refine az (pP (cD ?_));unfold pY at hg;split at hg
 ·rename_i fn wZ;simp only[Th,TW]at hg;rw[wZ];dsimp only;have vn:fn.body.isNone=false:=by
   have h1:=hg.1;cases hb:fn.body with
   |none=>rw[hb]at h1;cases h1
   |some _=>rfl
  rw[if_neg (by rw[hg.2];simp),if_neg (by rw[vn];simp)];exact aq h
 ·cases hg
theorem AP{E:Env}{V:View}{H:List aa}{args:List AV}{vs:Array SO}{nt:Nat}(hc:Conc E V H)(hd:cE E args vs)(cI:args.length<=nt):At E V ⟨bk 0 args,H⟩ {tmps:=vs++TK (nt-vs.size) undef,defers:=[]} nt:=by
 have aT:(vs++TK (nt-vs.size) undef).size=nt:=by simp[hd.1];omega
 refine⟨hc,λq a e=> ?_,aT⟩;obtain⟨_,e⟩:=Ly args 0 q a e;simp only[ZY]at e;have hq:q<args.length:=(SN.1 e).1;have sw:q<vs.size:=by rw[hd.1];exact hq
 refine⟨by rw[aT];omega,?_⟩;have:=hd.2 q a e;rw[SI,Yc sw];rwa [SI]at this
def xS (E:Env)(c:AV×List AV)(d:UV):Prop:=∃f first cM fa ca vs,c.1=.fn (.func f) first cM/\d=⟨.fn (.func f) ca,fa++vs⟩/\cE E first fa/\cE E cM ca/\cE E c.2 vs
theorem xS.mono{E E':Env}(h:E.Le E'){c:AV×List AV}{d:UV}(k:xS E c d):xS E' c d:=by
 obtain⟨f,first,cM,fa,ca,vs,h1,h2,h3,h4,h5⟩:=k;exact⟨f,first,cM,fa,ca,vs,h1,h2,h3.mono h,h4.mono h,h5.mono h⟩
def Nn (E:Env):Option AV->U5->Prop
 |none,md=>md=.returning
 |some pv,md=>∃v,md=.panicking [{v,recovered:=false}]/\ap E pv v
def pZ (lv:Bool)(P:SJ)(c:AV×List AV)(H:List aa)(m:Option AV)(kr kp:List aa->Prop):Prop:=
 ∀(E:Env)(V:View)(d:UV)(md:U5),Conc E V H->xS E c d->Nn E m md->aO P V (invoke d.target d.args) (λnx V'=>∃g args,nx=.enter g args/\xT lv P g args md V' λnh aR=>∃E' H',E.Le E'/\aR.role=V.role/\aR.deaf=V.deaf/\Conc E' aR H'/\((nh=.returning/\kr H')\/(nh=md/\m.isSome=true/\kp H'))) (λ_ _=>False)
def Ak (n0:Nat)(kr:List aa->Prop):am->AS->Prop
 |.normal,s|.ret,s=>kr s.H\/∃H' G,s.H=H'++G/\n0<=H'.length/\bM H'/\kr H'
 |_,_=>False
theorem Ak.out{n0:Nat}{E0 E:Env}{V':View}{H:List aa}{kr:List aa->Prop}(h:kr H\/∃H' G,H=H'++G/\n0<=H'.length/\bM H'/\kr H')(hc:Conc E V' H)(hle:E0.Le E)(hn:E0.n=n0):∃E' H',E0.Le E'/\Conc E' V' H'/\kr H':=by
 rcases h with h|⟨H',G,rfl,h1,h2,h3⟩
 ·exact⟨E,H,hle,hc,h⟩
 ·exact⟨{E with n:=H'.length},H',CY h1 (by rw[hc.n];simp) hle hn,hc.trim h2,h3⟩
theorem results_none{fn:YF}{tmps:Array SO}{V:View}(hr:fn.results=#[]):aO P V (results fn tmps) (λx V'=>x=.tuple #[]/\V'=V) (λ_ _=>False):=by
 unfold results;rw[show fn.results=([]:List UL).toArray from hr,XZ];refine az ?_;refine az ?_;rw[UA];refine aq (aq (aq ⟨?_,rfl⟩));simp
theorem afY{g:TO}{fn:YF}{id nt:Nat}{ops:Array Tv}{c2:T9}{o:Tv}{cl:Xr}{first cM aD:List AV}{H:List aa}{m:Option AV}{kr kp:List aa->Prop}
  (hg:pY P g=true) (hf:P.funcs[g]?=some fn) (hb:fn.body=some (.seq (.region id ops false) c2)) (hr:fn.results=#[]) (hn:fn.ntmps=nt) (ho:ops[0]?=some o) (sh:o.guard=none) (au:o.op=.call cl) (aV:cl.callee=.builtin .recover) (db:jw nt ops=true) (cI:(first++aD++cM).length<=nt)
  (h:gV lv P ops (ops.toList.drop 1) ((⟨bk 0 (first++aD++cM),H⟩:AS).put o.dst (m.getD (.val .nilIface))) (λs'=>aU lv P none nt c2 s' (Ak H.length kr)) (λ_ _=>False)):pZ lv P (.fn (.func g) first cM,aD) H m kr kp:=by
 intro E V d md hc hd pz;obtain⟨f,asr,asn,fa,ca,vs,h1,rfl,h3,h4,h5⟩:=hd;cases h1;unfold invoke;dsimp only;refine Mv hg ⟨g,_,rfl,?_⟩;obtain⟨v0,hv,aj1⟩:∃v0,ap E (m.getD (.val .nilIface)) v0/\(md=.panicking [{v:=v0,recovered:=false}]\/(md=.returning/\v0=.nilIface)):=by
  cases m with
  |none=>exact⟨.nilIface,.val _,.inr ⟨pz,rfl⟩⟩
  |some pv=>obtain⟨v,e,hv⟩:=pz;exact⟨v,hv,.inl e⟩
 refine afZ hf hb ho sh au aV aj1 ?_;have ah:=AP (nt:=nt) hc (A3 (A3 h3 h5) h4) cI;rw[hn];have aT:0<ops.size:=(SR.1 ho).1;have fl:o∈ops:=W4 ho;have aQ:At E V ((⟨bk 0 (first++aD++cM),H⟩:AS).put o.dst (m.getD (.val .nilIface))) (({tmps:=fa++vs++ca++TK (nt-(fa++vs++ca).size) undef,defers:=[]}:Act).put o.dst v0) nt:=
  ⟨by rw[eX];exact ah.br,ah.tok.gF (λd e=>by rw[ah.size];exact(jw.out db fl).1 d e) hv,(dR _ _ _).trans ah.size⟩
 refine zC (r:=none) (Φ:=λe s'=>match e with
  |.normal=>aU lv P none nt c2 s' (Ak H.length kr)
  |_=>False) (λo ho d e=>(jw.out db ho).1 d e) (λ_ _=> .inl rfl) (ops.size-1) 1 _ (by omega) h E V _ _ aQ λae e E' V' a' s' hk ai7 he hΦ=> ?_
 cases ae<;>cases e<;>first
  |exact he.elim
  |exact hΦ.elim
  |skip
 refine hΦ E' V' a' _ ai7 λae e bO aR b8 c9 aI cX jN sD=> ?_;have fin:(kr c9.H\/∃H' G,c9.H=H'++G/\H.length<=H'.length/\bM H'/\kr H')->Di P fn (λaR=>∃E' H',E.Le E'/\aR.role=V.role/\aR.deaf=V.deaf/\Conc E' aR H'/\((Ys=.returning/\kr H')\/(Ys=md/\m.isSome=true/\kp H'))) .ret b8 aR:=λsD=>by
  obtain⟨E3,H',q1,q2,q3⟩:=Ak.out (E0:=E) sD cX.br (hk.le.trans aI.le) hc.n;have bw:b8.defers=[]:=by rw[aI.defers,hk.defers];exact put_defers _ _ _
  exact⟨bw,_,results_none hr,E3,H',q1,aI.role.trans hk.role,aI.deaf.trans hk.deaf,q2,.inl ⟨rfl,q3⟩⟩
 cases ae<;>cases e<;>first
  |exact jN.elim
  |exact sD.elim
  |exact fin sD
theorem Ot{g:TO}{fn:YF}{id nt:Nat}{ops:Array Tv}{c2:T9}{o:Tv}{l:List Tv}{d0:Option Nat}{cl:Xr}{first cM aD:List AV}{H:List aa}{m:Option AV}{kr kp:List aa->Prop}
  (hg:pY P g=true) (hf:P.funcs[g]?=some fn) (hb:fn.body=some (.seq (.region id ops false) c2)) (hr:fn.results=#[]) (hn:fn.ntmps=nt) (hl:ops.toList=o::l) (sh:o.guard=none) (bh:o.dst=d0) (au:o.op=.call cl) (aV:cl.callee=.builtin .recover) (db:jw nt ops=true) (cI:(first++aD++cM).length<=nt)
  (h:gV lv P ops l ((⟨bk 0 (first++aD++cM),H⟩:AS).put d0 (m.getD (.val .nilIface))) (λs'=>aU lv P none nt c2 s' (Ak H.length kr)) (λ_ _=>False)):pZ lv P (.fn (.func g) first cM,aD) H m kr kp:=by
 subst bh;refine afY hg hf hb hr hn (o:=o) (cl:=cl) ?_ sh au aV db cI (by rw[hl];simpa using h);have:ops.toList[0]?=some o:=by rw[hl];rfl
 simpa using this
end
section
variable {lv:Bool}{P:SJ}{r:Option Nat}{s:AS}
theorem F8{nt:Nat}{all:Array Tv}{Φ:am->AS->Prop}(db:∀o∈all,∀d,o.dst=some d->d<nt)(mU:r=none):∀(n k:Nat)(s:AS),k+n<=all.size->gV lv P all ((all.toList.drop k).take n) s (Φ .normal) (λpv s=>Φ (.panic pv) s)->
  ∀(E:Env)(V:View)(a:Act)(Q:Ex->Act->View->Prop),At E V s a nt->(∀ae e E' V' a' s',Kept E E' V V' a a'->At E' V' s' a' nt->oX E' ae e->Φ ae s'->Q e a' V')->c_ lv P r all Q (Ub k n) a V
 |0,k,s,hk,h,E,V,a,Q,ah,hQ=>by
  rw[ak']at h;exact hQ .normal .normal E V a s (Kept.refl E V a) ah trivial h
 |n+1,k,s,hk,h,E,V,a,Q,ah,hQ=>by
  have hlt:k<all.size:=by omega
  have hd:all.toList.drop k=all[k]::all.toList.drop (k+1):=by
   rw[T8 (by simpa using hlt)];simp
  rw[hd,VU]at h;have fl:all[k]∈all:=XV hlt;have ho:all[k]?=some all[k]:=SK hlt;simp only[VP,c_,ho];have go:∀s:AS,At E V s a nt->l5 lv P s all[k] (λs'=>gV lv P all ((all.toList.drop (k+1)).take n) s' (Φ .normal) (λpv s=>Φ (.panic pv) s)) (λpv s=>Φ (.panic pv) s)->we lv P r all[k] a V (c_ lv P r all Q (Ub (k+1) n)) Q:=λs ah h=>by
   refine h.sound (lv:=lv) (r:=r) E V a _ Q ah.br ah.tok (λd e=>by rw[ah.size];exact db _ fl d e) (.inl mU) (λE' V' a' s' aI bf lP hn=> ?_) (λE' V' s' pv v aI bf lP bi hb=> ?_)
   ·exact F8 db mU n (k+1) s' (by omega) hn E' V' a' Q ⟨bf,lP,aI.size.trans ah.size⟩ (λae e bO aR b8 c9 fF cX he hΦ=>hQ ae e bO aR b8 c9 (aI.trans fF) cX he hΦ)
   ·exact hQ (.panic pv) (.panic _) E' V' a s' aI ⟨bf,lP,ah.size⟩ ⟨v,rfl,bi⟩ hb
  simp only[gV]at h;split at h
  ·rename_i hg;have hw:Tf all[k] (yielded all a.tmps)=true:=(by unfold Tf;rw[hg]);rw[if_pos hw];exact .inl (go s ah h)
  ·rename_i j bU hg;obtain⟨d,fS,h⟩:=h.out;obtain⟨av,h1,h⟩:=h.out;obtain⟨b,rfl,h2,h3⟩:=AM h;have hv:=(ah.tok d _ h1).2;have hy:yielded all a.tmps j=some b:=by
    obtain⟨oj,j5,iM⟩:=Td.1 fS;generalize hx:a.tmps.getD d undef=x at hv;cases hv;have lM:d<a.tmps.size:=(ah.tok d _ h1).1;rw[SI,SK lM]at hx;simp only[S8]at hx;simp[yielded,j5,iM,SK lM,hx]
   have qW:∀b',b=b'->At E V ⟨(d,.val (.bool b'))::s.T,s.H⟩ a nt:=λb' du=>by
    subst du;refine⟨ah.br,λt x e=> ?_,ah.size⟩;simp only[look]at e;split at e
    ·rename_i e';subst e';cases e;exact ah.tok d _ h1
    ·exact ah.tok t x e
   by_cases hb:b=bU
   ·have hw:Tf all[k] (yielded all a.tmps)=true:=(by unfold Tf;rw[hg];simp[hy,hb]);rw[if_pos hw];exact .inl (go _ (qW bU hb) (h2 hb))
   ·have hw:¬Tf all[k] (yielded all a.tmps)=true:=(by unfold Tf;rw[hg];simp[hy,hb]);rw[if_neg hw];have du:b= !bU:=(by cases b<;>cases bU<;>simp_all);have tC:=h3 du;have ah:=qW _ du;exact F8 db mU n (k+1) ((⟨(d,.val (.bool !bU))::s.T,s.H⟩:AS).put all[k].dst (.val undef)) (by omega) tC E V (a.put all[k].dst undef) Q
     ⟨by rw[eX];exact ah.br,ah.tok.gF (λd e=>by rw[ah.size];exact db _ fl d e) (.val undef),by rw[dR];exact ah.size⟩
     (λae e bO aR b8 c9 fF cX he hΦ=>hQ ae e bO aR b8 c9 ⟨fF.le,fF.size.trans (dR _ _ _),fF.defers.trans (put_defers _ _ _),fF.role,fF.deaf⟩ cX he hΦ)
theorem l_.mono{o:Tv}{a:Act}{N N':Act->View->Prop}{Q Q':Ex->Act->View->Prop}(hN:∀a V,N a V->N' a V)(hQ:∀ch a V,Q (.panic ch) a V->Q' (.panic ch) a V){nx:Next}{V:View}(h:l_ lv P r o a N Q nx V):l_ lv P r o a N' Q' nx V:=by
 cases nx with
 |value v=>exact hN _ _ h
 |skip=>exact hN _ _ h
 | «defer» d => exact ⟨h.1, hN _ _ h.2⟩
 |enter f args=>
  refine Body.mono (R:=fun
   |.ret v,V'=>N (a.put o.dst v) V'
   |.panic ch,V'=>Q (.panic ch) a V') (R':=fun
   |.ret v,V'=>N' (a.put o.dst v) V'
   |.panic ch,V'=>Q' (.panic ch) a V') h λot V' h=> ?_
  cases ot
  ·exact hN _ _ h
  ·exact hQ _ _ _ h
 |round l f tmps aD b=>
  refine mE.mono (R:=fun
   |.ret v,V'=>N (a.put o.dst v) V'
   |.panic ch,V'=>Q (.panic ch) a V') (R':=fun
   |.ret v,V'=>N' (a.put o.dst v) V'
   |.panic ch,V'=>Q' (.panic ch) a V') h λot V' h=> ?_
  cases ot
  ·exact hN _ _ h
  ·exact hQ _ _ _ h
 |_=>exact h.elim
theorem Ad{ops:Array Tv}{Q:Ex->Act->View->Prop}{l2:List Nat}:∀(l1:List Nat)(a:Act)(V:View),c_ lv P r ops (Ex.then (c_ lv P r ops Q l2) Q) l1 a V->c_ lv P r ops Q (l1++l2) a V
 |[],a,V,h=>h
 |i::l1,a,V,h=>by
  simp only[VA,c_]at h⊢;cases ho:ops[i]?with
  |none=>rw[ho]at h;exact Ad l1 a V h
  |some o=>
   rw[ho]at h;dsimp only at h⊢;split at h
   ·rename_i hw;rw[if_pos hw];rcases h with h|h
    rotate_left
    ·exact .inr (h.mono λa V h=>Ad l1 a V h)
    obtain⟨h1,h2⟩:=h;exact .inl ⟨h1,h2.mono (λnx V' h=>l_.mono (λa V h=>Ad l1 a V h) (λ_ _ _ h=>h) h) λ_ _ h=>h⟩
   ·rename_i hw;rw[if_neg hw];exact Ad l1 _ V h
def v_ (E:Env):List (AV×List AV)->List UV->Prop
 |[],[]=>True
 |c::ds,d::l=>xS E c d/\v_ E ds l
 |_,_=>False
theorem v_.mono{E E':Env}(h:E.Le E'):∀{ds:List (AV×List AV)}{l:List UV},v_ E ds l->v_ E' ds l
 |[],[],_=>trivial
 |_::_,_::_,k=>⟨k.1.mono h,v_.mono h k.2⟩
 |[],_::_,k=>k.elim
 |_::_,[],k=>k.elim
structure p9 (E E':Env)(V V':View)(a a':Act):Prop where
 le:E.Le E'
 size:a'.tmps.size=a.tmps.size
 role:V'.role=V.role
 deaf:V'.deaf=V.deaf
theorem p9.trans{E E' bO:Env}{V V' aR:View}{a a' b8:Act}(h:p9 E E' V V' a a')(k:p9 E' bO V' aR a' b8):p9 E bO V aR a b8:=⟨h.le.trans k.le,k.size.trans h.size,k.role.trans h.role,k.deaf.trans h.deaf⟩
theorem Kept.d{E E':Env}{V V':View}{a a':Act}(h:Kept E E' V V' a a'):p9 E E' V V' a a':=⟨h.le,h.size,h.role,h.deaf⟩
def Af (lv:Bool)(P:SJ)(nt:Nat)(c:T9)(s:AS)(ds:List (AV×List AV))(Φ:am->AS->List (AV×List AV)->Prop):Prop:=
 ∀(E:Env)(V:View)(a:Act)(Q:Ex->Act->View->Prop),At E V s a nt->v_ E ds a.defers->(∀ae e E' V' a' s' mN,p9 E E' V V' a a'->At E' V' s' a' nt->v_ E' mN a'.defers->oX E' ae e->Φ ae s' mN->Q e a' V')->WP lv P none c Q a V
def am.vZ (next:AS->List (AV×List AV)->Prop)(Φ:am->AS->List (AV×List AV)->Prop):am->AS->List (AV×List AV)->Prop
 |.normal,s,ds=>next s ds
 |e,s,ds=>Φ e s ds
theorem aeW{nt id n:Nat}{ops:Array Tv}{o:Tv}{c:Xr}{x:Tg}{ds:List (AV×List AV)}{Φ:am->AS->List (AV×List AV)->Prop}(hn:ops.size=n+1)(ho:ops[n]?=some o)(hg:o.guard=none)(au:o.op=.defer c)(aV:c.callee=.value x)
  (db:(ops.all λo=>o.dst.all (·<nt))=true)
  (h:gV lv P ops (ops.toList.take n) s (λs'=>ao (s'.ev x) λf=>ao (eT s' c.args.toList) λaD=>(∃g first cM,f=.fn (.func g) first cM)/\Φ .normal (s'.put o.dst (.val undef)) ((f,aD)::ds)) (λpv s'=>Φ (.panic pv) s' ds)):Af lv P nt (.region id ops false) s ds Φ:=by
 intro E V a Q ah hd hQ;refine wp_region ?_;have hr:SV ops.size=Ub 0 n++[n]:=by
  have:=Y9 (s:=0) (m:=n) (n:=1);rw[Vo,hn,<- this];simp
 rw[hr];have Qw:∀o∈ops,∀d,o.dst=some d->d<nt:=λo ho d e=>by
  have:=(UE.1 db) o ho;rw[e]at this;simpa using this
 refine Ad _ _ _ (F8 (r:=none) (Φ:=λe s'=>match e with
  |.normal=>ao (s'.ev x) λf=>ao (eT s' c.args.toList) λaD=>(∃g first cM,f=.fn (.func g) first cM)/\Φ .normal (s'.put o.dst (.val undef)) ((f,aD)::ds)
  |e=>Φ e s' ds) Qw rfl n 0 s (by omega) (by simpa using h) E V a _ ah λae e E' V' a' s' hk aQ he hΦ=> ?_)
 cases ae<;>cases e<;>first
  |exact he.elim
  |exact hQ _ _ E' V' a' s' ds hk.d aQ (by rw[hk.defers];exact hd.mono hk.le) he hΦ
  |skip
 obtain⟨f,h1,hA⟩:=ao.out hΦ;obtain⟨aD,h2,⟨g,first,cM,rfl⟩,hB⟩:=hA.out;simp only[Ex.then,c_,ho];rw[if_pos (by unfold Tf;rw[hg])];refine .inl ⟨.inl rfl,?_⟩;unfold execOp;rw[au];dsimp only;unfold resolve;rw[aV];dsimp only;have bw:=ap.ev aQ.tok h1;generalize cj:a'.eval x=cv at bw;cases bw with
 |fn dF fI q1 q2=>
  rename_i fa ca;unfold U1;refine az (aq (aq ?_));refine⟨rfl,?_⟩;have fl:o∈ops:=W4 ho;have e:c.args.map a'.eval=(c.args.toList.map a'.eval).toArray:=by apply Vz;simp
  refine hQ .normal .normal E' V' _ (s'.put o.dst (.val undef)) ((.fn (.func g) first cM,aD)::ds) ⟨hk.le,(dR _ _ _).trans hk.size,hk.role,hk.deaf⟩ ⟨by rw[eX];exact aQ.br,aQ.tok.gF (a:={a' with defers:=⟨.fn (.func g) ca,fa++c.args.map a'.eval⟩::a'.defers}) (λd e=>by rw[aQ.size];exact Qw o fl d e) (.val _),(dR _ _ _).trans aQ.size⟩ ?_ trivial hB;rw[put_defers];refine⟨⟨g,first,cM,fa,ca,_,rfl,rfl,⟨dF,q1⟩,⟨fI,q2⟩,?_⟩,by rw[hk.defers];exact hd.mono hk.le⟩;rw[e];exact yq aQ.tok h2
theorem NV{nt id n:Nat}{ops:Array Tv}{o:Tv}{c:Xr}{x:Tg}{ds:List (AV×List AV)}{Φ:am->AS->List (AV×List AV)->Prop}(hn:ops.size=n+1)(ho:ops[n]?=some o)(hg:o.guard=none)(bh:o.dst=none)(au:o.op=.defer c)(aV:c.callee=.value x)
  (db:(ops.all λo=>o.dst.all (·<nt))=true)
  (h:gV lv P ops (ops.toList.take n) s (λs'=>ao (s'.ev x) λf=>ao (eT s' c.args.toList) λaD=>(∃g first cM,f=.fn (.func g) first cM)/\Φ .normal s' ((f,aD)::ds)) (λpv s'=>Φ (.panic pv) s' ds)):Af lv P nt (.region id ops false) s ds Φ:=by
 refine aeW hn ho hg au aV db ?_;rw[bh];exact h
end
section
variable {lv:Bool}{P:SJ}
theorem abo{rs:List UL}{fn:YF}{n nt:Nat}{k kp:AV->List aa->Prop}{E E':Env}{V V':View}{s':AS}{a':Act}(hr:fn.results=rs.toArray)(ah:At E' V' s' a' nt)(hle:E.Le E')(hn:E.n=n)(bX:V'.role=V.role)(eK:V'.deaf=V.deaf)(hΦ:ao (gG P s' rs) λl=>cy n s'.H (iD l) k):
  ∃v,aO P V' (results fn a'.tmps) (λx aR=>x=v/\aR=V') (λ_ _=>False)/\gz E V k kp (.ret v) V':=by
 obtain⟨l,h1,h2⟩:=hΦ.out;have fW:∃v,ap E' (iD l) v/\aO P V' (results fn a'.tmps) (λx aR=>x=v/\aR=V') (λ_ _=>False):=by
  obtain⟨vs,hl,lm,xc⟩:=Gq ah rs l h1;refine⟨if h:vs.length=1 then vs[0]else .tuple vs.toArray,?_,?_⟩
  ·match l,vs,hl,lm with
   |[x],[v],_,lm=>exact lm 0 x rfl
   |[],[],_,lm=>exact .aJ rfl (by simp)
   |x::y::l,v::w::vs,hl,lm=>exact .aJ (by simpa using hl) (λi z hz=>by simpa[SI,SE]using lm i z hz)
  ·unfold results;rw[hr,XZ];refine az ?_;refine az (xc ?_);refine aq (aq ⟨?_,rfl⟩);simp
 obtain⟨v,bi,pD⟩:=fW;obtain⟨b,bO,H',q1,q2,q3,q4⟩:=wD h2 ah.br bi hle hn;exact⟨v,pD,b,bO,H',q1,bX,eK,q2,q3,q4⟩
def xY (lv:Bool)(P:SJ)(rs:List UL)(n:Nat)(k kp:AV->List aa->Prop):am->AS->List (AV×List AV)->Prop
 |.normal,s,[]|.ret,s,[]=>ao (gG P s rs) λl=>cy n s.H (iD l) k
 |.panic pv,s,[]=>cy n s.H pv kp
 |.normal,s,[c]|.ret,s,[c]=>pZ lv P c s.H none (λH'=>ao (gG P ⟨s.T,H'⟩ rs) λl=>cy n H' (iD l) k) (λ_=>False)
 |.panic pv,s,[c]=>pZ lv P c s.H (some pv) (λH'=>ao (gG P ⟨s.T,H'⟩ rs) λl=>cy n H' (iD l) k) (λH'=>cy n H' pv kp)
 |_,_,_=>False
theorem xT.mono{g:TO}{args:Array SO}{md:U5}{V:View}{R R':U5->View->Prop}(h:xT lv P g args md V R)(hr:∀m V,R m V->R' m V):xT lv P g args md V R':=λmain J C fr cs hm hR=>h main J C fr cs hm λnh V' r=>hR nh V' (hr _ _ r)
@[congr] theorem asd {nt : Nat} {c : T9} {s s' : AS} {ds mN : List (AV × List AV)} {Φ : am -> AS -> List (AV × List AV) -> Prop} (h : s = s') (hd : ds = mN) : Af lv P nt c s ds Φ = Af lv P nt c s' mN Φ := by rw [h, hd]
theorem aqD(K:AS->List (AV×List AV)->Prop)(Φ:am->AS->List (AV×List AV)->Prop)(s:AS)(ds:List (AV×List AV)):am.vZ K Φ .normal s ds=K s ds:=by rw[am.vZ]
theorem aqF(K:AS->List (AV×List AV)->Prop)(Φ:am->AS->List (AV×List AV)->Prop)(s:AS)(ds:List (AV×List AV)):am.vZ K Φ .ret s ds=Φ .ret s ds:=by rw[am.vZ];simp
theorem aqE(K:AS->List (AV×List AV)->Prop)(Φ:am->AS->List (AV×List AV)->Prop)(a:AV)(s:AS)(ds:List (AV×List AV)):am.vZ K Φ (.panic a) s ds=Φ (.panic a) s ds:=by rw[am.vZ];simp
@[congr] theorem as1 {K : AS -> List (AV × List AV) -> Prop} {Φ : am -> AS -> List (AV × List AV) -> Prop} {e e' : am} {s s' : AS} {ds mN : List (AV × List AV)} (he : e = e') (h : s = s') (hd : ds = mN) : am.vZ K Φ e s ds = am.vZ K Φ e' s' mN := by rw [he, h, hd]
@[congr] theorem ass {rs : List UL} {n : Nat} {k kp : AV -> List aa -> Prop} {e e' : am} {s s' : AS} {ds mN : List (AV × List AV)} (he : e = e') (h : s = s') (hd : ds = mN) : xY lv P rs n k kp e s ds = xY lv P rs n k kp e' s' mN := by rw [he, h, hd]
theorem aii(rs:List UL)(n:Nat)(k kp:AV->List aa->Prop)(s:AS):xY lv P rs n k kp .ret s []=ao (gG P s rs) λl=>cy n s.H (iD l) k:=by rw[xY]
theorem aih(rs:List UL)(n:Nat)(k kp:AV->List aa->Prop)(s:AS)(pv:AV):xY lv P rs n k kp (.panic pv) s []=cy n s.H pv kp:=by rw[xY]
attribute [seval] aqD aqF aqE aii aih
end
section
variable {P:SJ}
theorem acl{ι:Type}{body:ι->PUnit->Sem (ForInStep PUnit)}:∀(l:List ι),(∀i∈l,cp P (body i ⟨⟩) (.yield ⟨⟩))->cp P (forIn l ⟨⟩ body) ⟨⟩
 |[],_=>by simpa using gU PUnit.unit
 |i::l,h=>by
  rw[W2];exact kN (h i (Tw ..)) (acl l λj hj=>h j (Tb _ hj))
theorem aqp{t:TypeId}{k0 k:TV}{d:Nat}{b:Bool}{x:Int}(h:P.underlying t=some (.int k0)):cp P (Va b (d+1) t (.int k x)) ():=by
 rw[Va];exact vY h (gU _)
theorem ack{t e:TypeId}{k0 k:TV}{n d:Nat}{i:Wj}{b:Bool}{xs:List Int}(ht:P.underlying t=some (.array n e))(he:P.underlying e=some (.int k0))(hi:P.info? e=some i)(hs:i.size=1)(hx:xs.length=n):
  cp P (Va b (d+2) t (.agg (xs.map (SG k)).toArray)) ():=by
 rw[Va];refine vY ht ?_;dsimp only;simp only[Wv,Xu];refine kN (a:=⟨⟩) ?_ (gU _);refine acl _ λj hj=> ?_;have hn:(n-0+1-1)/1=n:=by simp
 have oD:j<n:=by rw[hn]at hj;simp[XX]at hj;omega
 have gx:xs[j]?=some (xs[j]'(by omega)):=SP _;refine MM hi ?_;rw[hs,Ye];refine CU he rfl (v:=.int k (xs[j]'(by omega))) (by simp[gx]) ?_;exact kN (aqp he) (gU _)
def ee (x:List Int×Nat):Wl:={key:=.agg (x.1.map (SG .i64)).toArray,val:=.bool true,born:=x.2}
def pc (x:List Int):List (List Int×Nat)->Nat->Option (Nat×SO)
 |[],_=>none
 |y::ts,i=>if x==y.1 then some (i,.bool true)else pc x ts (i+1)
theorem acn{t e:TypeId}{k0:TV}{n:Nat}{i:Wj}{x:List Int}(ht:P.underlying t=some (.array n e))(he:P.underlying e=some (.int k0))(hi:P.info? e=some i)(hs:i.size=1)(hx:x.length=n):∀(ts:List (List Int×Nat))(j:Nat),(∀y∈ts,y.1.length=n)->
  cp P (XI t (.agg (x.map (SG .i64)).toArray) (ts.map ee) j) (pc x ts j)
 |[],j,_=>by rw[List.map_nil,XI,pc];exact gU _
 |y::ts,j,h=>by
  rw[UU,XI,pc];refine kN (acm ht he hi hs hx (h y (Tw ..))) ?_;by_cases vH:(x==y.1)=true
  ·rw[if_pos vH,if_pos vH];exact gU _
  ·rw[if_neg vH,if_neg vH];exact acn ht he hi hs hx ts (j+1) λz hz=>h z (Tb _ hz)
theorem aco{t e:TypeId}{k0:TV}{n:Nat}{i:Wj}{x:List Int}(ht:P.underlying t=some (.array n e))(he:P.underlying e=some (.int k0))(hi:P.info? e=some i)(hs:i.size=1)(hx:x.length=n){ts:List (List Int×Nat)}(h:∀y∈ts,y.1.length=n):
  cp P (VM t (.agg (x.map (SG .i64)).toArray) (ts.map ee)) (pc x ts 0):=by
 unfold VM;refine vY ht ?_;cases ts with
 |nil=>exact gU _
 |cons y ts=>
  have e1:Instr.findNow (.array n e) (.agg (x.map (SG .i64)).toArray) ((y::ts).map ee) 0=none:=rfl;rw[e1];exact acn ht he hi hs hx (y::ts) 0 h
theorem Pg{x:List Int}:∀{ts:List (List Int×Nat)}{j i:Nat}{v:SO},pc x ts j=some (i,v)->∃b,j<=i/\ts[i-j]?=some (x,b)/\v=.bool true
 |y::ts,j,i,v,h=>by
  rw[pc]at h;split at h
  ·rename_i vH;cases h;obtain⟨y1,b⟩:=y;have:x=y1:=(by simpa using vH);subst this;exact⟨b,SQ _,by simp,rfl⟩
  ·obtain⟨b,h1,h2,h3⟩:=Pg h;refine⟨b,by omega,?_,h3⟩;have:i-j=(i-(j+1))+1:=(by omega);rw[this,UH];exact h2
theorem Pf{x:List Int}:∀{ts:List (List Int×Nat)}{j:Nat},pc x ts j=none->∀y∈ts,y.1≠x
 |y::ts,j,h,z,hz=>by
  rw[pc]at h;split at h
  ·cases h
  ·rename_i vH;rcases SL.1 hz with rfl|hz
   ·intro e;exact vH (by simp[e])
   ·exact Pf h z hz
end
theorem apd(xs:List Int):WA 10000 (.agg (xs.map (SG .i64)).toArray) (.agg (xs.map (SG .i64)).toArray)=true:=by
 show WA (9999+1) _ _=true;rw[WA];simp only[beq_self_eq_true,U9,Tx]
 rintro⟨a,b⟩ h
 have:a=b/\a∈xs.map (SG .i64):=by
  have key:∀l:List SO,(a,b)∈l.zip l->a=b/\a∈l:=by
   intro l;induction l with
   |nil=>intro h;cases h
   |cons x l ih=>
    intro h;rw[List.zip_cons_cons]at h;rcases SL.1 h with h|h
    ·cases h;exact⟨rfl,Tw ..⟩
    ·exact⟨(ih h).1,Tb _ (ih h).2⟩
  exact key _ h
 obtain⟨rfl,hm⟩:=this;obtain⟨x,_,rfl⟩:=Tm.1 hm;simp[WA]
theorem abf(ts:List (List Int×Nat))(ck:Nat)(x:List Int):vU (ts.map ee).toArray ck (.agg (x.map (SG .i64)).toArray) (.bool true) none=.map ((ts++[(x,ck)]).map ee).toArray (ck+1):=by
 simp[vU,ee]
theorem anV{ts:List (List Int×Nat)}{ck i b:Nat}{x:List Int}{v:SO}(h:ts[i]?=some (x,b)):vU (ts.map ee).toArray ck (.agg (x.map (SG .i64)).toArray) (.bool true) (some (i,v))=.map (ts.map ee).toArray ck:=by
 simp only[vU];congr 1;apply Array.ext_getElem?;intro j;rw[Wi];by_cases hj:i=j
 ·subst hj;rw[if_pos rfl];simp[h,ee]
 ·rw[if_neg hj]
theorem am3(xs:List Int):AV.of (.agg (xs.map (SG .i64)).toArray)=.agg (xs.map iv):=by
 simp only[AV.of,XY];congr 1
theorem N7(ts:List (List Int×Nat))(ck:Nat)(h:∀y∈ts,y.2<ck):((ts.map ee).toArray.all (λe=>decide (e.born>=ck))=false\/(ts.map ee).toArray.isEmpty=true):=by
 cases ts with
 |nil=>right;rfl
 |cons y ts=>
  left;have:=h y (Tw ..);simp[ee];omega
theorem CA{α β:Type}(f:α->β):∀{l:List α},(l.map f).Nodup->l.Nodup
 |[],_=>WM
 |x::l,h=>by
  rw[UU,VS]at h;exact VS.2 ⟨λhm=>h.1 (Tm.2 ⟨x,hm,rfl⟩),CA f h.2⟩
theorem abA{ts vs:List (List Int×Nat)}(hv:(vs.map (·.2)).Nodup)(ht:(ts.map (·.2)).Nodup)(lg:∀y∈vs,y∈ts)(eI:∀y∈ts,y.2∈vs.map (·.2)):vs.Perm ts:=by
 have xi:vs.Nodup:=CA _ hv;have lP:ts.Nodup:=CA _ ht;refine(List.perm_ext_iff_of_nodup xi lP).2 λy=>⟨lg y,λhy=> ?_⟩;obtain⟨z,hz,e⟩:=Tm.1 (eI y hy);have KU:=lg z hz;have:∀(l:List (List Int×Nat)),(l.map (·.2)).Nodup->z∈l->y∈l->z=y:=by
  intro l;induction l with
  |nil=>intro _ h;cases h
  |cons x l ih=>
   intro hn h1 h2;rw[UU,VS]at hn;rcases SL.1 h1 with e1|IY
   ·rcases SL.1 h2 with e2|wM
    ·rw[e1,e2]
    ·exact absurd (show x.2∈l.map (·.2)from Tm.2 ⟨y,wM,by rw[<- e1];exact e.symm⟩) hn.1
   ·rcases SL.1 h2 with e2|wM
    ·exact absurd (show x.2∈l.map (·.2)from Tm.2 ⟨z,IY,by rw[<- e2];exact e⟩) hn.1
    ·exact ih hn.2 IY wM
 rw[<- this ts ht KU hy];exact hz
theorem Pj{y:List Int×Nat}:∀{ts:List (List Int×Nat)},(ts.map (·.2)).Nodup->y∈ts->(ts.map ee).toArray.find? (λe=>e.born==y.2)=some (ee y):=by
 intro ts hn hy;rw[List.find?_toArray];induction ts with
 |nil=>cases hy
 |cons z ts ih=>
  rw[UU,VS]at hn;rw[UU];by_cases h:z.2=y.2
  ·rw[List.find?_cons_of_pos (by simp[ee,h])];rcases SL.1 hy with e|oN
   ·rw[e]
   ·exact absurd (show z.2∈ts.map (·.2)from Tm.2 ⟨y,oN,h.symm⟩) hn.1
  ·rw[List.find?_cons_of_neg (by simp[ee,h])];rcases SL.1 hy with e|oN
   ·exact absurd (by rw[e]) h
   ·exact ih hn.2 oN
theorem aaR(y:List Int×Nat):AV.of (ee y).key=.agg (y.1.map iv):=am3 y.1
section
variable {lv:Bool}{P:SJ}
theorem api{l:Nat}{r:aq_}{V:View}(ho:V.own l=some (.loop r))(hs:r.state=.ready)(hc:V.role.chan≠some l):aO P V (do XJ l;pure Next.skip) (λnx V'=>nx=.skip/\V'=V.upd l (.loop {r with state:=.busy})) (λ_ _=>False):=by
 unfold XJ WJ;refine az (az (az ?_));unfold getObj;refine nm ho rfl rfl hc (cD ?_);dsimp only;refine aq ?_;refine az ?_;unfold setObj;refine xL ho rfl rfl hc (cD ?_);rw[hs];exact aq (aq ⟨rfl,rfl⟩)
theorem apm{l:Nat}{r:aq_}{V:View}(oO:Option T9)(ho:V.own l=some (.loop r))(hc:V.role.chan≠some l):aO P V (W6 l oO) (λv V'=>v=.bool oO.isNone/\V'=V.upd l (.loop {r with state:=if oO.isNone then .ready else .done,pending:=oO})) (λ_ _=>False):=by
 unfold W6 WJ;refine az (az ?_);unfold getObj;refine nm ho rfl rfl hc (cD ?_);dsimp only;refine aq ?_;refine az ?_;unfold setObj;refine xL ho rfl rfl hc (cD ?_);exact aq ⟨rfl,rfl⟩
theorem apl{l:Nat}{r:aq_}{V:View}(ho:V.own l=some (.loop r))(hs:r.state≠ .busy)(hc:V.role.chan≠some l):aO P V (ZM l) (λv V'=>v=r.pending/\V'=V.upd l (.loop {r with state:=.exhausted})) (λ_ _=>False):=by
 unfold ZM WJ;refine az (az ?_);unfold getObj;refine nm ho rfl rfl hc (cD ?_);dsimp only;refine aq ?_;have:(r.state==ap')=false:=by simpa using hs
 rw[if_neg (by rw[this];simp)];refine az ?_;unfold setObj;refine xL ho rfl rfl hc (cD ?_);exact aq ⟨rfl,rfl⟩
theorem apn{fn:TO}{tmps:Array SO}{ps:Array Tmp}{bI body:T9}{V:View}:aO P V (WY fn tmps ps bI body none) (λx V1=>∃d l,V.fresh d/\(V.upd d (.deferred (some []))).fresh l/\x=(l,[{target:=.collected d,args:=#[]}])/\
  V1=(V.upd d (.deferred (some []))).upd l (.loop {state:=.ready,pending:=none,fn,tmps,params:=ps,assign:=bI,body,defers:=d})) (λ_ _=>False):=by
 unfold WY;dsimp only;refine az ?_;unfold newObj;refine nY λd hd=>cD ?_;refine az (aq ?_);dsimp only;refine az (nY λl hl=>cD (aq ?_));exact⟨d,l,hd,hl,rfl,rfl⟩
theorem MA{d:Nat}{V:View}(ho:V.own d=some (.deferred (some [])))(hc:V.role.chan≠some d):aO P V (Y6 d) (λv V'=>v=[]/\V'=V.upd d (.deferred none)) (λ_ _=>False):=by
 unfold Y6;refine az ?_;unfold getObj;refine nm ho rfl rfl hc (cD ?_);dsimp only;refine az ?_;unfold setObj;refine xL ho rfl rfl hc (cD ?_);exact aq ⟨rfl,rfl⟩
def adg (l:Nat)(R:Out->View->Prop):Ex->Act->View->Prop
 |.normal,_,V=>∃r,V.own l=some (.loop r)/\V.role.chan≠some l/\R (.ret (.bool true)) (V.upd l (.loop {r with state:=.ready,pending:=none}))
 |.ret,_,V=>∃r,V.own l=some (.loop r)/\V.role.chan≠some l/\R (.ret (.bool false)) (V.upd l (.loop {r with state:=.done,pending:=some .ret}))
 |.exit i,_,V=>∃r,V.own l=some (.loop r)/\V.role.chan≠some l/\R (.ret (.bool false)) (V.upd l (.loop {r with state:=.done,pending:=some (.exit i)}))
 |.goto i,_,V=>∃r,V.own l=some (.loop r)/\V.role.chan≠some l/\R (.ret (.bool false)) (V.upd l (.loop {r with state:=.done,pending:=some (.goto i)}))
 |.panic ch,a,V=>a.defers=[]/\R (.panic ch) V
def ade (lv:Bool)(P:SJ)(l:Nat)(body:T9)(R:Out->View->Prop):Ex->Act->View->Prop
 |.normal,a,V=>∃r,V.own l=some (.loop r)/\V.role.chan≠some l/\r.state=.ready/\WP lv P (some l) body (adg l R) a (V.upd l (.loop {r with state:=.busy}))
 |_,_,_=>False
theorem aoY{l f:Nat}{tmps:Array SO}{bI body:T9}{V:View}{R:Out->View->Prop}(h:WP lv P (some l) bI (ade lv P l body R) {tmps,defers:=[]} V):mE lv P (W_ l f tmps bI body .normal) V R:=by
 intro main J C c cs h1 h2;let b:Ua:={(default:Ua)with fn:=f,kind:=.normal,roundOf:=some l};have akG:W_ l f tmps bI body .normal=on b {tmps,defers:=[]} [.code bI,.beginRound,.code body]:=rfl;rw[akG];have leave:∀(a:Act)(V':View)(r:aq_)(oO:Option T9)(todo:List WT),V'.own l=some (.loop r)->V'.role.chan≠some l->R (.ret (.bool oO.isNone)) (V'.upd l (.loop {r with state:=if oO.isNone then .ready else .done,pending:=oO}))->
   (∀w,stepG P main (G (on b a todo) (c::cs)) w=T1 (seen P b.fn ((W6 l oO).runT P w #[]).2) (match((W6 l oO).runT P w #[]).1 with
    |.ok v w=>doReturn P main (on b a todo) (c::cs) none v w
    | .halt _ w => .ended (.stuck "range over a function: no such loop" ((on b a todo).pos P)) w)) -> J V' (G (on b a todo) (c :: cs)) := by
  intro a V' r oO todo ho eJ hR aP;refine C.step _ _ rfl λw ff=> ?_;obtain⟨es,w',aR,k1,k2,k3⟩:=(apm (P:=P) oO ho eJ).runs ff;rcases k3 with⟨v,k3,rfl,rfl⟩|⟨_,_,hx⟩
  ·refine⟨G (c.finish (.bool oO.isNone)) cs,w',seen P b.fn es,_,?_,k1.seen P b.fn,h1 _ _ hR⟩;rw[aP w];simp[TC,k3,k2,doReturn,T1,on,b,G]
  ·exact hx.elim
 refine h main J C b [.beginRound,.code body] (c::cs) (by show Y8≠U3;decide) rfl λe a' V' q=> ?_;cases e with
 |normal=>
  obtain⟨r,ho,eJ,hs,hw⟩:=q;refine C.step _ _ rfl λw ff=> ?_;obtain⟨es,w',aR,k1,k2,k3⟩:=(api (P:=P) ho hs eJ).runs ff;rcases k3 with⟨nx,k3,rfl,rfl⟩|⟨_,_,hx⟩
  ·refine⟨G (on b a' [.code body]) (c::cs),w',seen P b.fn es,_,?_,k1.seen P b.fn,?_⟩
   ·have:stepG P main (G (on b a' [.beginRound,.code body]) (c::cs)) w=stepG.apply P true (on b a' [.beginRound,.code body]) (c::cs) none (do XJ l;pure Next.skip) w:=by
     simp[G,stepG,Ud,on,b]
    rw[this];have jA:((on b a' [.beginRound,.code body]).kind==U3)=false:=(by simp[on,b]);simp only[stepG.apply,TC,if_true,k3,k2,jA,T1];rfl
   ·refine hw main J C b [] (c::cs) (by show Y8≠U3;decide) rfl λe b8 aR q=> ?_;cases e with
    |normal=>
     obtain⟨r',aY,mT,hR⟩:=q;refine leave b8 aR r' none [] aY mT hR λw=> ?_;simp[G,stepG,Ud,on,b];rfl
    |ret=>
     obtain⟨r',aY,mT,hR⟩:=q;intro k;refine leave b8 aR r' (some .ret) _ aY mT hR λw=> ?_;simp[G,stepG,Ud,on,b];rfl
    |exit i=>
     obtain⟨r',aY,mT,hR⟩:=q;refine .inr ⟨rfl,λk2 cz=> ?_⟩;refine leave b8 aR r' (some (.exit i)) _ aY mT hR λw=> ?_;simp[G,stepG,Ud,on,b,cz];rfl
    |goto i=>
     obtain⟨r',aY,mT,hR⟩:=q;refine .inr ⟨rfl,λk2 cz=> ?_⟩;refine leave b8 aR r' (some (.goto i)) _ aY mT hR λw=> ?_;simp[G,stepG,Ud,on,b,cz];rfl
    |panic ch=>
     obtain⟨hd,hR⟩:=q;intro todo akT;refine C.idle rfl (λw=> ?_) (h2 _ _ hR);have ajf:ZT P {on b b8 todo with mode:=.panicking ch}=false:=by
      unfold ZT
      match todo,akT with
      |.call .. ::_,h=>cases h
      |[],_=>split<;>simp_all[on]
      |x::k,_=>cases x<;>(split<;>simp_all[on,aaz])
     have bw:({on b b8 todo with mode:=.panicking ch}:Ua).defers=[]:=hd;simp only[G,stepG,unwind,bw,ajf];simp
  ·exact hx.elim
 |_=>exact q.elim
def mark (a:Act)(d:Nat):Act:={a with defers:={target:=.collected d,args:=#[]}::a.defers}
def wh (l:Nat)(Q:Ex->Act->View->Prop)(a:Act):Out->View->Prop
 |.ret _,V=>∃r,V.own l=some (.loop r)/\V.role.chan≠some l/\r.state≠ .busy/\(match r.pending with
  |none=>Q .normal a (V.upd l (.loop {r with state:=.exhausted}))
  |some .ret=>Q .ret a (V.upd l (.loop {r with state:=.exhausted}))
  |some (.exit i)=>Q (.exit i) a (V.upd l (.loop {r with state:=.exhausted}))
  |some (.goto i)=>Q (.goto i) a (V.upd l (.loop {r with state:=.exhausted}))
  |_=>False)
 |.panic ch,V=>Q (.panic ch) a V
abbrev Dr (l d:Nat)(Q:Ex->Act->View->Prop)(a:Act):Out->View->Prop:=wh l Q (mark a d)
theorem abl{rr:Option Nat}{f:Tg}{ps:Array Tmp}{bI body:T9}{Q:Ex->Act->View->Prop}{a a1:Act}{V1:View}{l:Nat}{main:Bool}{J:View->SH->Prop}(C:Closed lv P main J){b:Ua}{k:List WT}{cs:List Ua}(hb:b.kind≠ .early)(hr:b.roundOf=rr)(hL:∀e a' V',Q e a' V'->uG J b k cs e a' V'){w w1:Tp}{es:Array Uq}{V:View}
  (h:aO P V1 (do let dd<- U1 (a.eval f) #[.func (.yield l) #[] #[]];invoke dd.target dd.args) (λnx V'=>Nx lv P (wh l Q a1) nx V') (λv V'=>wh l Q a1 (.panic [{v,recovered:=false}]) V'))
  (s1:cV V w V1 w1 (ft es)) (aP:stepG P main (G (on b a (.code (.rangeFunc f ps bI body)::k)) cs) w=T1 (seen P b.fn es) (stepG.apply P true (on b a1 (.inRangeFunc l::k)) cs none (do let dd<- U1 (a.eval f) #[.func (.yield l) #[] #[]];invoke dd.target dd.args) w1)):
  ∃g' w' es V',stepG P main (G (on b a (.code (.rangeFunc f ps bI body)::k)) cs) w=.go g' w' es/\cV V w V' w' es/\J V' g':=by
 have fin:∀(v:SO)(V':View),wh l Q a1 (.ret v) V'->J V' (G (on b a1 (.endRangeFunc l::k)) cs):=by
  intro v V' ⟨r,ho,eJ,hs,hq⟩;refine C.step _ _ rfl λw ff=> ?_;obtain⟨es,w',aR,k1,k2,k3⟩:=(apl (P:=P) ho hs eJ).runs ff;rcases k3 with⟨x,k3,rfl,rfl⟩|⟨_,_,hx⟩
  ·refine⟨G (on b a1 ((r.pending.map Item.code).toList++k)) cs,w',seen P b.fn es,_,?_,k1.seen P b.fn,?_⟩
   ·simp[G,stepG,Ud,on,TC,k3,k2,T1]
   ·generalize r.pending=pe at hq⊢
    match pe,hq with
    |none,hq=>exact hL _ _ _ hq
    |some .ret,hq=>exact hL _ _ _ hq _
    |some (.exit i),hq=>exact Sf C (hL _ _ _ hq)
    |some (.goto i),hq=>exact ale C (hL _ _ _ hq)
  ·exact hx.elim
 obtain⟨mO,w2,V2,t1,t2,t3⟩:=h.runs s1.sat;have jA:((on b a1 (.inRangeFunc l::k)).kind==U3)=false:=by simpa[on]using hb
 rw[aP];rcases t3 with⟨nx,t3,hU⟩|⟨v,t3,hU⟩
 ·cases nx with
  |value v=>exact⟨_,w2,seen P b.fn es++seen P b.fn mO,V2,by simp only[stepG.apply,TC,if_true,t3,t2,jA,T1];rfl,(s1.seen P _).trans (t1.seen P _),fin v _ hU⟩
  |skip=>exact⟨_,w2,seen P b.fn es++seen P b.fn mO,V2,by simp only[stepG.apply,TC,if_true,t3,t2,jA,T1];rfl,(s1.seen P _).trans (t1.seen P _),fin undef _ hU⟩
  |enter g args=>
   refine⟨G (Frame.enter P g args .normal) (on b a1 (.inRangeFunc l::k)::cs),w2,seen P b.fn es++seen P b.fn mO,V2,by simp only[stepG.apply,TC,if_true,t3,t2,jA,T1];rfl,(s1.seen P _).trans (t1.seen P _),?_⟩;refine Body.runs hU main J C _ cs (λv aR hR=> ?_) (λch aR hR=> ?_)
   ·exact fin v _ hR
   ·exact hL _ _ _ hR _ rfl
  |round l2 f2 aqR as2 b2=>
   refine⟨G (W_ l2 f2 aqR as2 b2 .normal) (on b a1 (.inRangeFunc l::k)::cs),w2,seen P b.fn es++seen P b.fn mO,V2,by simp only[stepG.apply,TC,if_true,t3,t2,jA,T1];rfl,(s1.seen P _).trans (t1.seen P _),?_⟩;refine hU main J C _ cs (λv aR hR=> ?_) (λch aR hR=> ?_)
   ·exact fin v _ hR
   ·exact hL _ _ _ hR _ rfl
  |_=>exact hU.elim
 ·exact⟨_,w2,seen P b.fn es++seen P b.fn mO,V2,by simp only[stepG.apply,TC,if_true,t3,t2,jA,T1];rfl,(s1.seen P _).trans (t1.seen P _),hL _ _ _ hU _ rfl⟩
theorem acY{f:Tg}{ps:Array Tmp}{bI body:T9}{Q:Ex->Act->View->Prop}{a:Act}{V:View}
  (h:∀(fn d l:Nat),V.fresh d->(V.upd d (.deferred (some []))).fresh l->aO P ((V.upd d (.deferred (some []))).upd l (.loop {state:=.ready,pending:=none,fn,tmps:=a.tmps,params:=ps,assign:=bI,body,defers:=d}))
   (do let dd<- U1 (a.eval f) #[.func (.yield l) #[] #[]];invoke dd.target dd.args) (λnx V'=>Nx lv P (Dr l d Q a) nx V') (λv V'=>Dr l d Q a (.panic [{v,recovered:=false}]) V')):WP lv P none (.rangeFunc f ps bI body) Q a V:=by
 intro main J C b k cs hb hr hL;refine C.step _ _ rfl λw ff=> ?_;obtain⟨es,w1,V1,s1,s2,s3⟩:=(apn (P:=P) (fn:=b.fn) (tmps:=a.tmps) (ps:=ps) (bI:=bI) (body:=body)).runs ff;rcases s3 with⟨x,s3,d,l,hd,hl,rfl,rfl⟩|⟨_,_,hx⟩
 ·refine abl C hb hr hL (h b.fn d l hd hl) s1 ?_;have cj:∀(todo:List WT)(x:Tg),(on b (mark a d) todo).eval x=a.eval x:=λtodo x=>by rw[F7];cases x<;>rfl
  have e:=cj (.inRangeFunc l::k) f;have e2:=cj (.inRangeFunc l::k) (.const (.func (.yield l) #[] #[]));simp only[on,mark]at e e2;simp[G,stepG,Ud,on,TC,s3,s2,hr,mark,resolve];rw[hr]at e;rw[e];rfl
 ·exact hx.elim
theorem apo{fn:TO}{tmps:Array SO}{ps:Array Tmp}{bI body:T9}{V:View}{l0:Nat}{r0:aq_}(ho:V.own l0=some (.loop r0))(hc:V.role.chan≠some l0):aO P V (WY fn tmps ps bI body (some l0)) (λx V1=>∃l,V.fresh l/\x=(l,[])/\
  V1=V.upd l (.loop {state:=.ready,pending:=none,fn,tmps,params:=ps,assign:=bI,body,defers:=r0.defers})) (λ_ _=>False):=by
 unfold WY WJ;dsimp only;refine az (az ?_);unfold getObj;refine nm ho rfl rfl hc (cD ?_);dsimp only;refine aq (az (aq ?_));dsimp only;refine az ?_;unfold newObj;refine nY λl hl=>cD (aq ?_);exact⟨l,hl,rfl,rfl⟩
theorem arv{f:Tg}{ps:Array Tmp}{bI body:T9}{Q:Ex->Act->View->Prop}{a:Act}{V:View}{l0:Nat}{r0:aq_}(ho:V.own l0=some (.loop r0))(hc:V.role.chan≠some l0)
  (h:∀(fn l:Nat),V.fresh l->aO P (V.upd l (.loop {state:=.ready,pending:=none,fn,tmps:=a.tmps,params:=ps,assign:=bI,body,defers:=r0.defers}))
   (do let dd<- U1 (a.eval f) #[.func (.yield l) #[] #[]];invoke dd.target dd.args) (λnx V'=>Nx lv P (wh l Q a) nx V') (λv V'=>wh l Q a (.panic [{v,recovered:=false}]) V')):WP lv P (some l0) (.rangeFunc f ps bI body) Q a V:=by
 intro main J C b k cs hb hr hL;refine C.step _ _ rfl λw ff=> ?_;obtain⟨es,w1,V1,s1,s2,s3⟩:=(apo (P:=P) (fn:=b.fn) (tmps:=a.tmps) (ps:=ps) (bI:=bI) (body:=body) ho hc).runs ff;rcases s3 with⟨x,s3,l,hl,rfl,rfl⟩|⟨_,_,hx⟩
 ·refine abl C hb hr hL (h b.fn l hl) s1 ?_;have e:=F7 b a (.inRangeFunc l::k) f;simp only[on]at e;simp[G,stepG,Ud,on,TC,s3,s2,hr,resolve];rw[hr]at e;rw[e];rfl
 ·exact hx.elim
theorem Conc.xN{E:Env}{V:View}{H:List aa}(hc:Conc E V H){id r fn nt df:Nat}{st:Z9}{pe:Option T9}{T:List (Nat×AV)}{ps:Array Tmp}{bI body:T9}(hk:H[id]?=some (.loop r st pe fn T nt ps bI body df)):
  E.blk id=r/\V.role.chan≠some r/\∃tmps,V.own r=some (.loop {state:=st,pending:=pe,fn,tmps,params:=ps,assign:=bI,body,defers:=E.blk df})/\tmps.size=nt/\bZ E T tmps/\
   ∀st' vT,Conc E (V.upd r (.loop {state:=st',pending:=vT,fn,tmps,params:=ps,assign:=bI,body,defers:=E.blk df})) (H.set id (.loop r st' vT fn T nt ps bI body df)):=by
 obtain⟨⟨tmps,p1,p2,p3⟩,p4,p5,p6⟩:=hc.obj id _ hk;have eJ:=(hc.iS hk (b:=E.blk id) rfl).2;subst p6;refine⟨rfl,eJ,tmps,p1,p2,p3,λst' vT=> ?_⟩;refine hc.iF id (.loop (E.blk id) st' vT fn T nt ps bI body df) (Env.Le.refl E) hc.I (by simpa using hc.n) lq rfl (λ_ _ _=>rfl) (λb z hb hz=>⟨?_,λ_=>rfl⟩) ⟨⟨tmps,by simp[View.upd],p2,p3⟩,p4,p5,rfl⟩ (λb h=> .inl ⟨_,hk,h⟩);have:b≠E.blk id:=λe=>hb _ hk (by rw[e];rfl);simpa[View.upd,this]using hz
theorem Conc.CO{E:Env}{V:View}{H:List aa}(hc:Conc E V H){id:Nat}(x:aa)(hk:H[id]?=some x)(y:Obj){b:Nat}(hb:bJ E id x=some b):Conc E (V.upd b y) (H.set id .gone):=by
 refine hc.iF id .gone (Env.Le.refl E) hc.I (by simpa using hc.n) lq rfl (λ_ _ _=>rfl) (λb' z du hz=>⟨?_,λ_=>rfl⟩) trivial (λb h=>by cases h);have:b'≠b:=λe=>du _ hk (by rw[e];exact hb);simpa[View.upd,this]using hz
def rz:List Nat->List AV->List (Nat×AV)->List (Nat×AV)
 |t::ts,a::aD,T=>rz ts aD ((t,a)::T)
 |_,_,T=>T
theorem ac3{E:Env}{nt:Nat}:∀(ts:List Nat)(aD:List AV)(vs:List SO)(T:List (Nat×AV))(tmps:Array SO),vs.length=aD.length->(∀(i:Nat) a,aD[i]?=some a->ap E a (vs.getD i undef))->(∀t∈ts,t<nt)->tmps.size=nt->bZ E T tmps->
  bZ E (rz ts aD T) ((ts.zip vs).foldl (λtmps (x:Nat×SO)=>tmps.setIfInBounds x.1 x.2) tmps)/\((ts.zip vs).foldl (λtmps (x:Nat×SO)=>tmps.setIfInBounds x.1 x.2) tmps).size=nt
 |[],aD,vs,T,tmps,_,_,_,hs,hT=>by cases aD<;>cases vs<;>exact⟨hT,hs⟩
 |t::ts,[],[],T,tmps,_,_,_,hs,hT=>⟨hT,hs⟩
 |t::ts,[],_::_,T,tmps,h,_,_,hs,hT=>by cases h
 |t::ts,_::_,[],T,tmps,h,_,_,hs,hT=>by cases h
 |t::ts,a::aD,v::vs,T,tmps,hl,hd,ht,hs,hT=>by
  have h0:ap E a v:=by simpa using hd 0 a rfl
  have h1:t<tmps.size:=by rw[hs];exact ht t (by simp)
  exact ac3 ts aD vs ((t,a)::T) (tmps.setIfInBounds t v) (by simpa using hl) (λi x hx=>by simpa using hd (i+1) x (by simpa using hx)) (λx hx=>ht x (by simp[hx])) (by simpa using hs) (hT.put h1 h0)
def og (id n:Nat)(k:AV->List aa->Prop)(st':Z9)(vT:Option T9)(b:Bool)(s:AS):Prop:=∃r st pe fn T nt ps bI body df,s.H[id]?=some (.loop r st pe fn T nt ps bI body df)/\cy n (s.H.set id (.loop r st' vT fn T nt ps bI body df)) (.val (.bool b)) k
def adf (id n:Nat)(k kp:AV->List aa->Prop):am->AS->Prop
 |.normal,s=>og id n k .ready none true s
 |.ret,s=>og id n k .done (some .ret) false s
 |.exit i,s=>og id n k .done (some (.exit i)) false s
 |.goto i,s=>og id n k .done (some (.goto i)) false s
 |.panic pv,s=>cy n s.H pv kp
def sZ (lv:Bool)(P:SJ)(l nt id n:Nat)(body:T9)(k kp:AV->List aa->Prop):am->AS->Prop
 |.normal,s=>∃pe fn T iT ps bI eZ df,s.H[id]?=some (.loop l .ready pe fn T iT ps bI eZ df)/\aU lv P (some l) nt body ⟨s.T,s.H.set id (.loop l .busy pe fn T iT ps bI eZ df)⟩ (adf id n k kp)
 |_,_=>False
theorem uV{l id fn nt df:Nat}{pe:Option T9}{T:List (Nat×AV)}{ps:Array Tmp}{bI body:T9}{H:List aa}{args:List AV}{k kp:AV->List aa->Prop}(bY:H[id]?=some (.loop l .ready pe fn T nt ps bI body df))(hlen:args.length=ps.size)(qJ:ps.all (·<nt)=true)
  (h:bM H->(∀a∈args,Lt H.length a)->aU lv P (some l) nt bI ⟨rz ps.toList args T,H⟩ (sZ lv P l nt id H.length body k kp)):iG lv P (.fn (.yield l) [] []) H args k kp:=by
 intro E V cv vs hc hd oB;cases hd with
 |fn dF fI h1 h2=>
  rename_i fa ca;have e1:fa=#[]:=by apply Vz;simpa using dF
  subst e1;have hlt:∀a∈args,Lt H.length a:=λa ha=>by
   obtain⟨i,hi⟩:=oP ha;rw[<- hc.n];exact(oB.2 i a hi).lt
  obtain⟨hb,eJ,tmps,ho,aT,hT,_⟩:=hc.xN bY;unfold U1;refine az (aq ?_);unfold invoke;dsimp only;unfold Instr.yield WJ;refine az (az ?_);unfold getObj;refine nm ho rfl rfl eJ (cD ?_);dsimp only;refine aq ?_;have lm:(#[]++vs).size=ps.size:=by simp[oB.1,hlen]
  rw[if_neg (by simp[oB.1,hlen])];refine aq ?_;show mE lv P _ V (gz E V k kp);have hz:=ac3 (nt:=nt) ps.toList args vs.toList T tmps (by simpa using oB.1) (λi a e=>by
   have:=oB.2 i a e;simpa[SI,SE]using this) (λt ht=>by
    have:=(UE.1 qJ) t (by simpa using ht);simpa using this) aT hT
  have ags:(ps.zip (#[]++vs)).foldl (λtmps (x:Nat×SO)=>tmps.setIfInBounds x.1 x.2) tmps=(ps.toList.zip vs.toList).foldl (λtmps (x:Nat×SO)=>tmps.setIfInBounds x.1 x.2) tmps:=by
   rw[<- Array.foldl_toList,Array.toList_zip];simp
  have agt:Array.foldl (λtmps x=>match x with|(t,a)=>tmps.setIfInBounds t a) tmps (ps.zip (#[]++vs))=(ps.toList.zip vs.toList).foldl (λtmps (x:Nat×SO)=>tmps.setIfInBounds x.1 x.2) tmps:=ags;rw[agt];refine aoY ?_;refine h hc.ay hlt E V _ _ ⟨hc,hz.1,hz.2⟩ λae e E' V' a' s' hk aQ he hΦ=> ?_;cases ae<;>cases e<;>first
   |exact he.elim
   |exact hΦ.elim
   |skip
  obtain⟨vT,fi,T',iT,fY,fM,eZ,fN,ajM,hw⟩:=hΦ;obtain⟨du,mT,pU,aY,KC,r6,zg⟩:=aQ.br.xN ajM;refine⟨_,aY,mT,rfl,?_⟩;refine hw E' _ a' _ ⟨zg .busy vT,aQ.tok,aQ.size⟩ λae e bO aR b8 c9 cz cX BG FA=> ?_;have fin:∀(st':Z9)(Gi:Option T9)(b:Bool),(∃r st pe fn T nt ps bI body df,c9.H[id]?=some (.loop r st pe fn T nt ps bI body df)/\cy H.length (c9.H.set id (.loop r st' Gi fn T nt ps bI body df)) (.val (.bool b)) k)->
    ∃r,aR.own l=some (.loop r)/\aR.role.chan≠some l/\gz E V k kp (.ret (.bool b)) (aR.upd l (.loop {r with state:=st',pending:=Gi})):=by
   intro st' Gi b ⟨r,st,pe3,fn3,T3,nt3,Ml,ar9,asj,df3,ajN,vt⟩;obtain⟨Eu,ajj,as7,Kd,asO,hT3,akK⟩:=cX.br.xN ajN;have hlt:id<E.n:=(by rw[hc.n];exact(SN.1 bY).1);have hle:E.Le bO:=hk.le.trans cz.le;have hr:r=l:=(by rw[<- Eu,<- hb];exact hle.blk id hlt);subst hr;obtain⟨x,E4,H4,q1,q2,q3,q4⟩:=wD vt (akK st' Gi) (.val _) hle hc.n;exact⟨_,Kd,ajj,x,E4,H4,q1,cz.role.trans hk.role,cz.deaf.trans hk.deaf,q2,q3,q4⟩
  cases ae<;>cases e<;>first
   |exact BG.elim
   |exact fin .ready none true FA
   |exact fin .done (some .ret) false FA
   |(have e:_=_:=BG
     subst e;exact fin .done _ false FA)
   |skip
  obtain⟨v,aji,bi⟩:=BG;subst aji;obtain⟨x,E4,H4,q1,q2,q3,q4⟩:=wD FA cX.br bi (hk.le.trans cz.le) hc.n;refine⟨by rw[cz.defers,hk.defers],x,v,E4,H4,rfl,q1,cz.role.trans hk.role,cz.deaf.trans hk.deaf,q2,q3,q4⟩
def Marks (E:Env)(ms:List Nat)(l:List UV):Prop:=l=ms.map (λi=>({target:=.collected (E.blk i),args:=#[]}:UV))/\∀i∈ms,i<E.n
theorem Marks.mono{E E':Env}(h:E.Le E'){ms:List Nat}{l:List UV}(k:Marks E ms l):Marks E' ms l:=
 ⟨by rw[k.1];exact Vx λi hi=>by rw[h.blk i (k.2 i hi)],λi hi=>Tc (k.2 i hi) h.n⟩
def l6 (lv:Bool)(P:SJ)(nt:Nat)(c:T9)(s:AS)(ms:List Nat)(Φ:am->AS->List Nat->Prop):Prop:=
 ∀(E:Env)(V:View)(a:Act)(Q:Ex->Act->View->Prop),At E V s a nt->Marks E ms a.defers->(∀ae e E' V' a' s' cw,p9 E E' V V' a a'->At E' V' s' a' nt->Marks E' cw a'.defers->oX E' ae e->Φ ae s' cw->Q e a' V')->WP lv P none c Q a V
variable {s:AS}{ms:List Nat}{nt:Nat}
theorem HI{c:T9}{Φ:am->AS->List Nat->Prop}(h:aU lv P none nt c s λe s'=>Φ e s' ms):l6 lv P nt c s ms Φ:=λE V a Q ah hd hQ=>
 h E V a Q ah λae e E' V' a' s' hk aQ he hΦ=>hQ ae e E' V' a' s' ms hk.d aQ (by rw[hk.defers];exact hd.mono hk.le) he hΦ
def am.rn (next:AS->List Nat->Prop)(Φ:am->AS->List Nat->Prop):am->AS->List Nat->Prop
 |.normal,s,ms=>next s ms
 |e,s,ms=>Φ e s ms
theorem HJ{x y:T9}{Φ:am->AS->List Nat->Prop}(h:l6 lv P nt x s ms (am.rn (λs' cw=>l6 lv P nt y s' cw Φ) Φ)):l6 lv P nt (.seq x y) s ms Φ:=by
 intro E V a Q ah hd hQ;refine wp_seq (h E V a _ ah hd λae e E' V' a' s' cw hk aQ cr he hΦ=> ?_);cases ae<;>cases e<;>first
  |exact he.elim
  |exact hΦ E' V' a' Q aQ cr λae e bO aR b8 c9 Cx aI cX yQ jN sD=>hQ ae e bO aR b8 c9 Cx (hk.trans aI) cX yQ jN sD
  |exact hQ _ _ E' V' a' s' cw hk aQ cr he hΦ
theorem mJ{x y:T9}{Φ:am->AS->List Nat->Prop}(h:aU lv P none nt x s (am.then (λs'=>l6 lv P nt y s' ms Φ) λe s'=>Φ e s' ms)):l6 lv P nt (.seq x y) s ms Φ:=by
 refine HJ (HI (h.mono λe s' hs=> ?_));cases e<;>exact hs
def rH (Φ:am->AS->List Nat->Prop)(s:AS)(ms:List Nat):Option T9->Prop
 |none=>Φ .normal s ms
 |some .ret=>Φ .ret s ms
 |some (.exit i)=>Φ (.exit i) s ms
 |some (.goto i)=>Φ (.goto i) s ms
 |_=>False
theorem aeY{f:Tg}{ps:Array Tmp}{bI body:T9}{fv:AV}{Φ:am->AS->List Nat->Prop}(hf:s.ev f=some fv)
  (h:∀l fn:Nat,iG lv P fv (s.H++[.obj (.deferred (some [])),.loop l .ready none fn s.T nt ps bI body s.H.length]) [.fn (.yield l) [] []]
   (λ_ H'=>∃st pe fi T' iT fY fM eZ fN,H'[s.H.length+1]?=some (.loop l st pe fi T' iT fY fM eZ fN)/\st≠ .busy/\rH Φ ⟨s.T,H'.set (s.H.length+1) .gone⟩ (s.H.length::ms) pe)
   (λpv H'=>Φ (.panic pv) ⟨s.T,H'⟩ (s.H.length::ms))):l6 lv P nt (.rangeFunc f ps bI body) s ms Φ:=by
 intro E V a Q ah hm hQ;refine acY λfn d l hd hl=> ?_;have hc:=ah.br;have da:Conc (E.add d V.ab) (V.upd d (.deferred (some []))) (s.H++[.obj (.deferred (some []))]):=by
  refine hc.add hd _ ⟨?_,rfl,rfl,λo=> ?_⟩ (λb e=> ?_)
  ·rw[Env.dB];simp[View.upd]
  ·rw[Env.dB];exact hd.2 o
  ·simp only[bJ,Env.dB,Tl]at e;exact e.symm
 have BO:E.Le (E.add d V.ab):=E.pK d (λb o v h=>by rw[<- hc.I];exact h);have Bx:(E.add d V.ab).blk s.H.length=d:=by rw[<- hc.n];exact E.dB d _
 let E1:=E.add d V.ab;let V1:=V.upd d (.deferred (some []));have oG:E1.n=s.H.length+1:=by rw[da.n];simp
 have pw:E1.Le (E1.add l V1.ab):=E1.pK l (λb o v h=>by rw[<- da.I];exact h);have cN:Conc (E1.add l V1.ab) (V1.upd l (.loop {state:=.ready,pending:=none,fn,tmps:=a.tmps,params:=ps,assign:=bI,body,defers:=d})) ((s.H++[.obj (.deferred (some []))])++[.loop l .ready none fn s.T nt ps bI body s.H.length]):=by
  refine da.add hl _ ⟨⟨a.tmps,?_,ah.size,(ah.tok.mono BO).mono pw⟩,?_,λo=> ?_,?_⟩ (λb e=> ?_)
  ·have e:(E1.add l V1.ab).blk s.H.length=d:=(by rw[pw.blk s.H.length (by rw[oG];omega)];exact Bx);rw[e,Env.dB];simp[View.upd]
  ·show s.H.length<E1.n+1;omega
  ·rw[Env.dB];exact hl.2 o
  ·exact Env.dB _ _ _
  ·simp only[bJ,Env.dB,Tl]at e;exact e.symm
 have hle:E.Le (E1.add l V1.ab):=BO.trans pw;have cJ:(E1.add l V1.ab).blk (s.H.length+1)=l:=by rw[<- oG];exact E1.dB l _
 have Jk:(E1.add l V1.ab).blk s.H.length=d:=by rw[pw.blk s.H.length (by rw[oG];omega)];exact Bx
 rw[SD]at cN;have qG:∀E',(E1.add l V1.ab).Le E'->Marks E' (s.H.length::ms) (mark a d).defers:=λE' hE=>by
  refine Marks.mono hE ⟨?_,λi hi=> ?_⟩
  ·have:=(hm.mono hle).1;simp only[mark,UU,Jk];rw[<- this]
  ·rcases SL.1 hi with rfl|hi
   ·show _<E1.n+1;omega
   ·exact Tc (hm.2 i hi) hle.n
 have bw:=ap.ev ah.tok hf;have Bz:=h l fn (E1.add l V1.ab) (V1.upd l (.loop {state:=.ready,pending:=none,fn,tmps:=a.tmps,params:=ps,assign:=bI,body,defers:=d})) (a.eval f) #[.func (.yield l) #[] #[]] cN (bw.mono hle) ⟨rfl,λi x hx=>by
  match i,hx with
  |0,hx=>cases hx;exact .fn rfl rfl (by simp) (by simp)⟩
 have key:∀o V',gz (E1.add l V1.ab) (V1.upd l (.loop {state:=.ready,pending:=none,fn,tmps:=a.tmps,params:=ps,assign:=bI,body,defers:=d}))
   (λ_ H'=>∃st pe fi T' iT fY fM eZ fN,H'[s.H.length+1]?=some (.loop l st pe fi T' iT fY fM eZ fN)/\st≠ .busy/\rH Φ ⟨s.T,H'.set (s.H.length+1) .gone⟩ (s.H.length::ms) pe)
   (λpv H'=>Φ (.panic pv) ⟨s.T,H'⟩ (s.H.length::ms)) o V'->Dr l d Q a o V':=by
  intro o V' hr;cases o with
  |ret v=>
   obtain⟨av,E',H',hE,bX,eK,_,bf,st,pe,fi,T',iT,fY,fM,eZ,fN,bY,aP,hp⟩:=hr;obtain⟨du,mT,pU,aY,KC,r6,zg⟩:=bf.xN bY;refine⟨_,aY,mT,aP,?_⟩;have hg:Conc E' (V'.upd l (.loop {state:=.exhausted,pending:=pe,fn:=fi,tmps:=pU,params:=fY,assign:=fM,body:=eZ,defers:=E'.blk fN})) (H'.set (s.H.length+1) .gone):=bf.CO _ bY _ (by simp only[bJ,du]);have aQ:At E' (V'.upd l (.loop {state:=.exhausted,pending:=pe,fn:=fi,tmps:=pU,params:=fY,assign:=fM,body:=eZ,defers:=E'.blk fN})) ⟨s.T,H'.set (s.H.length+1) .gone⟩ (mark a d) nt:=⟨hg,ah.tok.mono (hle.trans hE),ah.size⟩;have ec:p9 E E' V (V'.upd l (.loop {state:=.exhausted,pending:=pe,fn:=fi,tmps:=pU,params:=fY,assign:=fM,body:=eZ,defers:=E'.blk fN})) a (mark a d):=⟨hle.trans hE,rfl,bX,eK⟩;dsimp only
   match pe,hp,aQ,ec with
   |none,hp,aQ,ec=>exact hQ .normal .normal E' _ _ _ _ ec aQ (qG E' hE) trivial hp
   |some .ret,hp,aQ,ec=>exact hQ .ret .ret E' _ _ _ _ ec aQ (qG E' hE) trivial hp
   |some (.exit i),hp,aQ,ec=>exact hQ (.exit i) (.exit i) E' _ _ _ _ ec aQ (qG E' hE) rfl hp
   |some (.goto i),hp,aQ,ec=>exact hQ (.goto i) (.goto i) E' _ _ _ _ ec aQ (qG E' hE) rfl hp
  |panic ch=>
   obtain⟨pv,v,E',H',rfl,hE,bX,eK,bi,bf,hp⟩:=hr;exact hQ (.panic pv) (.panic _) E' V' (mark a d) ⟨s.T,H'⟩ _ ⟨hle.trans hE,rfl,bX,eK⟩ ⟨bf,ah.tok.mono (hle.trans hE),ah.size⟩ (qG E' hE) ⟨v,rfl,bi⟩ hp
 exact Bz.mono (λnx V' hn=>Nx.mono key hn) (λv V' hr=>key _ _ hr)
def sY (Φ:am->AS->Prop)(s:AS):Option T9->Prop
 |none=>Φ .normal s
 |some .ret=>Φ .ret s
 |some (.exit i)=>Φ (.exit i) s
 |some (.goto i)=>Φ (.goto i) s
 |_=>False
theorem aeN{f:Tg}{ps:Array Tmp}{bI body:T9}{fv:AV}{Φ:am->AS->Prop}{l0 FC IR LM df:Nat}{MG:Z9}{L1:Option T9}{T0:List (Nat×AV)}{Mk:Array Tmp}{HC HP:T9}(hf:s.ev f=some fv)(h0:s.H[FC]?=some (.loop l0 MG L1 IR T0 LM Mk HC HP df))
  (h:∀l fn:Nat,iG lv P fv (s.H++[.loop l .ready none fn s.T nt ps bI body df]) [.fn (.yield l) [] []]
   (λ_ H'=>∃st pe fi T' iT fY fM eZ fN,H'[s.H.length]?=some (.loop l st pe fi T' iT fY fM eZ fN)/\st≠ .busy/\sY Φ ⟨s.T,H'.set s.H.length .gone⟩ pe)
   (λpv H'=>Φ (.panic pv) ⟨s.T,H'⟩)):aU lv P (some l0) nt (.rangeFunc f ps bI body) s Φ:=by
 intro E V a Q ah hQ;have hc:=ah.br;obtain⟨sd,ajh,as5,ho0,KD,hT0,_⟩:=hc.xN h0;obtain⟨_,bw,_⟩:=hc.obj FC _ h0;refine arv ho0 ajh λfn l hl=> ?_;have hle:E.Le (E.add l V.ab):=E.pK l (λb o v h=>by rw[<- hc.I];exact h);have cJ:(E.add l V.ab).blk s.H.length=l:=by rw[<- hc.n];exact E.dB l _
 have cN:Conc (E.add l V.ab) (V.upd l (.loop {state:=.ready,pending:=none,fn,tmps:=a.tmps,params:=ps,assign:=bI,body,defers:=E.blk df})) (s.H++[.loop l .ready none fn s.T nt ps bI body df]):=by
  refine hc.add hl _ ⟨⟨a.tmps,?_,ah.size,ah.tok.mono hle⟩,?_,λo=> ?_,?_⟩ (λb e=> ?_)
  ·rw[Env.dB,hle.blk df bw];simp[View.upd]
  ·show df<E.n+1;omega
  ·rw[Env.dB];exact hl.2 o
  ·exact Env.dB _ _ _
  ·simp only[bJ,Env.dB,Tl]at e;exact e.symm
 have ajA:=ap.ev ah.tok hf;have Bz:=h l fn (E.add l V.ab) (V.upd l (.loop {state:=.ready,pending:=none,fn,tmps:=a.tmps,params:=ps,assign:=bI,body,defers:=E.blk df})) (a.eval f) #[.func (.yield l) #[] #[]] cN (ajA.mono hle) ⟨rfl,λi x hx=>by
  match i,hx with
  |0,hx=>cases hx;exact .fn rfl rfl (by simp) (by simp)⟩
 have key:∀o V',gz (E.add l V.ab) (V.upd l (.loop {state:=.ready,pending:=none,fn,tmps:=a.tmps,params:=ps,assign:=bI,body,defers:=E.blk df}))
   (λ_ H'=>∃st pe fi T' iT fY fM eZ fN,H'[s.H.length]?=some (.loop l st pe fi T' iT fY fM eZ fN)/\st≠ .busy/\sY Φ ⟨s.T,H'.set s.H.length .gone⟩ pe)
   (λpv H'=>Φ (.panic pv) ⟨s.T,H'⟩) o V'->wh l Q a o V':=by
  intro o V' hr;cases o with
  |ret v=>
   obtain⟨av,E',H',hE,bX,eK,_,bf,st,pe,fi,T',iT,fY,fM,eZ,fN,bY,aP,hp⟩:=hr;obtain⟨du,mT,pU,aY,KC,r6,zg⟩:=bf.xN bY;refine⟨_,aY,mT,aP,?_⟩;have hg:Conc E' (V'.upd l (.loop {state:=.exhausted,pending:=pe,fn:=fi,tmps:=pU,params:=fY,assign:=fM,body:=eZ,defers:=E'.blk fN})) (H'.set s.H.length .gone):=bf.CO _ bY _ (by simp only[bJ,du]);have aQ:At E' (V'.upd l (.loop {state:=.exhausted,pending:=pe,fn:=fi,tmps:=pU,params:=fY,assign:=fM,body:=eZ,defers:=E'.blk fN})) ⟨s.T,H'.set s.H.length .gone⟩ a nt:=⟨hg,ah.tok.mono (hle.trans hE),ah.size⟩;have ec:Kept E E' V (V'.upd l (.loop {state:=.exhausted,pending:=pe,fn:=fi,tmps:=pU,params:=fY,assign:=fM,body:=eZ,defers:=E'.blk fN})) a a:=⟨hle.trans hE,rfl,rfl,bX,eK⟩;dsimp only
   match pe,hp,aQ,ec with
   |none,hp,aQ,ec=>exact hQ .normal .normal E' _ _ _ ec aQ trivial hp
   |some .ret,hp,aQ,ec=>exact hQ .ret .ret E' _ _ _ ec aQ trivial hp
   |some (.exit i),hp,aQ,ec=>exact hQ (.exit i) (.exit i) E' _ _ _ ec aQ rfl hp
   |some (.goto i),hp,aQ,ec=>exact hQ (.goto i) (.goto i) E' _ _ _ ec aQ rfl hp
  |panic ch=>
   obtain⟨pv,v,E',H',rfl,hE,bX,eK,bi,bf,hp⟩:=hr;exact hQ (.panic pv) (.panic _) E' V' a ⟨s.T,H'⟩ ⟨hle.trans hE,rfl,rfl,bX,eK⟩ ⟨bf,ah.tok.mono (hle.trans hE),ah.size⟩ ⟨v,rfl,bi⟩ hp
 exact Bz.mono (λnx V' hn=>Nx.mono key hn) (λv V' hr=>key _ _ hr)
def wn (P:SJ)(fn:YF)(R:Out->View->Prop):List UV->U5->Array SO->View->Prop
 |[],.returning,tmps,V=>∃v,aO P V (results fn tmps) (λx V'=>x=v/\V'=V) (λ_ _=>False)/\R (.ret v) V
 |[],.panicking ch,_,V=>R (.panic ch) V
 |d::ds,md,tmps,V=>(md matches .run)=false/\∃b,d={target:=.collected b,args:=#[]}/\V.own b=some (.deferred (some []))/\V.role.chan≠some b/\wn P fn R ds md tmps (V.upd b (.deferred none))
 |[],.run,_,_=>False
theorem GP{f:TO}{fn:YF}{kd:Xe}{R:Out->View->Prop}(hf:P.funcs[f]?=some fn){main:Bool}{J:View->SH->Prop}(C:Closed lv P main J){cs:List Ua}(hR:∀o V' A9,R o V'->Leaves P A9 f kd o V'->J V' (G A9 cs)):∀(ds:List UV)(md:U5)(V:View)(fr:Ua),fr.fn=f->fr.kind=kd->fr.mode=md->fr.defers=ds->wn P fn R ds md fr.tmps V->J V (G fr cs)
 |[],.returning,V,fr,h1,h2,h3,h4,h=>by
  obtain⟨v,hs,hr⟩:=h;exact hR _ _ _ hr ⟨h1,h4,h2,fn,hf,h3,hs⟩
 |[],.panicking ch,V,fr,h1,h2,h3,h4,h=>hR _ _ _ h ⟨h1,h4,h2,fn,hf,h3⟩
 |[],.run,_,_,_,_,_,_,h=>h.elim
 |d::ds,md,V,fr,h1,h2,h3,h4,h=>by
  obtain⟨hm,b,rfl,ho,eJ,hu⟩:=h;refine C.step _ _ rfl λw hw=> ?_;obtain⟨es,w',V',k1,k2,k3⟩:=(MA (P:=P) ho eJ).runs hw;rcases k3 with⟨x,k3,rfl,rfl⟩|⟨_,_,hx⟩
  ·refine⟨G {fr with defers:=ds} cs,w',seen P fr.fn es,_,?_,k1.seen P fr.fn,?_⟩
   ·have e:∀main,stepG P main (G fr cs) w=unwind P main fr cs none w:=λmain=>by
     cases md with
     |run=>cases hm
     |returning=>simp[G,stepG,h3]
     |panicking ch=>simp[G,stepG,h3]
    rw[e];simp only[unwind,h4];simp[TC,k3,k2,T1,G]
   ·exact GP hf C hR ds md _ {fr with defers:=ds} h1 h2 h3 rfl hu
  ·exact hx.elim
def ac8 (P:SJ)(fn:YF)(R:Out->View->Prop):Ex->Act->View->Prop
 |.normal,a,V|.ret,a,V=>wn P fn R a.defers .returning a.tmps V
 |.panic ch,a,V=>wn P fn R a.defers (.panicking ch) a.tmps V
 |_,_,_=>False
theorem afy{f:TO}{fn:YF}{c:T9}{args:Array SO}{kd:Xe}{V:View}{R:Out->View->Prop}(hk:kd≠ .early)(hf:P.funcs[f]?=some fn)(hb:fn.body=some c)
  (h:WP lv P none c (ac8 P fn R) {tmps:=args++TK (fn.ntmps-args.size) undef,defers:=[]} V):Body lv P f args kd V R:=by
 intro main J C cs hR;let b:Ua:={(default:Ua)with fn:=f,kind:=kd,roundOf:=none};have tM:Frame.enter P f args kd=on b {tmps:=args++TK (fn.ntmps-args.size) undef,defers:=[]} [.code c]:=by
  simp[Frame.enter,on,hf,hb,b]
 rw[tM];refine h main J C b [] cs hk rfl λe a' V' q=> ?_;cases e with
 |normal=>exact C.idle rfl (λw=>CK rfl) (GP hf C hR _ _ _ _ rfl rfl rfl rfl q)
 |ret=>intro k;exact C.idle rfl (λw=>CL rfl) (GP hf C hR _ _ _ _ rfl rfl rfl rfl q)
 |panic ch=>intro todo _;exact GP hf C hR _ _ _ _ rfl rfl rfl rfl q
 |exit id=>exact q.elim
 |goto l=>exact q.elim
def ii:List Nat->List aa->Option (List aa)
 |[],H=>some H
 |i::ms,H=>match H[i]?with
  |some (.obj (.deferred (some [])))=>ii ms (H.set i .gone)
  |_=>none
def rD (P:SJ)(rs:List UL)(n:Nat)(k kp:AV->List aa->Prop):am->AS->List Nat->Prop
 |.normal,s,ms|.ret,s,ms=>ao (ii ms s.H) λH'=>ao (gG P ⟨s.T,H'⟩ rs) λl=>cy n H' (iD l) k
 |.panic pv,s,ms=>ao (ii ms s.H) λH'=>cy n H' pv kp
 |_,_,_=>False
theorem MV{fn:YF}{R:Out->View->Prop}{tmps:Array SO}{md:U5}(hm:(md matches .run)=false):∀(ms:List Nat)(H H':List aa)(E:Env)(V:View)(l:List UV),ii ms H=some H'->Conc E V H->Marks E ms l->(∀V',V'.role=V.role->V'.deaf=V.deaf->Conc E V' H'->wn P fn R [] md tmps V')->wn P fn R l md tmps V
 |[],H,H',E,V,l,hg,hc,qH,hk=>by
  cases hg;have:l=[]:=qH.1;subst this;exact hk V rfl rfl hc
 |i::ms,H,H',E,V,l,hg,hc,qH,hk=>by
  simp only[ii]at hg;split at hg
  ·rename_i hi;obtain⟨e,hlt⟩:=qH;simp only[UU]at e;subst e;obtain⟨p1,p2,p3,p4⟩:=hc.obj i _ hi;exact⟨hm,_,rfl,p1,(hc.iS hi rfl).2,MV hm ms _ H' E _ _ hg (hc.CO _ hi _ rfl) ⟨rfl,λj hj=>hlt j (by simp[hj])⟩ λV' h1 h2 h3=>hk V' h1 h2 h3⟩
  ·cases hg
theorem Pr{f:TO}{fn:YF}{c:T9}{rs:List UL}{nt:Nat}{H:List aa}{args:List AV}{k kp:AV->List aa->Prop}(hf:P.funcs[f]?=some fn)(hb:fn.body=some c)(hr:fn.results=rs.toArray)(hn:fn.ntmps=nt)(cI:args.length<=nt)
  (h:bM H->(∀a∈args,Lt H.length a)->l6 lv P nt c ⟨bk 0 args,H⟩ [] (rD P rs H.length k kp)):ba lv P f H args k kp:=by
 intro E V vs hc hd;have hlt:∀a∈args,Lt H.length a:=λa ha=>by
  obtain⟨i,hi⟩:=oP ha;rw[<- hc.n];exact(hd.2 i a hi).lt
 have ah:=AP (nt:=nt) hc hd cI;refine afy (by simp) hf hb ?_;rw[hn];refine h hc.ay hlt E V _ _ ah ⟨rfl,by simp⟩ λae e E' V' a' s' cw hk aQ fG he hΦ=> ?_;have fin:rD P rs H.length k kp .ret s' cw->wn P fn (gz E V k kp) a'.defers .returning a'.tmps V':=λhΦ=>by
  obtain⟨H',hg,hΦ⟩:=ao.out hΦ;exact MV rfl cw _ H' E' V' _ hg aQ.br fG λaR h1 h2 h3=>abo (s':=⟨s'.T,H'⟩) (a':=a') hr ⟨h3,aQ.tok,aQ.size⟩ hk.le hc.n (h1.trans hk.role) (h2.trans hk.deaf) hΦ
 cases ae<;>cases e<;>first
  |exact he.elim
  |exact fin hΦ
  |exact hΦ.elim
  |skip
 rename_i pv ch;obtain⟨v,eJ,bi⟩:∃v,ch=[{v,recovered:=false}]/\ap E' pv v:=he;subst eJ;obtain⟨H',hg,hΦ⟩:=ao.out hΦ;refine MV rfl cw _ H' E' V' _ hg aQ.br fG λaR h1 h2 h3=> ?_;obtain⟨b,bO,sU,r1,r2,r3,r4⟩:=wD hΦ h3 bi hk.le hc.n;exact⟨b,v,bO,sU,rfl,r1,h1.trans hk.role,h2.trans hk.deaf,r2,r3,r4⟩
end
def Env.frame (E:Env)(f:Nat->Option Obj):Env:={E with fr:=f}
theorem ap.frame{E:Env}{a:AV}{v:SO}(h:ap E a v)(f:Nat->Option Obj):ap (E.frame f) a v:=by
 induction h with
 |val x=>exact .val x
 |agg hs _ ih=>exact .agg hs ih
 |aJ hs _ ih=>exact .aJ hs ih
 |sl b o cap g hc he h1 _ ih=>exact .sl b o cap g hc (by cases jN:‹End›<;>(subst jN;exact he)) h1 ih
 |nil he=>exact .nil (by cases jN:‹End›<;>(subst jN;exact he))
 |bD hi dJ=>exact .bD (E:=E.frame f) hi dJ
 |rp b o g h1 _ ih=>exact .rp b o g h1 ih
 |op hi=>exact .op (E:=E.frame f) hi
 |fn dF fI _ _ mq kK=>exact .fn dF fI mq kK
 |cS _ ih=>exact .cS ih
 |mp hi=>exact .mp (E:=E.frame f) hi
theorem cE.frame{E:Env}{l:List AV}{cs:Array SO}(h:cE E l cs)(f:Nat->Option Obj):cE (E.frame f) l cs:=⟨h.1,λi a e=>(h.2 i a e).frame f⟩
theorem jF.frame{E:Env}{l:List AV}{cs:Array SO}(h:jF E l cs)(f:Nat->Option Obj):jF (E.frame f) l cs:=⟨h.1,λi a e=>(h.2 i a e).frame f⟩
theorem bZ.frame{E:Env}{T:List (Nat×AV)}{tmps:Array SO}(h:bZ E T tmps)(f:Nat->Option Obj):bZ (E.frame f) T tmps:=λt a e=>⟨(h t a e).1,(h t a e).2.frame f⟩
theorem uQ(E:Env)(f:Nat->Option Obj)(k:Nat)(x:aa):bJ (E.frame f) k x=bJ E k x:=by cases x<;>rfl
theorem fz.frame{E:Env}{V:View}{k:Nat}{x:aa}(h:fz E V k x)(f:Nat->Option Obj):fz (E.frame f) V k x:=by
 cases x with
 |cells l el=>obtain⟨⟨cs,h1,h2⟩,h3⟩:=h;exact⟨⟨cs,h1,h2.frame f⟩,h3⟩
 |part p l el=>obtain⟨⟨cs,h1,h2,h4⟩,h3⟩:=h;exact⟨⟨cs,h1,h2.frame f,h4⟩,h3⟩
 |own sz l el=>obtain⟨⟨cs,h1,h2,h4⟩,h3⟩:=h;exact⟨⟨cs,h1,h2.frame f,h4⟩,h3⟩
 |tail n sz el=>exact h
 |obj x=>exact h
 |iter=>exact h
 |loop=>obtain⟨⟨tmps,h1,h2,h3⟩,h4,h5⟩:=h;exact⟨⟨tmps,h1,h2,h3.frame f⟩,h4,h5⟩
 |gone=>trivial
 |main=>exact h
theorem Conc.xI{E:Env}{V V':View}{H:List aa}(h:Conc E V H)(f:Nat->Option Obj)(hI:V'.ab=V.ab)
  (ho:∀b x k y,H[k]?=some y->bJ E k y=some b->V.own b=some x->V'.own b=some x)
  (hg:∀g,V'.role.group=some g->V'.own g≠none/\(∀o,V'.ab g o=none)/\∀(k:Nat) x,H[k]?=some x->bJ E k x≠some g)
  (hc:∀g,V'.role.chan=some g->V'.own g≠none/\(∀o,V'.ab g o=none)/\∀(k:Nat) x,H[k]?=some x->bJ E k x≠some g)
  (ht:E.main=true->V'.role=.plain/\V'.deaf=0) (hf:∀b y,f b=some y->V'.own b=some y/\(∀o,V'.ab b o=none)/\∀(k:Nat) x,H[k]?=some x->bJ E k x≠some b):Conc (E.frame f) V' H:=by
 have hlt:∀(k:Nat) y,H[k]?=some y->k<E.n:=λk y e=>by rw[h.n];exact(SN.1 e).1
 refine⟨by rw[hI];exact h.I,h.n,λk x e=>fz.frame ((h.obj k x e).mono (Env.Le.refl E) (hlt k x e) rfl (λb y hb hy=>ho b y k x e hb hy) (λb _ o=>by rw[hI])) f,λi j x y b h1 h2 h3 h4=> ?_,λg e=> ?_,λg e=> ?_,ht,λb y e=> ?_⟩
 ·rw[uQ]at h3 h4;exact h.inj i j x y b h1 h2 h3 h4
 ·obtain⟨a,b,c⟩:=hg g e;exact⟨a,b,λk x e=>by rw[uQ];exact c k x e⟩
 ·obtain⟨a,b,c⟩:=hc g e;exact⟨a,b,λk x e=>by rw[uQ];exact c k x e⟩
 ·obtain⟨a,b',c⟩:=hf b y e;exact⟨a,b',λk x e=>by rw[uQ];exact c k x e⟩
theorem Conc.CB{E:Env}{V:View}{H:List aa}(h:Conc E V H){b:Nat}{x:Obj}(hb:E.fr b=some x){k:Nat}{y:aa}(hk:H[k]?=some y){b':Nat}(du:bJ E k y=some b'):b'≠b:=λe=>by subst e;exact(h.fr _ x hb).2.2 k y hk du
theorem Conc.aiw{E:Env}{V:View}{H:List aa}(h:Conc E V H){b:Nat}{x:Obj}(hb:E.fr b=some x)(y:Obj):Conc (E.frame λb'=>if b'=b then some y else E.fr b') (V.upd b y) H:=by
 obtain⟨p1,p2,p3⟩:=h.fr b x hb;refine h.xI _ rfl (λb' z k w hk jY hz=> ?_) (λg hg=> ?_) (λg hg=> ?_) h.top (λb' z hz=> ?_)
 ·have:b'≠b:=h.CB hb hk jY;simpa[View.upd,this]using hz
 ·obtain⟨q1,q2,q3⟩:=h.group g hg;refine⟨?_,q2,q3⟩;simp only[View.upd];split
  ·simp
  ·exact q1
 ·obtain⟨q1,q2,q3⟩:=h.chan g hg;refine⟨?_,q2,q3⟩;simp only[View.upd];split
  ·simp
  ·exact q1
 ·by_cases e:b'=b
  ·subst e;rw[if_pos rfl]at hz;cases hz;exact⟨by simp[View.upd],p2,p3⟩
  ·rw[if_neg e]at hz;obtain⟨q1,q2,q3⟩:=h.fr b' z hz;exact⟨by simpa[View.upd,e]using q1,q2,q3⟩
theorem Conc.aiu{E:Env}{V:View}{H:List aa}(h:Conc E V H){b:Nat}(hb:V.fresh b)(y:Obj):Conc (E.frame λb'=>if b'=b then some y else E.fr b') (V.upd b y) H:=by
 have aC:∀(k:Nat) x,H[k]?=some x->bJ E k x≠some b:=λk x hk e=>by
  obtain⟨z,hz⟩:=(h.obj k x hk).AU e;rw[hb.1]at hz;cases hz
 refine h.xI _ rfl (λb' z k w hk jY hz=> ?_) (λg hg=> ?_) (λg hg=> ?_) h.top (λb' z hz=> ?_)
 ·have:b'≠b:=λe=>by subst e;exact aC k w hk jY
  simpa[View.upd,this]using hz
 ·obtain⟨q1,q2,q3⟩:=h.group g hg;refine⟨?_,q2,q3⟩;simp only[View.upd];split
  ·simp
  ·exact q1
 ·obtain⟨q1,q2,q3⟩:=h.chan g hg;refine⟨?_,q2,q3⟩;simp only[View.upd];split
  ·simp
  ·exact q1
 ·by_cases e:b'=b
  ·subst e;rw[if_pos rfl]at hz;cases hz;exact⟨by simp[View.upd],hb.2,aC⟩
  ·rw[if_neg e]at hz;obtain⟨q1,q2,q3⟩:=h.fr b' z hz;exact⟨by simpa[View.upd,e]using q1,q2,q3⟩
theorem Conc.aiv{E:Env}{V:View}{H:List aa}(h:Conc E V H){id:Nat}{l:List AV}{el:TypeId}(hk:H[id]?=some (.cells l el)):∃cs,cE E l cs/\V.own (E.blk id)=some (.cells cs el (0,0))/\(∀o,V.ab (E.blk id) o=none)/\
  Conc (E.frame λb'=>if b'=E.blk id then some (.cells cs el (0,0))else E.fr b') V (H.set id .gone):=by
 obtain⟨⟨cs,h1,h2⟩,h3⟩:=h.obj id _ hk;refine⟨cs,h2,h1,h3,?_⟩;have hg:Conc E V (H.set id .gone):=by
  refine h.iF id .gone (Env.Le.refl E) h.I (by simpa using h.n) lq rfl (λ_ _ _=>rfl) (λb y _ hy=>⟨hy,λ_=>rfl⟩) trivial (λb e=>by cases e)
 have aC:∀(k:Nat) x,(H.set id .gone)[k]?=some x->bJ E k x≠some (E.blk id):=λk x hx e=>by
  rcases lq k x hx with⟨rfl,rfl⟩|⟨aC,hx⟩
  ·cases e
  ·exact aC (h.inj k id x _ _ hx hk e rfl)
 refine hg.xI _ rfl (λ_ _ _ _ _ _ hz=>hz) hg.group hg.chan h.top (λb' z hz=> ?_);by_cases e:b'=E.blk id
 ·subst e;rw[if_pos rfl]at hz;cases hz;exact⟨h1,h3,aC⟩
 ·rw[if_neg e]at hz;exact hg.fr b' z hz
theorem Conc.Gm{E:Env}{V:View}{H:List aa}(h:Conc E V H){id:Nat}{l:List AV}{el:TypeId}(hk:H[id]?=some (.cells l el))(p:Nat)(hp:p<=l.length):∃V',dP V V'/\V'.own=V.own/\V'.role=V.role/\V'.deaf=V.deaf/\E.Le {E with I:=V'.ab}/\Conc {E with I:=V'.ab} V' (H.set id (.part p l el))/\
  ap {E with I:=V'.ab} (.rp (l.take p)) (.pointer (some ⟨E.blk id,0,none⟩)):=by
 obtain⟨⟨cs,h1,h2⟩,h3⟩:=h.obj id _ hk;let V':=V.gT (E.blk id) cs λo=>decide (o<p);have mW:∀b o,b≠E.blk id->V'.ab b o=V.ab b o:=λb o hb=>by simp[V',View.gT,hb]
 have b_:∀o,o<p->V'.ab (E.blk id) o=cs[o]?:=λo ho=>by simp[V',View.gT,ho]
 have Ki:∀o,p<=o->V'.ab (E.blk id) o=none:=λo ho=>by simp[V',View.gT,Nat.not_lt.2 ho,h3]
 have hle:E.Le {E with I:=V'.ab}:=⟨λb o v e=>by
  rw[h.I]at e;have hb:b≠E.blk id:=λhb=>by subst hb;rw[h3]at e;cases e
  show V'.ab b o=some v;rw[mW b o hb];exact e,SQ _,λ_ _=>rfl,λ_ _=>SQ _,λ_ _ _ _=>rfl,rfl,rfl⟩
 refine⟨V',yB h1 (λo _=>h3 o),rfl,rfl,rfl,hle,?_,?_⟩
 ·refine h.iF (E':={E with I:=V'.ab}) id (.part p l el) hle rfl (by simpa using h.n) lq rfl (λ_ _ _=>rfl) (λb y hb hy=>⟨hy,λo=>mW b o λe=>hb _ hk (by rw[e];rfl)⟩) ⟨⟨cs,h1,(h2.mono hle).p,b_⟩,Ki⟩ (λb e=> .inl ⟨_,hk,e⟩)
 ·refine .rp (E.blk id) 0 (λi=>cs.getD i undef) (λi hi=> ?_) λi x hx=> ?_
  ·have cu:i<p:=(by simp at hi;omega);rw[Wr];show V'.ab (E.blk id) i=_;rw[b_ i cu];have:i<cs.size:=(by have:=h2.1;omega);simp[SI,SK this]
  ·rw[Uc]at hx;split at hx
   ·exact(h2.2 i x hx).mono hle
   ·cases hx
theorem Conc.alS{E:Env}{V V':View}{H:List aa}(h:Conc E V H)(ho:V'.own=V.own)(mW:∀b o v,V.ab b o=some v->V'.ab b o=some v)(iP:∀b o,V.own b≠none->V.ab b o=none->V'.ab b o=none)
  (hg:V'.role.group=none) (hc:V'.role.chan=none) (ht:E.main=true->V'.role=.plain/\V'.deaf=0):E.Le {E with I:=V'.ab}/\Conc {E with I:=V'.ab} V' H:=by
 have hle:E.Le {E with I:=V'.ab}:=⟨λb o v e=>by rw[h.I]at e;exact mW b o v e,SQ _,λ_ _=>rfl,λ_ _=>SQ _,λ_ _ _ _=>rfl,rfl,rfl⟩;have hlt:∀(k:Nat) y,H[k]?=some y->k<E.n:=λk y e=>by rw[h.n];exact(SN.1 e).1
 have key:∀b o,V.own b≠none->V'.ab b o=V.ab b o:=λb o hb=>by
  cases e:V.ab b o with
  |none=>exact iP b o hb e
  |some v=>exact mW b o v e
 refine⟨hle,rfl,h.n,λk x e=>(h.obj k x e).mono hle (hlt k x e) rfl (λb y _ hy=>by rw[ho];exact hy) (λb hb o=> ?_),h.inj,λg e=>(by rw[hg]at e;cases e),λg e=>(by rw[hc]at e;cases e),ht,λb y e=> ?_⟩
 ·obtain⟨y,hy⟩:=(h.obj k x e).AU hb;exact key b o (by rw[hy];simp)
 ·obtain⟨q1,q2,q3⟩:=h.fr b y e;exact⟨by rw[ho];exact q1,λo=>by rw[key b o (by rw[q1];simp)];exact q2 o,q3⟩
section
variable {lv:Bool}{P:SJ}{nt id:Nat}{ops:Array Tv}{s:AS}{E:Env}{V:View}{a:Act}{Q:Ex->Act->View->Prop}{K:AS->Prop}
theorem GW(n m:Nat)(hn:ops.size=n+m)(db:jw nt ops=true)(ah:At E V s a nt)(h:gV lv P ops (ops.toList.take n) s K (λ_ _=>False))
  (hk:∀E' V' a' s',Kept E E' V V' a a'->At E' V' s' a' nt->K s'->c_ lv P none ops Q (Ub n m) a' V'):WP lv P none (.region id ops false) Q a V:=by
 refine wp_region ?_;have hr:SV ops.size=Ub 0 n++Ub n m:=by
  have:=Y9 (s:=0) (m:=n) (n:=m);rw[Vo,hn,<- this];simp
 rw[hr];refine Ad _ _ _ (F8 (r:=none) (Φ:=λe s'=>match e with
  |.normal=>K s'
  |_=>False) (λo ho d e=>(jw.out db ho).1 d e) rfl n 0 s (by omega) (by simpa using h) E V a _ ah λae e E' V' a' s' aI aQ he hΦ=> ?_)
 cases ae<;>cases e<;>first
  |exact he.elim
  |exact hΦ.elim
  |exact hk E' V' a' s' aI aQ hΦ
theorem M8{n:Nat}{o:Tv}(ho:ops[n]?=some o)(hg:o.guard=none)(h:uI lv P o a V λa' V'=>Q .normal a' V'):c_ lv P none ops Q (Ub n 1) a V:=by
 simp only[List.range'_one,c_,ho];rw[if_pos (by unfold Tf;rw[hg])];exact .inr h
end
section
variable {lv main:Bool}{P:SJ}{J:View->SH->Prop}
theorem acQ(C:Closed lv P main J){V:View}{fr:Ua}{cs:List Ua}{g:TO}{ca aD:Array SO}{ds:List UV}(hd:fr.defers=⟨.fn (.func g) ca,aD⟩::ds)(hm:(fr.mode matches .run)=false)(hg:pY P g=true)
  (h:J V (G (Frame.enter P g (aD++ca) .deferred) ({fr with defers:=ds}::cs))):J V (G fr cs):=by
 refine C.step _ _ rfl λw hw=> ?_;have hs:aO P V (invoke (.fn (.func g) ca) aD) (λnx V'=>nx=.enter g (aD++ca)/\V'=V) (λ_ _=>False):=by
  unfold invoke;exact Mv hg ⟨rfl,rfl⟩
 obtain⟨es,w',V',k1,k2,k3⟩:=hs.runs hw;rcases k3 with⟨nx,k3,rfl,rfl⟩|⟨_,_,h⟩
 ·refine⟨G (Frame.enter P g (aD++ca) .deferred) ({fr with defers:=ds}::cs),w',seen P fr.fn es,V',?_,k1.seen P fr.fn,h⟩;have e:stepG P main (G fr cs) w=unwind P main fr cs none w:=by
   obtain⟨fn,tmps,todo,defers,mode,kind,ro⟩:=fr;cases mode with
   |run=>cases hm
   |returning=>simp[G,stepG]
   |panicking ch=>simp[G,stepG]
  rw[e];simp only[unwind,hd];simp[callDeferred,TC,k3,k2,T1,G]
 ·exact h.elim
theorem agy(C:Closed lv P main J){f:TO}{fn:YF}{c:T9}{args:Array SO}{kd:Xe}{V:View}{cs:List Ua}{Q:Act->View->Prop}(hk:kd≠ .early)(hf:P.funcs[f]?=some fn)(hb:fn.body=some c)
  (h:WP lv P none c (λe a V=>(match e with|.normal|.ret=>True|_=>False)/\Q a V) {tmps:=args++TK (fn.ntmps-args.size) undef,defers:=[]} V)
  (hQ:∀a V todo,Q a V->J V (G {fn:=f,tmps:=a.tmps,todo,defers:=a.defers,mode:=.returning,kind:=kd,roundOf:=none} cs)):J V (G (Frame.enter P f args kd) cs):=by
 let b:Ua:={(default:Ua)with fn:=f,kind:=kd,roundOf:=none};have tM:Frame.enter P f args kd=on b {tmps:=args++TK (fn.ntmps-args.size) undef,defers:=[]} [.code c]:=by
  simp[Frame.enter,on,hf,hb,b]
 rw[tM];refine h main J C b [] cs hk rfl λe a' V' q=> ?_;cases e with
 |normal=>exact C.idle rfl (λw=>CK rfl) (hQ a' V' [] q.2)
 |ret=>intro k;exact C.idle rfl (λw=>CL rfl) (hQ a' V' (.code .ret::k) q.2)
 |panic ch=>exact q.1.elim
 |exit id=>exact q.1.elim
 |goto l=>exact q.1.elim
end
def Env.eY (E:Env)(m:Bool):Env:={E with main:=m}
theorem ap.eY{E:Env}{a:AV}{v:SO}(h:ap E a v)(m:Bool):ap (E.eY m) a v:=by
 induction h with
 |val x=>exact .val x
 |agg hs _ ih=>exact .agg hs ih
 |aJ hs _ ih=>exact .aJ hs ih
 |sl b o cap g hc he h1 _ ih=>exact .sl b o cap g hc (by cases jN:‹End›<;>(subst jN;exact he)) h1 ih
 |nil he=>exact .nil (by cases jN:‹End›<;>(subst jN;exact he))
 |bD hi dJ=>exact .bD (E:=E.eY m) hi dJ
 |rp b o g h1 _ ih=>exact .rp b o g h1 ih
 |op hi=>exact .op (E:=E.eY m) hi
 |fn dF fI _ _ mq kK=>exact .fn dF fI mq kK
 |cS _ ih=>exact .cS ih
 |mp hi=>exact .mp (E:=E.eY m) hi
theorem cE.eY{E:Env}{l:List AV}{cs:Array SO}(h:cE E l cs)(m:Bool):cE (E.eY m) l cs:=⟨h.1,λi a e=>(h.2 i a e).eY m⟩
theorem jF.eY{E:Env}{l:List AV}{cs:Array SO}(h:jF E l cs)(m:Bool):jF (E.eY m) l cs:=⟨h.1,λi a e=>(h.2 i a e).eY m⟩
theorem bZ.eY{E:Env}{T:List (Nat×AV)}{tmps:Array SO}(h:bZ E T tmps)(m:Bool):bZ (E.eY m) T tmps:=λt a e=>⟨(h t a e).1,(h t a e).2.eY m⟩
theorem uR(E:Env)(m:Bool)(k:Nat)(x:aa):bJ (E.eY m) k x=bJ E k x:=by cases x<;>rfl
theorem fz.eY{E:Env}{V:View}{k:Nat}{x:aa}(h:fz E V k x)(m:Bool)(hm:x=.main->m=true):fz (E.eY m) V k x:=by
 cases x with
 |cells l el=>obtain⟨⟨cs,h1,h2⟩,h3⟩:=h;exact⟨⟨cs,h1,h2.eY m⟩,h3⟩
 |part p l el=>obtain⟨⟨cs,h1,h2,h4⟩,h3⟩:=h;exact⟨⟨cs,h1,h2.eY m,h4⟩,h3⟩
 |own sz l el=>obtain⟨⟨cs,h1,h2,h4⟩,h3⟩:=h;exact⟨⟨cs,h1,h2.eY m,h4⟩,h3⟩
 |tail n sz el=>exact h
 |obj x=>exact h
 |iter=>exact h
 |loop=>obtain⟨⟨tmps,h1,h2,h3⟩,h4,h5⟩:=h;exact⟨⟨tmps,h1,h2,h3.eY m⟩,h4,h5⟩
 |gone=>trivial
 |main=>exact hm rfl
def strip:aa->aa
 |.main=> .gone
 |x=>x
theorem te(E:Env)(k:Nat)(x:aa):bJ E k (strip x)=bJ E k x:=by cases x<;>rfl
theorem Conc.af0{E:Env}{V:View}{H:List aa}(h:Conc E V H):Conc (E.eY false) V (H.map strip):=by
 have get:∀(k:Nat) y,(H.map strip)[k]?=some y->∃x,H[k]?=some x/\strip x=y:=λk y e=>by
  rw[To]at e;obtain⟨x,e1,e2⟩:=Tq.1 e;exact⟨x,e1,e2⟩
 refine⟨h.I,by rw[Tn];exact h.n,λk y e=> ?_,λi j x y b h1 h2 h3 h4=> ?_,λg hg=> ?_,λg hg=> ?_,(λe=>by cases e),λb y e=> ?_⟩
 ·obtain⟨x,hx,rfl⟩:=get k y e;have kZ:=h.obj k x hx;cases x<;>first
   |exact fz.eY kZ false (λe=>by cases e)
   |exact True.intro
 ·obtain⟨x',hx,rfl⟩:=get i x h1;obtain⟨y',hy,rfl⟩:=get j y h2;rw[uR,te]at h3 h4;exact h.inj i j x' y' b hx hy h3 h4
 ·obtain⟨a,b,c⟩:=h.group g hg;exact⟨a,b,λk y e=>by obtain⟨x,hx,rfl⟩:=get k y e;rw[uR,te];exact c k x hx⟩
 ·obtain⟨a,b,c⟩:=h.chan g hg;exact⟨a,b,λk y e=>by obtain⟨x,hx,rfl⟩:=get k y e;rw[uR,te];exact c k x hx⟩
 ·obtain⟨a,b',c⟩:=h.fr b y e;exact⟨a,b',λk y e=>by obtain⟨x,hx,rfl⟩:=get k y e;rw[uR,te];exact c k x hx⟩
theorem Conc.aoF{E:Env}{V:View}{H:List aa}(h:Conc E V (H.map strip))(m:Bool)(f:Nat->Option Obj)(hm:∀(k:Nat),H[k]?=some aa.main->m=true)(ht:m=true->V.role=.plain/\V.deaf=0)(hf:∀b y,f b=some y->E.fr b=some y):Conc ((E.eY m).frame f) V H:=by
 have get:∀(k:Nat) x,H[k]?=some x->(H.map strip)[k]?=some (strip x):=λk x e=>by rw[To,e];rfl
 refine⟨h.I,h.n.trans (by rw[Tn]),λk x e=>fz.frame ?_ f,λi j x y b h1 h2 h3 h4=> ?_,λg hg=> ?_,λg hg=> ?_,ht,λb y e=> ?_⟩
 ·have kZ:=h.obj k _ (get k x e);cases x<;>first
   |exact fz.eY kZ m (λe=>by cases e)
   |exact hm k e
 ·rw[uQ,uR]at h3 h4;exact h.inj i j _ _ b (get i x h1) (get j y h2) (by rw[te];exact h3) (by rw[te];exact h4)
 ·obtain⟨a,b,c⟩:=h.group g hg;exact⟨a,b,λk x e=>by rw[uQ,uR,<- te];exact c k _ (get k x e)⟩
 ·obtain⟨a,b,c⟩:=h.chan g hg;exact⟨a,b,λk x e=>by rw[uQ,uR,<- te];exact c k _ (get k x e)⟩
 ·obtain⟨a,b',c⟩:=h.fr b y (hf b y e);exact⟨a,b',λk x e=>by rw[uQ,uR,<- te];exact c k _ (get k x e)⟩
section
variable {lv:Bool}{P:SJ}{nt id:Nat}{ops:Array Tv}{s:AS}{E:Env}{V:View}{a:Act}{Q:Ex->Act->View->Prop}{N:Act->View->Prop}{o:Tv}
theorem acZ(ho:ops[0]?=some o)(hg:o.guard=none)(h:Au lv P none o a V (c_ lv P none ops Q (Ub 1 (ops.size-1))) Q):WP lv P none (.region id ops false) Q a V:=by
 refine wp_region ?_;have aT:0<ops.size:=(SR.1 ho).1;have Kt:SV ops.size=0::Ub 1 (ops.size-1):=by
  rw[Vo];obtain⟨n,hn⟩:∃n,ops.size=n+1:=⟨ops.size-1,by omega⟩;rw[hn,VP];rfl
 rw[Kt];simp only[c_,ho];rw[if_pos (by unfold Tf;rw[hg])];exact h
theorem arx{k n:Nat}(ho:ops[k]?=some o)(hg:o.guard=none)(h:Au lv P none o a V (c_ lv P none ops Q (Ub (k+1) n)) Q):c_ lv P none ops Q (Ub k (n+1)) a V:=by
 rw[VP];simp only[c_,ho];rw[if_pos (by unfold Tf;rw[hg])];exact h
theorem ary{k:Nat}(h:Q .normal a V):c_ lv P none ops Q (Ub k 0) a V:=h
theorem M9{k n:Nat}(s3:AS)(hk:k+n=ops.size)(db:jw nt ops=true)(ah:At E V s a nt)(h:gV lv P ops (ops.toList.drop k) s (λs'=>s'.Sub s3) (λ_ _=>False))(hQ:∀E' V' a',Kept E E' V V' a a'->At E' V' s3 a' nt->Q .normal a' V'):c_ lv P none ops Q (Ub k n) a V:=by
 refine zC (r:=none) (Φ:=λe s'=>match e with
  |.normal=>s'.Sub s3
  |_=>False) (λo ho d e=>(jw.out db ho).1 d e) (λ_ _=> .inl rfl) n k s hk h E V a Q ah λae e E' V' a' s' aI aQ he hΦ=> ?_
 cases ae<;>cases e<;>first
  |exact he.elim
  |exact hΦ.elim
  |exact hQ E' V' a' aI (aQ.sub hΦ)
theorem anc{c:Xr}{f:TO}(au:o.op=.call c)(aV:c.callee=.value (.func f))(hf:pY P f=true)(h:Body lv P f (c.args.map a.eval) .normal V (fun
  |.ret v,V'=>N (a.put o.dst v) V'
  |.panic _,_=>False)):Au lv P none o a V N Q:=by
 refine .inl ⟨.inl rfl,?_⟩;unfold execOp;rw[au];dsimp only;unfold resolve;rw[aV];dsimp only;have e:a.eval (.func f)=.func (.func f) #[] #[]:=rfl;rw[e];unfold U1;refine az (aq ?_);unfold invoke;dsimp only;refine Mv hf ?_;have e2:#[]++c.args.map a.eval++#[]=c.args.map a.eval:=by simp
 rw[e2];exact h.mono λo V' hx=>by
  cases o with
  |ret v=>exact hx
  |panic ch=>exact hx.elim
theorem ane{t el:TypeId}{d:ChanDir}{i:Wj}(au:o.op=.makeChan t (.const (.int .i64 0)))(h1:P.underlying t=some (.chan d el))(h2:P.info? el=some i)(h:∀c,V.fresh c->N (a.put o.dst (.chan (some c))) (V.upd c (.chan 0 #[] false 0 0 false))):Au lv P none o a V N Q:=by
 refine .inl ⟨.inl rfl,?_⟩;unfold execOp;rw[au];dsimp only;have e:a.eval (.const (.int .i64 0))=.int .i64 0:=rfl;rw[e];unfold Instr.makeChan;refine az (az ?_);unfold asInt;refine aq ?_;refine dW h1 ?_;dsimp only;refine xM h2 ?_;rw[if_neg (by simp[IntKind.max,atb,ata])];refine az ?_;unfold newObj;exact nY λc hf=>cD (aq (aq (h c hf)))
end
theorem arw{lv:Bool}{P:SJ}{r:Option Nat}{code:T9}{Q:Ex->Act->View->Prop}{a:Act}{V:View}{c Wg:Nat}(sk:lv=true)(hr:V.role=.plain)(aC:c≠Wg)(hc:V.own c=some (.chan 0 #[] false 0 0 false)) (hW:V.own Wg≠none) (nI:∀o,V.ab Wg o=none)
  (h:WP lv P r code Q a {V with role:=.fork c Wg []}):WP lv P r code Q a V:=λmain J C b k cs hb bX hL=>
 (C.more sk).start _ _ c Wg hr aC hc hW nI (h main J C b k cs hb bX hL)
structure Env.Lo (E E':Env):Prop where
 I:∀b o v,E.I b o=some v->E'.I b o=some v
 n:E.n<=E'.n
 blk:∀k,k<E.n->E'.blk k=E.blk k
 fh:∀k,k<E.n->E.fh k<=E'.fh k
 room:∀k v,k<E.n->v<=E.fh k->E'.room k v=E.room k v
theorem Env.Le.lo{E E':Env}(h:E.Le E'):E.Lo E':=⟨h.I,h.n,h.blk,h.fh,h.room⟩
theorem Env.Lo.refl(E:Env):E.Lo E:=(Env.Le.refl E).lo
theorem Env.Lo.trans{E E' bO:Env}(h:E.Lo E')(k:E'.Lo bO):E.Lo bO:=
 ⟨λb o v e=>k.I b o v (h.I b o v e),UF h.n k.n,λi hi=>(k.blk i (Tc hi h.n)).trans (h.blk i hi),λi hi=>UF (h.fh i hi) (k.fh i (Tc hi h.n)),
  λi v hi hv=>(k.room i v (Tc hi h.n) (UF hv (h.fh i hi))).trans (h.room i v hi hv)⟩
theorem Env.Lo.le{E E':Env}(h:E.Lo E'):E.Le ((E'.eY E.main).frame E.fr):=⟨h.I,h.n,h.blk,h.fh,h.room,rfl,rfl⟩
theorem ap.lo{E E':Env}(h:E.Lo E'){a:AV}{v:SO}(d:ap E a v):ap E' a v:=by
 have:=((d.mono h.le).eY E'.main).frame E'.fr;exact this
theorem Env.FR(E:Env)(f:Nat->Option Obj):E.Lo (E.frame f):=⟨λ_ _ _ h=>h,SQ _,λ_ _=>rfl,λ_ _=>SQ _,λ_ _ _ _=>rfl⟩
theorem Env.ama(E:Env)(m:Bool):E.Lo (E.eY m):=⟨λ_ _ _ h=>h,SQ _,λ_ _=>rfl,λ_ _=>SQ _,λ_ _ _ _=>rfl⟩
theorem Env.Lo.cut{E E':Env}(h:E.Lo E'){n:Nat}(hn:E.n<=n):E.Lo {E' with n:=n}:=⟨h.I,hn,h.blk,h.fh,h.room⟩
def Env.bare (E:Env):Env:=((({E with n:=0}:Env).eY false).frame λ_=>none)
theorem ap.bare{E:Env}{a:AV}{v:SO}(h:ap E a v)(hl:Lt 0 a):ap E.bare a v:=((h.trim hl).eY false).frame _
theorem afQ{E:Env}{I:cm}{ro:mD}(hI:E.I=I)(hg:ro.group=none)(hc:ro.chan=none):Conc E.bare {ab:=I,own:=λ_=>none,deaf:=0,role:=ro} []:=
 ⟨hI,rfl,λk x e=>(by cases e),λi j x y b h1=>(by cases h1),λg e=>(by rw[hg]at e;cases e),λg e=>(by rw[hc]at e;cases e),λe=>(by cases e),λb y e=>(by cases e)⟩
theorem At.arj{E:Env}{V:View}{s:AS}{a:Act}{nt t id off:Nat}(h:At E V s a nt)(hl:look s.T t=some (.op id off)):a.eval (.tmp t)=.pointer (some ⟨E.blk id,off,none⟩):=by
 have hd:=(h.tok t _ hl).2;show a.tmps.getD t undef=_;generalize a.tmps.getD t undef=v at hd;cases hd;rfl
section
variable {lv:Bool}{P:SJ}{s:AS}{ms:List Nat}{nt:Nat}
def am.o6 (id:Nat)(Φ:am->AS->List Nat->Prop):am->AS->List Nat->Prop
 |.exit i,s,ms=>if i=id then Φ .normal s ms else Φ (.exit i) s ms
 |e,s,ms=>Φ e s ms
theorem aeX{id:Nat}{c:T9}{Φ:am->AS->List Nat->Prop}(h:l6 lv P nt c s ms (am.o6 id Φ)):l6 lv P nt (.block id c) s ms Φ:=by
 intro E V a Q ah hd hQ;refine wp_block (h E V a _ ah hd λae e E' V' a' s' cw hk aQ cr he hΦ=> ?_);cases ae<;>cases e<;>first
  |exact he.elim
  |skip
 ·exact hQ .normal .normal E' V' a' s' cw hk aQ cr trivial hΦ
 ·rename_i i j;have e:i=j:=he;subst e;by_cases bY:i=id
  ·simp only[Ex.inBlock,bY,if_true];simp only[am.o6,bY,if_true]at hΦ;exact hQ .normal _ E' V' a' s' cw hk aQ cr trivial hΦ
  ·simp only[Ex.inBlock,bY,if_false];simp only[am.o6,bY,if_false]at hΦ;exact hQ (.exit i) _ E' V' a' s' cw hk aQ cr rfl hΦ
 ·exact hQ _ _ E' V' a' s' cw hk aQ cr he hΦ
 ·exact hQ _ _ E' V' a' s' cw hk aQ cr he hΦ
 ·exact hQ _ _ E' V' a' s' cw hk aQ cr he hΦ
def am.ux (Φ:am->AS->List Nat->Prop):am->AS->List Nat->Prop
 |.goto _,_,_=>False
 |e,s,ms=>Φ e s ms
theorem ae0{c:T9}{Φ:am->AS->List Nat->Prop}(h:l6 lv P nt c s ms (am.ux Φ)):l6 lv P nt (.scope c) s ms Φ:=by
 intro E V a Q ah hd hQ;refine ac0 (λ_ _ _ _=>False) ⟨0,h E V a _ ah hd λae e E' V' a' s' cw hk aQ cr he hΦ=> ?_⟩ λ_ _ _ _ _ _ hf=>hf.elim;cases ae<;>cases e<;>first
  |exact he.elim
  |exact hΦ.elim
  |exact hQ _ _ E' V' a' s' cw hk aQ cr he hΦ
theorem afl(id:Nat)(Φ:am->AS->List Nat->Prop)(s:AS)(ms:List Nat):am.o6 id Φ .normal s ms=Φ .normal s ms:=by rw[am.o6];simp
theorem ap1(Φ:am->AS->List Nat->Prop)(s:AS)(ms:List Nat):am.ux Φ .normal s ms=Φ .normal s ms:=by rw[am.ux];simp
theorem ap3(Φ:am->AS->List Nat->Prop)(s:AS)(ms:List Nat):am.ux Φ .ret s ms=Φ .ret s ms:=by rw[am.ux];simp
theorem aqG(K:AS->List Nat->Prop)(Φ:am->AS->List Nat->Prop)(s:AS)(ms:List Nat):am.rn K Φ .normal s ms=K s ms:=by rw[am.rn]
theorem aqI(K:AS->List Nat->Prop)(Φ:am->AS->List Nat->Prop)(s:AS)(ms:List Nat):am.rn K Φ .ret s ms=Φ .ret s ms:=by rw[am.rn];simp
@[congr] theorem ase {c : T9} {s s' : AS} {ms cw : List Nat} {Φ : am -> AS -> List Nat -> Prop} (h : s = s') (hd : ms = cw) : l6 lv P nt c s ms Φ = l6 lv P nt c s' cw Φ := by rw [h, hd]
@[congr] theorem as3 {K : AS -> List Nat -> Prop} {Φ : am -> AS -> List Nat -> Prop} {e e' : am} {s s' : AS} {ms cw : List Nat} (he : e = e') (h : s = s') (hd : ms = cw) : am.rn K Φ e s ms = am.rn K Φ e' s' cw := by rw [he, h, hd]
@[congr] theorem asZ {Φ : am -> AS -> List Nat -> Prop} {e e' : am} {s s' : AS} {ms cw : List Nat} (he : e = e') (h : s = s') (hd : ms = cw) : am.ux Φ e s ms = am.ux Φ e' s' cw := by rw [he, h, hd]
@[congr] theorem ast {rs : List UL} {n : Nat} {k kp : AV -> List aa -> Prop} {e e' : am} {s s' : AS} {ms cw : List Nat} (he : e = e') (h : s = s') (hd : ms = cw) : rD P rs n k kp e s ms = rD P rs n k kp e' s' cw := by rw [he, h, hd]
theorem ail(rs:List UL)(n:Nat)(k kp:AV->List aa->Prop)(s:AS)(ms:List Nat):rD P rs n k kp .ret s ms=ao (ii ms s.H) λH'=>ao (gG P ⟨s.T,H'⟩ rs) λl=>cy n H' (iD l) k:=by rw[rD]
theorem yD(H:List aa):ii [] H=some H:=by rw[ii]
theorem yC{i:Nat}{ms:List Nat}{H:List aa}(h:H[i]?=some (.obj (.deferred (some [])))):ii (i::ms) H=ii ms (H.set i .gone):=by rw[ii];rw[h]
attribute [seval] afl ap1 ap3 aqG aqI ail yD
end
section
variable {lv:Bool}{P:SJ}{r:Option Nat}{s:AS}
theorem OC{E:Env}{I:cm}(hI:∀b o v,E.I b o=some v->I b o=some v){n:Nat}{l:List AV}{v:SO}(h:ap E (.sl n l .exact) v):∃a,ap (E.tok I (a,n) n) (.sl n l (.opn E.n)) v:=by
 cases h with
 |sl b o cap f dJ he q1 q2=>
  have Ez:cap=n:=he;subst Ez;refine⟨some ⟨b,o,none⟩,?_⟩;have hle:=E.Ls (I:=I) hI (some ⟨b,o,none⟩,cap) cap;exact .sl b o cap f dJ ⟨by simp[Env.tok],by simp[Env.tok],by simp[Env.tok]⟩ (λi hi=>hle.I _ _ _ (q1 i hi)) (λi x hx=>(q2 i x hx).mono hle)
 |nil he=>exact⟨_,.nil ⟨by simp[Env.tok],by simp[Env.tok],by simp[Env.tok];rfl⟩⟩
theorem uP{nt t n sz:Nat}{c:T9}{l:List AV}{el:TypeId}{Φ:am->AS->Prop}(ht:look s.T t=some (.sl n l .exact))(h:aU lv P r nt c ⟨(t,.sl n l (.opn s.H.length))::s.T,s.H++[.tail n sz el]⟩ Φ):aU lv P r nt c s Φ:=λE V a Q ah hQ=>by
 obtain⟨hlt,hd⟩:=ah.tok t _ ht;obtain⟨ad,cr⟩:=OC (I:=V.ab) (λb o v h=>by rw[<- ah.br.I];exact h) hd;obtain⟨hc,hle⟩:=ah.br.MP (n:=n) sz el ad;refine h _ V a Q ⟨hc,λt' x hx=> ?_,ah.size⟩ λae e E' V' a' s' hk=>hQ ae e E' V' a' s' ((⟨hle,rfl,rfl,rfl,rfl⟩:Kept E _ V V a a).trans hk);simp only[look]at hx;split at hx
 ·rename_i e;subst e;cases hx;rw[<- ah.br.n];exact⟨hlt,cr⟩
 ·exact⟨(ah.tok t' x hx).1,(ah.tok t' x hx).2.mono hle⟩
theorem OD{E:Env}{l:List AV}{cs:Array SO}{j:Nat}{a b:AV}(h:cE E l cs)(hj:l[j]?=some a)(hb:∀v,ap E a v->ap E b v):cE E (l.set j b) cs:=by
 refine⟨by rw[TQ];exact h.1,λi x hx=> ?_⟩;by_cases e:i=j
 ·subst e;rw[W9 (SN.1 hj).1]at hx;cases hx;exact hb _ (h.2 i a hj)
 ·rw[T5 (Ne.symm e)]at hx;exact h.2 i x hx
theorem HH{nt id j n sz:Nat}{c:T9}{l l':List AV}{el fO:TypeId}{Φ:am->AS->Prop}(bY:s.H[id]?=some (.cells l el))(hj:l[j]?=some (.sl n l' .exact))(h:aU lv P r nt c ⟨s.T,s.H.set id (.cells (l.set j (.sl n l' (.opn s.H.length))) el)++[aa.tail n sz fO]⟩ Φ):aU lv P r nt c s Φ:=λE V a Q ah hQ=>by
 have hc:=ah.br;obtain⟨⟨cs,iP,hd⟩,mW⟩:=hc.obj id _ bY;obtain⟨ad,cr⟩:=OC (I:=V.ab) (λb o v h=>by rw[<- hc.I];exact h) (hd.2 j _ hj);obtain⟨bf,hle⟩:=hc.MP (n:=n) sz fO ad;have hlt:=(SN.1 bY).1;have hn:(E.tok V.ab (ad,n) n).n=s.H.length+1:=by simp[Env.tok,hc.n]
 have e:s.H.set id (.cells (l.set j (.sl n l' (.opn s.H.length))) el)++[aa.tail n sz fO]=(s.H++[aa.tail n sz fO]).set id (.cells (l.set j (.sl n l' (.opn s.H.length))) el):=(Wy _ _ hlt).symm;rw[e]at h;have ED:cE (E.tok V.ab (ad,n) n) (l.set j (.sl n l' (.opn s.H.length))) cs:=by
  have h0:=hd.mono hle;refine⟨by rw[TQ];exact h0.1,λi x hx=> ?_⟩;by_cases ei:i=j
  ·subst ei;rw[W9 (SN.1 hj).1]at hx;cases hx;rw[<- hc.n];exact cr
  ·rw[T5 (Ne.symm ei)]at hx;exact h0.2 i x hx
 have hb:(E.tok V.ab (ad,n) n).blk id=E.blk id:=hle.blk id (by rw[hc.n];exact hlt);have cN:Conc (E.tok V.ab (ad,n) n) V ((s.H++[aa.tail n sz fO]).set id (.cells (l.set j (.sl n l' (.opn s.H.length))) el)):=by
  have cR:(s.H++[aa.tail n sz fO])[id]?=some (.cells l el):=by rw[SZ hlt];exact bY
  refine bf.iF id _ (Env.Le.refl _) bf.I (by rw[bf.n,TQ]) lq rfl (λ_ _ _=>rfl) (λb y _ hy=>⟨hy,λ_=>rfl⟩) ⟨⟨cs,by rw[hb];exact iP,ED⟩,λo=>by rw[hb];exact mW o⟩ (λb du=> .inl ⟨_,cR,du⟩)
 refine h _ V a Q ⟨cN,ah.tok.mono hle,ah.size⟩ λae e E' V' a' s' hk=>hQ ae e E' V' a' s' ((⟨hle,rfl,rfl,rfl,rfl⟩:Kept E _ V V a a).trans hk)
theorem aeV{nt id j:Nat}{c:T9}{l:List AV}{x y:AV}{el:TypeId}{Φ:am->AS->Prop}(bY:s.H[id]?=some (.cells l el))(hj:l[j]?=some x)(hw:Wk x y)(h:aU lv P r nt c ⟨s.T,s.H.set id (.cells (l.set j y) el)⟩ Φ):aU lv P r nt c s Φ:=λE V a Q ah hQ=>by
 have hc:=ah.br;obtain⟨⟨cs,iP,hd⟩,mW⟩:=hc.obj id _ bY;have cN:Conc E V (s.H.set id (.cells (l.set j y) el)):=
  hc.iF id _ (Env.Le.refl _) hc.I (by rw[hc.n,TQ]) lq rfl (λ_ _ _=>rfl) (λb y _ hy=>⟨hy,λ_=>rfl⟩) ⟨⟨cs,iP,OD hd hj (hw E)⟩,mW⟩ (λb du=> .inl ⟨_,bY,du⟩)
 exact h E V a Q ⟨cN,ah.tok,ah.size⟩ hQ
end
structure wc (X Y Z:Prop):Type where
 n:Nat
def UG (a:AV)(bU:Bool)(X Y Z:Prop)(_t:wc X Y Z):Prop:=(∃b,a=.val (.bool b)/\(b=bU->X)/\(b= !bU->Y))\/(a=.val undef/\Z)
theorem GO{b bU:Bool}{X Y Z:Prop}{t:wc X Y Z}:UG (.val (.bool b)) bU X Y Z t=((b=bU->X)/\(b= !bU->Y)):=by
 unfold UG;refine propext ⟨λh=> ?_,λh=> .inl ⟨b,rfl,h⟩⟩;rcases h with⟨b',e,h⟩|⟨e,_⟩
 ·cases e;exact h
 ·cases e
theorem arc(X Y Z:Prop)(t:wc X Y Z):UG (.val (.bool true)) true X Y Z t=X:=by rw[GO];simp
theorem arb(X Y Z:Prop)(t:wc X Y Z):UG (.val (.bool true)) false X Y Z t=Y:=by rw[GO];simp
theorem ara(X Y Z:Prop)(t:wc X Y Z):UG (.val (.bool false)) true X Y Z t=Y:=by rw[GO];simp
theorem aq9(X Y Z:Prop)(t:wc X Y Z):UG (.val (.bool false)) false X Y Z t=X:=by rw[GO];simp
theorem ard(bU:Bool)(X Y Z:Prop)(t:wc X Y Z):UG (.val undef) bU X Y Z t=Z:=by
 unfold UG;refine propext ⟨λh=> ?_,λh=> .inr ⟨rfl,h⟩⟩;rcases h with⟨b',e,_⟩|⟨_,h⟩
 ·cases e
 ·exact h
section
variable (lv:Bool)(P:SJ)
def nz (all:Array Tv):List Tv->AS->(AS->Prop)->(AV->AS->Prop)->Prop
 |[],s,next,_=>next s
 |o::rest,s,next,bad=>match o.guard with
  |none=>l5 lv P s o (λs'=>nz all rest s' next bad) bad
  |some (j,bU)=>ao ((all[j]?).bind (·.dst)) λd=>ao (look s.T d) λa=>UG a bU (l5 lv P ⟨(d,.val (.bool bU))::s.T,s.H⟩ o (λs'=>nz all rest s' next bad) bad) (nz all rest ((⟨(d,.val (.bool !bU))::s.T,s.H⟩:AS).put o.dst (.val undef)) next bad) (nz all rest (s.put o.dst (.val undef)) next bad) ⟨0⟩
end
theorem aq8:type_of% @nz.eq_1:=by intros;rw[nz.eq_1]
theorem aq7:type_of% @nz.eq_2:=by intros;rw[nz.eq_2]
@[congr] theorem as8 {lv : Bool} {P : SJ} {s s' : AS} {all : Array Tv} {l : List Tv} {next : AS -> Prop} {bad : AV -> AS -> Prop} (h : s = s') : nz lv P all l s next bad = nz lv P all l s' next bad := by rw [h]
attribute [seval] aq8 aq7 arc arb ara aq9 ard
section
variable {lv:Bool}{P:SJ}{r:Option Nat}{s:AS}
theorem GQ{nt:Nat}{all:Array Tv}{Φ:am->AS->Prop}(db:∀o∈all,∀d,o.dst=some d->d<nt)(mU:∀o∈all,r=none\/lR o.op=false):∀(n k:Nat)(s:AS),k+n=all.size->nz lv P all (all.toList.drop k) s (Φ .normal) (λpv s=>Φ (.panic pv) s)->
  ∀(E:Env)(V:View)(a:Act)(Q:Ex->Act->View->Prop),At E V s a nt->(∀ae e E' V' a' s',Kept E E' V V' a a'->At E' V' s' a' nt->oX E' ae e->Φ ae s'->Q e a' V')->c_ lv P r all Q (Ub k n) a V
 |0,k,s,hk,h,E,V,a,Q,ah,hQ=>by
  have:all.toList.drop k=[]:=by simp;omega
  rw[this]at h;exact hQ .normal .normal E V a s (Kept.refl E V a) ah trivial h
 |n+1,k,s,hk,h,E,V,a,Q,ah,hQ=>by
  have hlt:k<all.size:=by omega
  have hd:all.toList.drop k=all[k]::all.toList.drop (k+1):=by
   rw[T8 (by simpa using hlt)];simp
  rw[hd]at h;have fl:all[k]∈all:=XV hlt;have ho:all[k]?=some all[k]:=SK hlt;simp only[VP,c_,ho];have go:∀s:AS,At E V s a nt->l5 lv P s all[k] (λs'=>nz lv P all (all.toList.drop (k+1)) s' (Φ .normal) (λpv s=>Φ (.panic pv) s)) (λpv s=>Φ (.panic pv) s)->we lv P r all[k] a V (c_ lv P r all Q (Ub (k+1) n)) Q:=λs ah h=>by
   refine h.sound (lv:=lv) (r:=r) E V a _ Q ah.br ah.tok (λd e=>by rw[ah.size];exact db _ fl d e) (mU _ fl) (λE' V' a' s' aI bf lP hn=> ?_) (λE' V' s' pv v aI bf lP bi hb=> ?_)
   ·exact GQ db mU n (k+1) s' (by omega) hn E' V' a' Q ⟨bf,lP,aI.size.trans ah.size⟩ (λae e bO aR b8 c9 fF cX he hΦ=>hQ ae e bO aR b8 c9 (aI.trans fF) cX he hΦ)
   ·exact hQ (.panic pv) (.panic _) E' V' a s' aI ⟨bf,lP,ah.size⟩ ⟨v,rfl,bi⟩ hb
  simp only[nz]at h;split at h
  ·rename_i hg;have hw:Tf all[k] (yielded all a.tmps)=true:=(by unfold Tf;rw[hg]);rw[if_pos hw];exact .inl (go s ah h)
  ·rename_i j bU hg;obtain⟨d,fS,h⟩:=h.out;obtain⟨av,h1,h⟩:=h.out;rcases h with⟨b,rfl,h2,h3⟩|⟨rfl,h3⟩
   case inr=>
    have hv:=(ah.tok d _ h1).2;have hy:yielded all a.tmps j≠some bU:=by
     obtain⟨oj,j5,iM⟩:=Td.1 fS;generalize hx:a.tmps.getD d undef=x at hv;cases hv;have lM:d<a.tmps.size:=(ah.tok d _ h1).1;rw[SI,SK lM]at hx;simp only[S8]at hx;simp[yielded,j5,iM,SK lM,hx,undef]
    have hw:¬Tf all[k] (yielded all a.tmps)=true:=by
     unfold Tf;rw[hg];intro h;exact hy (by simpa using h)
    rw[if_neg hw];exact GQ db mU n (k+1) (s.put all[k].dst (.val undef)) (by omega) h3 E V (a.put all[k].dst undef) Q
     ⟨by rw[eX];exact ah.br,ah.tok.gF (λd e=>by rw[ah.size];exact db _ fl d e) (.val undef),by rw[dR];exact ah.size⟩
     (λae e bO aR b8 c9 fF cX he hΦ=>hQ ae e bO aR b8 c9 ⟨fF.le,fF.size.trans (dR _ _ _),fF.defers.trans (put_defers _ _ _),fF.role,fF.deaf⟩ cX he hΦ)
   have hv:=(ah.tok d _ h1).2;have hy:yielded all a.tmps j=some b:=by
    obtain⟨oj,j5,iM⟩:=Td.1 fS;generalize hx:a.tmps.getD d undef=x at hv;cases hv;have lM:d<a.tmps.size:=(ah.tok d _ h1).1;rw[SI,SK lM]at hx;simp only[S8]at hx;simp[yielded,j5,iM,SK lM,hx]
   have qW:∀b',b=b'->At E V ⟨(d,.val (.bool b'))::s.T,s.H⟩ a nt:=λb' du=>by
    subst du;refine⟨ah.br,λt x e=> ?_,ah.size⟩;simp only[look]at e;split at e
    ·rename_i e';subst e';cases e;exact ah.tok d _ h1
    ·exact ah.tok t x e
   by_cases hb:b=bU
   ·have hw:Tf all[k] (yielded all a.tmps)=true:=(by unfold Tf;rw[hg];simp[hy,hb]);rw[if_pos hw];exact .inl (go _ (qW bU hb) (h2 hb))
   ·have hw:¬Tf all[k] (yielded all a.tmps)=true:=(by unfold Tf;rw[hg];simp[hy,hb]);rw[if_neg hw];have du:b= !bU:=(by cases b<;>cases bU<;>simp_all);have tC:=h3 du;have ah:=qW _ du;exact GQ db mU n (k+1) ((⟨(d,.val (.bool !bU))::s.T,s.H⟩:AS).put all[k].dst (.val undef)) (by omega) tC E V (a.put all[k].dst undef) Q
     ⟨by rw[eX];exact ah.br,ah.tok.gF (λd e=>by rw[ah.size];exact db _ fl d e) (.val undef),by rw[dR];exact ah.size⟩
     (λae e bO aR b8 c9 fF cX he hΦ=>hQ ae e bO aR b8 c9 ⟨fF.le,fF.size.trans (dR _ _ _),fF.defers.trans (put_defers _ _ _),fF.role,fF.deaf⟩ cX he hΦ)
theorem aeQ{nt id:Nat}{ops:Array Tv}{Φ:am->AS->Prop}(hd:jw nt ops=true)(h:nz lv P ops ops.toList s (Φ .normal) (λpv s=>Φ (.panic pv) s)):aU lv P r nt (.region id ops false) s Φ:=by
 intro E V a Q ah hQ;refine wp_region ?_;rw[Vo];exact GQ (Φ:=Φ) (λo ho d e=>(jw.out hd ho).1 d e) (λo ho=> .inr (jw.out hd ho).2) ops.size 0 s (by omega) (by simpa using h) E V a Q ah hQ
end
section
variable (lv:Bool)(P:SJ)
def rI (all:Array Tv):List Tv->AS->(AS->Prop)->Prop
 |[],s,K=>K s
 |o::rest,s,K=>match o.guard with
  |none=>AQ lv P s o λav=>rI all rest (s.put o.dst av) K
  |some (j,bU)=>ao ((all[j]?).bind (·.dst)) λd=>ao (look s.T d) λa=>UG a bU (AQ lv P ⟨(d,.val (.bool bU))::s.T,s.H⟩ o λav=>rI all rest ((⟨(d,.val (.bool bU))::s.T,s.H⟩:AS).put o.dst av) K) (rI all rest ((⟨(d,.val (.bool !bU))::s.T,s.H⟩:AS).put o.dst (.val undef)) K) (rI all rest (s.put o.dst (.val undef)) K) ⟨0⟩
end
theorem aoz:type_of% @rI.eq_1:=by intros;rw[rI.eq_1]
theorem aoy:type_of% @rI.eq_2:=by intros;rw[rI.eq_2]
@[congr] theorem asX {lv : Bool} {P : SJ} {s s' : AS} {all : Array Tv} {l l' : List Tv} {K : AS -> Prop} (hl : l = l') (h : s = s') : rI lv P all l s K = rI lv P all l' s' K := by rw [hl, h]
attribute [seval] aoz aoy
section
variable {lv:Bool}{P:SJ}{r:Option Nat}{s:AS}{ops:Array Tv}{nt p:Nat}
end
section
variable {P:SJ}
def Dj (P:SJ)(d:Nat)(t:TypeId):Prop:=(∃u,P.underlying t=some u/\ya u=false)/\∀x y:Int,cp P (U8 d t (.int .i64 x) (.int .i64 y)) (x==y)
def Dk (P:SJ)(d:Nat)(t:TypeId)(n:Nat):Prop:=(∃u,P.underlying t=some u/\ya u=true)/\(∃i,P.info? t=some i/\i.size=n)/\∀xs ys:List Int,xs.length=n->ys.length=n->cp P (U8 d t (.agg (xs.map (SG .i64)).toArray) (.agg (ys.map (SG .i64)).toArray)) (xs==ys)
inductive rC (P:SJ)(d:Nat):Nat->List YX->Nat->Prop
 |nil (o:Nat):rC P d o [] o
 | one {o n : Nat} {f : YX} {fs : List YX} (hn : f.name ≠ "_") (ho : f.offset = o) (h : Dj P d f.type) (t : rC P d (o + 1) fs n) : rC P d o (f :: fs) n
 | sub {o m n : Nat} {f : YX} {fs : List YX} (hn : f.name ≠ "_") (ho : f.offset = o) (h : Dk P d f.type m) (t : rC P d (o + m) fs n) : rC P d o (f :: fs) n
theorem rC.le{d o n:Nat}{fs:List YX}(h:rC P d o fs n):o<=n:=by
 induction h with
 |nil=>exact SQ _
 |one _ _ _ _ ih=>omega
 |sub _ _ _ _ ih=>omega
theorem O3(xs:List Int)(o m:Nat):(xs.map (SG .i64)).toArray.extract o (o+m)=(((xs.drop o).take m).map (SG .i64)).toArray:=by
 simp[List.extract_eq_take_drop,VE,ag_]
theorem aql {d n N : Nat} {xs ys : List Int} {body : YX -> Option Bool × Unit -> Sem (ForInStep (Option Bool × Unit))} (hx : xs.length = N) (hy : ys.length = N) (hb : ∀ f s, body f s = (if f.name ≠ "_" then (do
   let a<- part f.type (xs.map (SG .i64)).toArray f.offset;let b<- part f.type (ys.map (SG .i64)).toArray f.offset;let r<- U8 d f.type a b
   if(!r)=true then pure (.done (some false,()))else pure (.yield (none,())))else pure (.yield (none,())))):
  ∀{o:Nat}{fs:List YX},rC P d o fs n->n<=N->cp P (forIn fs (none,()) body) (if(xs.drop o).take (n-o)==(ys.drop o).take (n-o)then(none,())else(some false,())):=by
 intro o fs h hn;induction h with
 |nil o=>simpa using gU (none,())
 |@one o n f fs J8 ho h t ih=>
  have hle:=t.le;have Rp:o<xs.length:=by omega
  have Rq:o<ys.length:=by omega
  obtain⟨⟨u,hu,Cc⟩,he⟩:=h;rw[W2,hb,if_pos J8,ho];refine kN (a:=if xs[o]==ys[o]then .yield (none,())else .done (some false,())) ?_ ?_
  ·refine CU hu Cc (v:=.int .i64 xs[o]) (by simp[Rp]) ?_;refine CU hu Cc (v:=.int .i64 ys[o]) (by simp[Rq]) ?_;refine kN (he _ _) ?_;cases hq:xs[o]==ys[o]<;>exact gU _
  ·have e:((xs.drop o).take (n-o)==(ys.drop o).take (n-o))=((xs[o]==ys[o])&&((xs.drop (o+1)).take (n-(o+1))==(ys.drop (o+1)).take (n-(o+1)))):=by
    rw[T8 Rp,T8 Rq,show n-o=(n-(o+1))+1 by omega,VU,VU];rfl
   rw[e];cases hq:xs[o]==ys[o]with
   |true=>simp only[if_true,U9];exact ih hn
   |false=>simp only[TN,if_false,Xi];exact gU _
 |@sub o m n f fs J8 ho h t ih=>
  have hle:=t.le;obtain⟨⟨u,hu,Cc⟩,⟨i,hi,cY⟩,he⟩:=h;rw[W2,hb,if_pos J8,ho];refine kN (a:=if(xs.drop o).take m==(ys.drop o).take m then .yield (none,())else .done (some false,())) ?_ ?_
  ·refine acs hu Cc hi ?_;refine acs hu Cc hi ?_;rw[cY,O3,O3];refine kN (he _ _ (by rw[TR,Uh];omega) (by rw[TR,Uh];omega)) ?_;cases hq:(xs.drop o).take m==(ys.drop o).take m<;>exact gU _
  ·have e:((xs.drop o).take (n-o)==(ys.drop o).take (n-o))=(((xs.drop o).take m==(ys.drop o).take m)&&((xs.drop (o+m)).take (n-(o+m))==(ys.drop (o+m)).take (n-(o+m)))):=by
    have hs:∀zs:List Int,(zs.drop o).take (n-o)=(zs.drop o).take m++(zs.drop (o+m)).take (n-(o+m)):=λzs=>by
     rw[show n-o=m+(n-(o+m)) by omega,List.take_add,ac_]
    rw[hs,hs,U6,Th,beq_iff_eq,beq_iff_eq,beq_iff_eq];exact⟨λh=>List.append_inj h (by simp[TR,Uh];omega),λh=>by rw[h.1,h.2]⟩
   rw[e];cases hq:(xs.drop o).take m==(ys.drop o).take m with
   |true=>simp only[if_true,U9];exact ih hn
   |false=>simp only[TN,if_false,Xi];exact gU _
theorem agA{t:TypeId}{fs:Array YX}{d n:Nat}{i:Wj}(ht:P.underlying t=some (.struct fs))(hs:P.stoodInHeld t=false)(hi:P.info? t=some i)(cY:i.size=n)(hf:rC P d 0 fs.toList n):Dk P (d+1) t n:=by
 refine ⟨⟨_, ht, rfl⟩, ⟨i, hi, cY⟩, λxs ys hx hy => ?_⟩;rw [U8];refine vY ht ?_;dsimp only;refine ML ?_;rw [hs];simp only [TN, if_false];rw [<- Array.forIn_toList];refine kN (a := if (xs == ys) then (none, ()) else (some false, ())) ?_ (by cases xs == ys <;> exact gU _);have := aql (body := λf (_ : Option Bool × Unit) => if f.name ≠ "_" then (do
   let a<- part f.type (xs.map (SG .i64)).toArray f.offset;let b<- part f.type (ys.map (SG .i64)).toArray f.offset;let r<- U8 d f.type a b
   if(!r)=true then pure (ForInStep.done (some false,()))else pure (Y0 (none,())))else pure (Y0 (none,()))) hx hy (λf s=>rfl) hf (SQ _)
 simp only[XA,ZY]at this;rw[SX (by omega),SX (by omega)]at this;exact this
theorem agz{t:TypeId}{k0:TV}{d:Nat}(ht:P.underlying t=some (.int k0)):Dj P (d+1) t:=⟨⟨_,ht,rfl⟩,λ_ _=>acp ht⟩
def A8 (g:TypeId->Option (Option Nat)):List YX->Nat->Option Nat
 |[],o=>some o
 | f :: fs, o => if f.name ≠ "_" /\ f.offset = o then (match g f.type with
  |some none=>A8 g fs (o+1)
  |some (some m)=>A8 g fs (o+m)
  |none=>none)else none
def wI (P:SJ):Nat->TypeId->Option (Option Nat)
 |0,_=>none
 |d+1,t=>match P.underlying t with
  |some (.int _)=>some none
  |some (.struct fs)=>if P.stoodInHeld t then none else(match A8 (wI P d) fs.toList 0,P.info? t with
   |some n,some i=>if i.size=n then some (some n)else none
   |_,_=>none)
  |_=>none
theorem IK{d n:Nat}{g:TypeId->Option (Option Nat)}(h1:∀t,g t=some none->Dj P d t)(h2:∀t m,g t=some (some m)->Dk P d t m):∀(fs:List YX)(o:Nat),A8 g fs o=some n->rC P d o fs n
 |[],o,h=>by cases h;exact .nil _
 |f::fs,o,h=>by
  rw[A8]at h;split at h
  ·rename_i hc;split at h
   ·rename_i hg;exact .one hc.1 hc.2 (h1 _ hg) (IK h1 h2 fs _ h)
   ·rename_i m hg;exact .sub hc.1 hc.2 (h2 _ _ hg) (IK h1 h2 fs _ h)
   ·cases h
  ·cases h
theorem Pl:∀(d:Nat)(t:TypeId),(wI P d t=some none->Dj P d t)/\∀n,wI P d t=some (some n)->Dk P d t n
 |0,t=>⟨λh=>by simp[wI]at h,λn h=>by simp[wI]at h⟩
 |d+1,t=>by
  have ih:=λt=>Pl d t;rw[wI];split
  ·rename_i k0 hu;exact⟨λ_=>agz hu,λn h=>by cases h⟩
  ·rename_i fs hu;split
   ·exact⟨λh=>(by cases h),λn h=>by cases h⟩
   ·rename_i hs;split
    ·rename_i n i hf hi;split
     ·rename_i cY;refine⟨λh=>(by cases h),λm h=> ?_⟩;cases h;exact agA hu (by simpa using hs) hi cY (IK (λt=>(ih t).1) (λt=>(ih t).2) _ _ hf)
     ·exact⟨λh=>(by cases h),λn h=>by cases h⟩
    ·exact⟨λh=>(by cases h),λn h=>by cases h⟩
  ·exact⟨λh=>(by cases h),λn h=>by cases h⟩
theorem adX{t:TypeId}{n:Nat}{xs ys:List Int}(h:wI P 10000 t=some (some n))(hg:P.eqGuardType P.depth t=false)(hx:xs.length=n)(hy:ys.length=n)(k:AV->Prop):dg P .eql t (.agg (xs.map iv)) (.agg (ys.map iv)) k=k (bv (xs==ys)):=by
 have vF:cp P (Xh t (.agg (xs.map (SG .i64)).toArray) (.agg (ys.map (SG .i64)).toArray)) (xs==ys):=((Pl 10000 t).2 n h).2.2 xs ys hx hy;have e:dg P .eql t (.agg (xs.map iv)) (.agg (ys.map iv)) k=((XK=.eql\/XK=.neq)/\ao (AV.raw (.agg (xs.map iv))) λX=>ao (AV.raw (.agg (ys.map iv))) λY=>wE X Y=true/\P.eqGuardType P.depth t=false/\∃e,cp P (Xh t X Y) e/\k (.val (.bool (if XK== .neq then !e else e)))):=rfl;rw[e,xH,xH,vP,vP];apply propext;constructor
 ·rintro⟨_,_,_,b,h1,h2⟩
  rw[vF.uniq h1];exact h2
 ·intro h;exact⟨.inl rfl,rfl,hg,_,vF,h⟩
end
section
variable {lv:Bool}{P:SJ}{s:AS}{ms:List Nat}{bs:List UV}{nt:Nat}
def sV (E:Env)(ms:List Nat)(bs l:List UV):Prop:=l=ms.map (λi=>({target:=.collected (E.blk i),args:=#[]}:UV))++bs/\∀i∈ms,i<E.n
theorem sV.mono{E E':Env}(h:E.Le E'){ms:List Nat}{bs l:List UV}(k:sV E ms bs l):sV E' ms bs l:=
 ⟨by rw[k.1];congr 1;exact Vx λi hi=>by rw[h.blk i (k.2 i hi)],λi hi=>Tc (k.2 i hi) h.n⟩
def jT (lv:Bool)(P:SJ)(nt:Nat)(bs:List UV)(c:T9)(s:AS)(ms:List Nat)(Φ:am->AS->List Nat->Prop):Prop:=
 ∀(E:Env)(V:View)(a:Act)(Q:Ex->Act->View->Prop),At E V s a nt->sV E ms bs a.defers->(∀ae e E' V' a' s' cw,p9 E E' V V' a a'->At E' V' s' a' nt->sV E' cw bs a'.defers->oX E' ae e->Φ ae s' cw->Q e a' V')->WP lv P none c Q a V
theorem DK{c:T9}{Φ:am->AS->List Nat->Prop}(h:aU lv P none nt c s λe s'=>Φ e s' ms):jT lv P nt bs c s ms Φ:=λE V a Q ah hd hQ=>
 h E V a Q ah λae e E' V' a' s' hk aQ he hΦ=>hQ ae e E' V' a' s' ms hk.d aQ (by rw[hk.defers];exact hd.mono hk.le) he hΦ
theorem jT.mono{c:T9}{Φ Φ':am->AS->List Nat->Prop}(h:jT lv P nt bs c s ms Φ)(hq:∀e s ms,Φ e s ms->Φ' e s ms):jT lv P nt bs c s ms Φ':=λE V a Q ah hd hQ=>
 h E V a Q ah hd λae e E' V' a' s' cw hk aQ cr he hΦ=>hQ ae e E' V' a' s' cw hk aQ cr he (hq _ _ _ hΦ)
theorem DL{x y:T9}{Φ:am->AS->List Nat->Prop}(h:jT lv P nt bs x s ms (am.rn (λs' cw=>jT lv P nt bs y s' cw Φ) Φ)):jT lv P nt bs (.seq x y) s ms Φ:=by
 intro E V a Q ah hd hQ;refine wp_seq (h E V a _ ah hd λae e E' V' a' s' cw hk aQ cr he hΦ=> ?_);cases ae<;>cases e<;>first
  |exact he.elim
  |exact hΦ E' V' a' Q aQ cr λae e bO aR b8 c9 Cx aI cX yQ jN sD=>hQ ae e bO aR b8 c9 Cx (hk.trans aI) cX yQ jN sD
  |exact hQ _ _ E' V' a' s' cw hk aQ cr he hΦ
theorem rN{x y:T9}{Φ:am->AS->List Nat->Prop}(h:aU lv P none nt x s (am.then (λs'=>jT lv P nt bs y s' ms Φ) λe s'=>Φ e s' ms)):jT lv P nt bs (.seq x y) s ms Φ:=by
 refine DL (DK (h.mono λe s' hs=> ?_));cases e<;>exact hs
theorem ww{id:Nat}{c:T9}{Φ:am->AS->List Nat->Prop}(h:jT lv P nt bs c s ms (am.o6 id Φ)):jT lv P nt bs (.block id c) s ms Φ:=by
 intro E V a Q ah hd hQ;refine wp_block (h E V a _ ah hd λae e E' V' a' s' cw hk aQ cr he hΦ=> ?_);cases ae<;>cases e<;>first
  |exact he.elim
  |skip
 ·exact hQ .normal .normal E' V' a' s' cw hk aQ cr trivial hΦ
 ·rename_i i j;have e:i=j:=he;subst e;by_cases bY:i=id
  ·simp only[Ex.inBlock,bY,if_true];simp only[am.o6,bY,if_true]at hΦ;exact hQ .normal _ E' V' a' s' cw hk aQ cr trivial hΦ
  ·simp only[Ex.inBlock,bY,if_false];simp only[am.o6,bY,if_false]at hΦ;exact hQ (.exit i) _ E' V' a' s' cw hk aQ cr rfl hΦ
 ·exact hQ _ _ E' V' a' s' cw hk aQ cr he hΦ
 ·exact hQ _ _ E' V' a' s' cw hk aQ cr he hΦ
 ·exact hQ _ _ E' V' a' s' cw hk aQ cr he hΦ
theorem NW{α:Type}{lt:α->α->Prop}(wf:WellFounded lt){c:T9}{Φ:am->AS->List Nat->Prop}(inv:α->AS)(mk:α->List Nat)(ok:α->Prop)(m:α)(h0:s.Sub (inv m))(tS:ms=mk m)(hm:ok m)
  (h:∀m,ok m->jT lv P nt bs c (inv m) (mk m) (am.rn (λs' cw=>∃m',lt m' m/\ok m'/\s'.Sub (inv m')/\cw=mk m') Φ)):jT lv P nt bs (.loop c) s ms Φ:=by
 subst tS;intro E V a Q ah hd hQ;refine M7 wf (I:=λm a' V'=>ok m/\∃E',p9 E E' V V' a a'/\At E' V' (inv m) a' nt/\sV E' (mk m) bs a'.defers) m ⟨hm,E,(Kept.refl E V a).d,ah.sub h0,hd⟩ λm a' V' hI=> ?_;obtain⟨ay,E',hk,aQ,cr⟩:=hI;refine h m ay E' V' a' _ aQ cr λae e bO aR b8 c9 Cx aI cX yQ he hΦ=> ?_;cases ae<;>cases e<;>first
  |exact he.elim
  |(obtain⟨m',h1,h2,h3,rfl⟩:=hΦ
    exact⟨m',h1,h2,bO,hk.trans aI,cX.sub h3,yQ⟩)
  |exact hQ _ _ bO aR b8 c9 Cx (hk.trans aI) cX yQ he hΦ
theorem ae2{f:Tg}{ps:Array Tmp}{bI body:T9}{fv:AV}{Φ:am->AS->List Nat->Prop}(hf:s.ev f=some fv)
  (h:∀l fn:Nat,iG lv P fv (s.H++[.obj (.deferred (some [])),.loop l .ready none fn s.T nt ps bI body s.H.length]) [.fn (.yield l) [] []]
   (λ_ H'=>∃st pe fi T' iT fY fM eZ fN,H'[s.H.length+1]?=some (.loop l st pe fi T' iT fY fM eZ fN)/\st≠ .busy/\rH Φ ⟨s.T,H'.set (s.H.length+1) .gone⟩ (s.H.length::ms) pe)
   (λpv H'=>Φ (.panic pv) ⟨s.T,H'⟩ (s.H.length::ms))):jT lv P nt bs (.rangeFunc f ps bI body) s ms Φ:=by
 intro E V a Q ah hm hQ;refine acY λfn d l hd hl=> ?_;have hc:=ah.br;have da:Conc (E.add d V.ab) (V.upd d (.deferred (some []))) (s.H++[.obj (.deferred (some []))]):=by
  refine hc.add hd _ ⟨?_,rfl,rfl,λo=> ?_⟩ (λb e=> ?_)
  ·rw[Env.dB];simp[View.upd]
  ·rw[Env.dB];exact hd.2 o
  ·simp only[bJ,Env.dB,Tl]at e;exact e.symm
 have BO:E.Le (E.add d V.ab):=E.pK d (λb o v h=>by rw[<- hc.I];exact h);have Bx:(E.add d V.ab).blk s.H.length=d:=by rw[<- hc.n];exact E.dB d _
 let E1:=E.add d V.ab;let V1:=V.upd d (.deferred (some []));have oG:E1.n=s.H.length+1:=by rw[da.n];simp
 have pw:E1.Le (E1.add l V1.ab):=E1.pK l (λb o v h=>by rw[<- da.I];exact h);have cN:Conc (E1.add l V1.ab) (V1.upd l (.loop {state:=.ready,pending:=none,fn,tmps:=a.tmps,params:=ps,assign:=bI,body,defers:=d})) ((s.H++[.obj (.deferred (some []))])++[.loop l .ready none fn s.T nt ps bI body s.H.length]):=by
  refine da.add hl _ ⟨⟨a.tmps,?_,ah.size,(ah.tok.mono BO).mono pw⟩,?_,λo=> ?_,?_⟩ (λb e=> ?_)
  ·have e:(E1.add l V1.ab).blk s.H.length=d:=(by rw[pw.blk s.H.length (by rw[oG];omega)];exact Bx);rw[e,Env.dB];simp[View.upd]
  ·show s.H.length<E1.n+1;omega
  ·rw[Env.dB];exact hl.2 o
  ·exact Env.dB _ _ _
  ·simp only[bJ,Env.dB,Tl]at e;exact e.symm
 have hle:E.Le (E1.add l V1.ab):=BO.trans pw;have Jk:(E1.add l V1.ab).blk s.H.length=d:=by rw[pw.blk s.H.length (by rw[oG];omega)];exact Bx
 rw[SD]at cN;have qG:∀E',(E1.add l V1.ab).Le E'->sV E' (s.H.length::ms) bs (mark a d).defers:=λE' hE=>by
  refine sV.mono hE ⟨?_,λi hi=> ?_⟩
  ·have:=(hm.mono hle).1;simp only[mark,UU,Jk,VA];rw[<- this]
  ·rcases SL.1 hi with rfl|hi
   ·show _<E1.n+1;omega
   ·exact Tc (hm.2 i hi) hle.n
 have bw:=ap.ev ah.tok hf;have Bz:=h l fn (E1.add l V1.ab) (V1.upd l (.loop {state:=.ready,pending:=none,fn,tmps:=a.tmps,params:=ps,assign:=bI,body,defers:=d})) (a.eval f) #[.func (.yield l) #[] #[]] cN (bw.mono hle) ⟨rfl,λi x hx=>by
  match i,hx with
  |0,hx=>cases hx;exact .fn rfl rfl (by simp) (by simp)⟩
 have key:∀o V',gz (E1.add l V1.ab) (V1.upd l (.loop {state:=.ready,pending:=none,fn,tmps:=a.tmps,params:=ps,assign:=bI,body,defers:=d}))
   (λ_ H'=>∃st pe fi T' iT fY fM eZ fN,H'[s.H.length+1]?=some (.loop l st pe fi T' iT fY fM eZ fN)/\st≠ .busy/\rH Φ ⟨s.T,H'.set (s.H.length+1) .gone⟩ (s.H.length::ms) pe)
   (λpv H'=>Φ (.panic pv) ⟨s.T,H'⟩ (s.H.length::ms)) o V'->Dr l d Q a o V':=by
  intro o V' hr;cases o with
  |ret v=>
   obtain⟨av,E',H',hE,bX,eK,_,bf,st,pe,fi,T',iT,fY,fM,eZ,fN,bY,aP,hp⟩:=hr;obtain⟨du,mT,pU,aY,KC,r6,zg⟩:=bf.xN bY;refine⟨_,aY,mT,aP,?_⟩;have hg:Conc E' (V'.upd l (.loop {state:=.exhausted,pending:=pe,fn:=fi,tmps:=pU,params:=fY,assign:=fM,body:=eZ,defers:=E'.blk fN})) (H'.set (s.H.length+1) .gone):=bf.CO _ bY _ (by simp only[bJ,du]);have aQ:At E' (V'.upd l (.loop {state:=.exhausted,pending:=pe,fn:=fi,tmps:=pU,params:=fY,assign:=fM,body:=eZ,defers:=E'.blk fN})) ⟨s.T,H'.set (s.H.length+1) .gone⟩ (mark a d) nt:=⟨hg,ah.tok.mono (hle.trans hE),ah.size⟩;have ec:p9 E E' V (V'.upd l (.loop {state:=.exhausted,pending:=pe,fn:=fi,tmps:=pU,params:=fY,assign:=fM,body:=eZ,defers:=E'.blk fN})) a (mark a d):=⟨hle.trans hE,rfl,bX,eK⟩;dsimp only
   match pe,hp,aQ,ec with
   |none,hp,aQ,ec=>exact hQ .normal .normal E' _ _ _ _ ec aQ (qG E' hE) trivial hp
   |some .ret,hp,aQ,ec=>exact hQ .ret .ret E' _ _ _ _ ec aQ (qG E' hE) trivial hp
   |some (.exit i),hp,aQ,ec=>exact hQ (.exit i) (.exit i) E' _ _ _ _ ec aQ (qG E' hE) rfl hp
   |some (.goto i),hp,aQ,ec=>exact hQ (.goto i) (.goto i) E' _ _ _ _ ec aQ (qG E' hE) rfl hp
  |panic ch=>
   obtain⟨pv,v,E',H',rfl,hE,bX,eK,bi,bf,hp⟩:=hr;exact hQ (.panic pv) (.panic _) E' V' (mark a d) ⟨s.T,H'⟩ _ ⟨hle.trans hE,rfl,bX,eK⟩ ⟨bf,ah.tok.mono (hle.trans hE),ah.size⟩ (qG E' hE) ⟨v,rfl,bi⟩ hp
 exact Bz.mono (λnx V' hn=>Nx.mono key hn) (λv V' hr=>key _ _ hr)
@[congr] theorem asf {c : T9} {s s' : AS} {ms cw : List Nat} {Φ : am -> AS -> List Nat -> Prop} (h : s = s') (hd : ms = cw) : jT lv P nt bs c s ms Φ = jT lv P nt bs c s' cw Φ := by rw [h, hd]
def s8 (lv:Bool)(P:SJ)(fn:YF)(R:Out->View->Prop):List UV->U5->Array SO->View->Prop
 |[],.returning,tmps,V=>∃v,aO P V (results fn tmps) (λx V'=>x=v/\V'=V) (λ_ _=>False)/\R (.ret v) V
 |[],.panicking ch,_,V=>R (.panic ch) V
 |d::ds,md,tmps,V=>(md matches .run)=false/\((∃b,d={target:=.collected b,args:=#[]}/\V.own b=some (.deferred (some []))/\V.role.chan≠some b/\s8 lv P fn R ds md tmps (V.upd b (.deferred none)))\/
   ((∃f cM,d.target=.fn f cM)/\aO P V (invoke d.target d.args) (λnx V'=>∃g args,nx=.enter g args/\xT lv P g args md V' λnh aR=>s8 lv P fn R ds nh tmps aR) (λ_ _=>False)))
 |[],.run,_,_=>False
theorem C3{f:TO}{fn:YF}{kd:Xe}{R:Out->View->Prop}(hf:P.funcs[f]?=some fn){main:Bool}{J:View->SH->Prop}(C:Closed lv P main J){cs:List Ua}(hR:∀o V' A9,R o V'->Leaves P A9 f kd o V'->J V' (G A9 cs)):∀(ds:List UV)(md:U5)(V:View)(fr:Ua),fr.fn=f->fr.kind=kd->fr.mode=md->fr.defers=ds->s8 lv P fn R ds md fr.tmps V->J V (G fr cs)
 |[],.returning,V,fr,h1,h2,h3,h4,h=>by
  obtain⟨v,hs,hr⟩:=h;exact hR _ _ _ hr ⟨h1,h4,h2,fn,hf,h3,hs⟩
 |[],.panicking ch,V,fr,h1,h2,h3,h4,h=>hR _ _ _ h ⟨h1,h4,h2,fn,hf,h3⟩
 |[],.run,_,_,_,_,_,_,h=>h.elim
 |d::ds,md,V,fr,h1,h2,h3,h4,h=>by
  obtain⟨hm,⟨b,rfl,ho,eJ,hu⟩|⟨⟨tf,cM,ht⟩,hs⟩⟩:=h
  ·refine C.step _ _ rfl λw hw=> ?_;obtain⟨es,w',V',k1,k2,k3⟩:=(MA (P:=P) ho eJ).runs hw;rcases k3 with⟨x,k3,rfl,rfl⟩|⟨_,_,hx⟩
   ·refine⟨G {fr with defers:=ds} cs,w',seen P fr.fn es,_,?_,k1.seen P fr.fn,?_⟩
    ·have e:∀main,stepG P main (G fr cs) w=unwind P main fr cs none w:=λmain=>by
      cases md with
      |run=>cases hm
      |returning=>simp[G,stepG,h3]
      |panicking ch=>simp[G,stepG,h3]
     rw[e];simp only[unwind,h4];simp[TC,k3,k2,T1,G]
    ·exact C3 hf C hR ds md _ {fr with defers:=ds} h1 h2 h3 rfl hu
   ·exact hx.elim
  ·refine C.step _ _ rfl λw hw=> ?_;obtain⟨es,w',V',k1,k2,k3⟩:=hs.runs hw;rcases k3 with⟨nx,k3,g,args,rfl,hd⟩|⟨_,_,h⟩
   ·refine⟨G (Frame.enter P g args .deferred) ({fr with defers:=ds}::cs),w',seen P fr.fn es,V',?_,k1.seen P fr.fn,?_⟩
    ·have e:∀main,stepG P main (G fr cs) w=unwind P main fr cs none w:=λmain=>by
      cases md with
      |run=>cases hm
      |returning=>simp[G,stepG,h3]
      |panicking ch=>simp[G,stepG,h3]
     rw[e];obtain⟨tgt,ar⟩:=d;simp only at ht k3 k2;subst ht;simp only[unwind,h4];simp[callDeferred,TC,k3,k2,T1,G]
    ·refine hd main J C {fr with defers:=ds} cs h3 λnh aR hU=> ?_;exact C3 hf C hR ds nh aR {fr with defers:=ds,mode:=nh} h1 h2 rfl rfl hU
   ·exact h.elim
def ac9 (lv:Bool)(P:SJ)(fn:YF)(R:Out->View->Prop):Ex->Act->View->Prop
 |.normal,a,V|.ret,a,V=>s8 lv P fn R a.defers .returning a.tmps V
 |.panic ch,a,V=>s8 lv P fn R a.defers (.panicking ch) a.tmps V
 |_,_,_=>False
theorem afz{f:TO}{fn:YF}{c:T9}{args:Array SO}{kd:Xe}{V:View}{R:Out->View->Prop}(hk:kd≠ .early)(hf:P.funcs[f]?=some fn)(hb:fn.body=some c)
  (h:WP lv P none c (ac9 lv P fn R) {tmps:=args++TK (fn.ntmps-args.size) undef,defers:=[]} V):Body lv P f args kd V R:=by
 intro main J C cs hR;let b:Ua:={(default:Ua)with fn:=f,kind:=kd,roundOf:=none};have tM:Frame.enter P f args kd=on b {tmps:=args++TK (fn.ntmps-args.size) undef,defers:=[]} [.code c]:=by
  simp[Frame.enter,on,hf,hb,b]
 rw[tM];refine h main J C b [] cs hk rfl λe a' V' q=> ?_;cases e with
 |normal=>exact C.idle rfl (λw=>CK rfl) (C3 hf C hR _ _ _ _ rfl rfl rfl rfl q)
 |ret=>intro k;exact C.idle rfl (λw=>CL rfl) (C3 hf C hR _ _ _ _ rfl rfl rfl rfl q)
 |panic ch=>intro todo _;exact C3 hf C hR _ _ _ _ rfl rfl rfl rfl q
 |exit id=>exact q.elim
 |goto l=>exact q.elim
theorem acP{fn:YF}{R:Out->View->Prop}{tmps:Array SO}{md:U5}(hm:(md matches .run)=false):∀(ms:List Nat)(H H':List aa)(E:Env)(V:View)(l:List UV),ii ms H=some H'->Conc E V H->sV E ms bs l->(∀V',V'.role=V.role->V'.deaf=V.deaf->Conc E V' H'->s8 lv P fn R bs md tmps V')->s8 lv P fn R l md tmps V
 |[],H,H',E,V,l,hg,hc,qH,hk=>by
  rw[ii]at hg;cases hg;have:l=bs:=qH.1;subst this;exact hk V rfl rfl hc
 |i::ms,H,H',E,V,l,hg,hc,qH,hk=>by
  simp only[ii]at hg;split at hg
  ·rename_i hi;obtain⟨e,hlt⟩:=qH;simp only[UU,VA]at e;subst e;obtain⟨p1,p2,p3,p4⟩:=hc.obj i _ hi;exact⟨hm,.inl ⟨_,rfl,p1,(hc.iS hi rfl).2,acP hm ms _ H' E _ _ hg (hc.CO _ hi _ rfl) ⟨rfl,λj hj=>hlt j (by simp[hj])⟩ λV' h1 h2 h3=>hk V' h1 h2 h3⟩⟩
  ·cases hg
def xZ (lv:Bool)(P:SJ)(rs:List UL)(n:Nat)(c:AV×List AV)(k kp:AV->List aa->Prop):am->AS->List Nat->Prop
 |.normal,s,ms|.ret,s,ms=>ao (ii ms s.H) λH'=>pZ lv P c H' none (λH'=>ao (gG P ⟨s.T,H'⟩ rs) λl=>cy n H' (iD l) k) (λ_=>False)
 |.panic pv,s,ms=>ao (ii ms s.H) λH'=>pZ lv P c H' (some pv) (λH'=>ao (gG P ⟨s.T,H'⟩ rs) λl=>cy n H' (iD l) k) (λH'=>cy n H' pv kp)
 |_,_,_=>False
end
end Go.Gg
namespace Go.Gg.Tk
structure i_ where
 min:Int
 max:Int
 deriving DecidableEq
structure aG where
 number:i_
 hour:i_
 deriving DecidableEq
structure Seen where
 hour:Int
 next:i_
 deriving DecidableEq
structure ak where
 first:Int
 hours:Int
 an:Int
 seen:List Seen
 pieces:List aG
 aB:List aG
 deriving DecidableEq
def j8 (b:i_)(n:Int):Bool:=decide (b.min<=n)&&decide (n<=b.max)
def fg:Nat->List Int->Int->Int
 |i,a::b::l,n=>if a<=n/\n<b then i else fg (i+1) (b::l) n
 |_,_,_=> -1
def iW (h:List Int)(n:Int):Int:=fg 0 h n
def fits (h:List Int)(y:aG)(n:Int):Bool:=decide (0<=iW h n)&&j8 y.number n&&j8 y.hour (iW h n)
def rh (x:ak)(hour:Nat)(n:Int):Bool:=x.seen.all λs=> !decide (s.hour=hour)||j8 s.next n
def jZ (x:ak):Nat->List Int->List (List Int)
 |0,pre=>if rh x (pre.length-1) (pre.getLastD 0)then[pre]else[]
 |d+1,pre=>if rh x (pre.length-1) (pre.getLastD 0)then(SV (x.an.toNat+1)).flatMap λn:Nat=>jZ x d (pre++[pre.getLastD 0+(n:Int)])else[]
def aK (x:ak):List (List Int):=jZ x x.hours.toNat [x.first]
def vw (x:ak)(t:Nat):List (List Int):=if rh x 0 x.first then jZ x (x.hours.toNat-1) [x.first,x.first+t]else[]
def F2 (h:List Int):List Int:=(SV (h.getLastD 0-h.headD 0).toNat).map λi:Nat=>h.headD 0+i
def mv (h:List Int):List aG->List Int->List (List Int)
 |[],t=>[t]
 |y::ys,t=>((F2 h).filter λn=>fits h y n&& !t.contains n).flatMap λn=>mv h ys (t++[n])
def oT (h:List Int)(ns:List Int):List aG->List Nat->List (List Nat)
 |[],t=>[t]
 |s::ss,t=>((SV ns.length).filter λp=>fits h s (ns.getD p 0)&& !t.contains p).flatMap λp=>oT h ns ss (t++[p])
structure Tr where
 bB:List Int
 aA:List Int
 bK:List Nat
 deriving DecidableEq
def C1 (x:ak)(h ns:List Int):List Tr:=(oT h ns x.aB []).map λos=>⟨h,ns,os⟩
def n5 (x:ak)(h:List Int):List Tr:=(mv h x.pieces []).flatMap (C1 x h)
def bG (x:ak):List Tr:=(aK x).flatMap (n5 x)
def uy (x:ak)(h:List Int):List Tr:=(mv h x.pieces []).flatMap λns=>(C1 x h ns).take 1
def rq (x:ak)(deep:Int)(h:List Int):List Tr:=if deep=0 then(uy x h).take 1 else if deep=1 then uy x h else n5 x h
def GV (x:ak)(deep:Int)(t:Nat):List Tr:=(vw x t).flatMap (rq x deep)
theorem acF{i:Nat}:∀{h:List Int}{n:Int},fg i h n<i+h.length:=by
 intro h;induction h generalizing i with
 |nil=>intro n;simp[fg];omega
 |cons a h ih=>
  intro n;cases h with
  |nil=>simp[fg];omega
  |cons b l=>
   simp only[fg];split
   ·simp;omega
   ·have:=ih (i:=i+1) (n:=n);simp at this⊢;omega
theorem MR{i k:Nat}{z:Int}:∀{h:List Int}{n:Int},h.getLastD z=z->h≠[]->fg i (h++TM k z) n=fg i h n:=by
 intro h;induction h generalizing i with
 |nil=>intro n _ h;exact absurd rfl h
 |cons a h ih=>
  intro n hz _;cases h with
  |nil=>
   simp only[Zs,List.getLastD_nil]at hz;subst hz;have:∀(k i:Nat),fg i ([a]++TM k a) n= -1:=by
    intro k;induction k with
    |zero=>intro i;simp[fg]
    |succ k ihk=>
     intro i;rw[Wu,Y3];simp only[fg];rw[if_neg (by omega)];exact ihk (i+1)
   rw[this];simp[fg]
  |cons b l=>
   have:=ih (i:=i+1) (n:=n) (by simpa using hz) (by simp);simp only[VA,fg]at this⊢;rw[this]
end Go.Gg.Tk
namespace Go.Gg.Tk
inductive dt (S:Type)where
 |go (s:S)
 |stop (s:S)
 |bad (s:S)
def bz {S α:Type}(f:S->α->dt S):List α->S->dt S
 |[],s=> .go s
 |a::l,s=>match f s a with
  |.go s'=>bz f l s'
  |r=>r
theorem pO{S α:Type}(f:S->α->dt S):∀(l m:List α)(s:S),bz f (l++m) s=match bz f l s with
  |.go s'=>bz f m s'
  |r=>r
 |[],m,s=>rfl
 |a::l,m,s=>by
  simp only[VA,bz];cases f s a with
  |go s'=>exact pO f l m s'
  |stop s'=>rfl
  |bad s'=>rfl
theorem Mt{S α:Type}(f:S->α->dt S)(a:α)(s:S):bz f [a] s=f s a:=by
 simp only[bz];cases f s a<;>rfl
theorem CJ{S α:Type}{f:S->α->dt S}{g:S->α->S}(h:∀s a,f s a=.go (g s a)):∀(l:List α)(s:S),bz f l s=.go (l.foldl g s)
 |[],s=>rfl
 |a::l,s=>by simp only[bz,h,UW];exact CJ h l _
theorem zM{S α:Type}{f:S->α->dt S}{I:S->Prop}{A:α->Prop}(h:∀s a s',I s->A a->f s a=.go s'->I s'):∀(l:List α)(s s':S),(∀a∈l,A a)->I s->bz f l s=.go s'->I s'
 |[],s,s',_,hs,e=>by cases e;exact hs
 |a::l,s,s',ha,hs,e=>by
  simp only[bz]at e;cases hf:f s a with
  |go s1=>rw[hf]at e;exact zM h l s1 s' (λb hb=>ha b (by simp[hb])) (h s a s1 hs (ha a (by simp)) hf) e
  |stop s1=>rw[hf]at e;cases e
  |bad s1=>rw[hf]at e;cases e
def cH (h:List Int):List Int:=h++TM (4-h.length) (h.getLastD 0)
def ml (x:ak)(bc:Nat):Nat->List Int->List (List Int)
 |0,pre=>if rh x (pre.length-1) (pre.getLastD 0)then[cH pre]else[]
 |d+1,pre=>if rh x (pre.length-1) (pre.getLastD 0)then(SV (x.an.toNat+1)).flatMap λn:Nat=>if pre.length=1/\n≠bc then[]else ml x bc d (pre++[pre.getLastD 0+(n:Int)])else[]
def j3 (x:ak)(bc:Nat):List (List Int):=ml x bc x.hours.toNat [x.first]
def kT (h:List Int)(y:aG)(n:Nat):Bool:=decide (h.getD 0 0+n<h.getD 3 0)&&j8 y.number (h.getD 0 0+n)&&j8 y.hour (iW h (h.getD 0 0+n))
def jd (p:Nat->Bool):Nat->Nat
 |0=>0
 |n+1=>if p n then jd p n|||2^n else jd p n
theorem AT{p:Nat->Bool}:∀{n i:Nat},(jd p n).testBit i=(decide (i<n)&&p i)
 |0,i=>by simp[jd]
 |n+1,i=>by
  have ih:=AT (p:=p) (n:=n) (i:=i);simp only[jd];by_cases hp:p n=true
  ·rw[if_pos hp,Xo,ih,VO];by_cases hi:n=i
   ·subst hi;simp[hp]
   ·have:(i<n+1)<->i<n:=(by omega);simp[hi,this]
  ·rw[if_neg hp,ih];by_cases hi:i=n
   ·subst hi;simp at hp;simp[hp]
   ·have:(i<n+1)<->i<n:=(by omega);simp[this]
theorem DM{p:Nat->Bool}:∀{n:Nat},jd p n<2^n
 |0=>by simp[jd]
 |n+1=>by
  have ih:=DM (p:=p) (n:=n);have h1:2^n<2^(n+1):=Xa (by omega) (by omega);simp only[jd];split
  ·exact WL (Wn ih h1) h1
  ·exact Wn ih h1
def bW (h:List Int)(y:aG):Nat:=jd (kT h y) 9
def j_:List Nat->Nat->List Nat->List (List Nat)
 |[],_,t=>[t]
 |q::qs,used,t=>(SV 9).flatMap λn=>if used.testBit n|| !q.testBit n then[]else j_ qs (used|||2^n) (t++[n])
def lW (k:Nat)(ns:List Nat):List Nat->Nat->List Nat->List (List Nat)
 |[],_,o=>[o]
 |q::qs,given,o=>(SV k).flatMap λp=>if given.testBit p|| !q.testBit (ns.getD p 0)then[]else lW k ns qs (given|||2^p) (o++[p])
def kL (k:Nat)(l:List Nat):List Int:=l.map (λn:Nat=>(n:Int))++TM (k-l.length) (-1)
def dM (h:List Int)(ns:List Nat):List Int:=h++kL 4 ns++[-1, -1, -1]
def dp (h:List Int)(ns os:List Nat):List Int:=h++kL 4 ns++kL 3 os
def fJ (x:ak)(h:List Int):List (List Nat):=j_ (x.pieces.map (bW h)) 0 []
def gS (x:ak)(h:List Int)(ns:List Nat):List (List Nat):=lW x.pieces.length ns (x.aB.map (bW h)) 0 []
def iX (x:ak)(deep:Int)(h:List Int):List (List Int):=
 let all:=(fJ x h).map λns=>(gS x h ns).map λos=>dp h ns os
 if deep=0 then all.flatten.take 1 else if deep=1 then(all.map (·.take 1)).flatten else all.flatten
end Go.Gg.Tk
namespace Go.Gg.Tk
structure Kn where
 has:Bool
 aK:List (List Int)
 aA:List Nat
 hours:List Nat
 less:List Nat
 aS:List Nat
 first:List Int
def Kn.zero:Kn:=⟨false,[],[0,0,0,0],[0,0,0,0],[0,0,0,0],[0,0,0],TM 11 0⟩
def oh (l:List Nat)(p n:Nat):List Nat:=l.set p (l.getD p 0|||2^n)
def jn (hs:List (List Int))(h:List Int):List (List Int):=if h∈hs then hs else hs++[h]
def lY (t:List Int)(p:Nat):Nat:=(t.getD (4+p) 0).toNat
def CV (t:List Int)(p:Nat):Nat:=(iW (t.take 4) (t.getD (4+p) 0+t.getD 0 0)).toNat
def rk (t:List Int)(s:Nat):Nat:=(t.getD (8+s) 0).toNat
def ju (F:Kn)(t:List Int):Kn:=if F.has then F else{F with has:=true,first:=t}
def mw (t:List Int):Nat->List Nat->List Nat
 |0,l=>l
 |s+1,l=>oh (mw t s l) s (rk t s)
def qZ (t:List Int):Nat->List Nat->List Nat
 |0,l=>l
 |p+1,l=>oh (qZ t p l) p (lY t p)
def vE (t:List Int):Nat->List Nat->List Nat
 |0,l=>l
 |p+1,l=>oh (vE t p l) p (CV t p)
def vK (t:List Int)(p:Nat):Nat->List Nat->List Nat
 |0,l=>l
 |q+1,l=>if t.getD (4+p) 0<t.getD (4+q) 0 then oh (vK t p q l) p q else vK t p q l
def xw (t:List Int)(k:Nat):Nat->List Nat->List Nat
 |0,l=>l
 |p+1,l=>vK t p k (xw t k p l)
def ej (x:ak)(deep:Int)(F:Kn)(t:List Int):Kn:=
 let F:=ju F t
 if deep=2 then{F with aS:=mw t x.aB.length F.aS}
 else if deep=0 then{F with aK:=jn F.aK (t.take 4)}
 else{F with aA:=qZ t x.pieces.length F.aA,hours:=vE t x.pieces.length F.hours,less:=xw t x.pieces.length x.pieces.length F.less}
def gq (x:ak)(deep:Int)(bc:Nat):Kn:=((j3 x bc).flatMap (iX x deep)).foldl (ej x deep) Kn.zero
def lr (l m:List Nat):List Nat:=(List.zipWith (·|||·) l m)
end Go.Gg.Tk
namespace Go.Gg
open Go.Conc Go.Gg.Tk
theorem GX{n:Nat}(h:n<65536):S6.wrap (n:Int)=n:=by
 have h1:S6.bits=16:=rfl;have h2:S6.signed=false:=rfl;unfold Xc;rw[h1,h2];simp;omega
theorem AY{n:Nat}(h:n<65536):(Uf S6.bits (n:Int)).toNat=n:=by
 have h1:S6.bits=16:=rfl;rw[h1,BitVec.ofInt_natCast,BitVec.toNat_ofNat];omega
theorem ai4{m n:Nat}(hm:m<65536):(S6.wrap (Uf S6.bits ((m:Int).fdiv (2^(min n S6.bits)))&&&Uf S6.bits 1).toNat==1)=m.testBit n:=by
 have h1:S6.bits=16:=rfl;have e:(m:Int).fdiv (2^(min n S6.bits))=((m/2^(min n 16):Nat):Int):=by
  rw[h1,Int.fdiv_eq_ediv_of_nonneg _ (by exact_mod_cast Yd _)];norm_cast
 have hlt:m/2^(min n 16)<65536:=Zi (Nat.div_le_self _ _) hm;rw[e,BitVec.toNat_and,AY hlt,show (Uf S6.bits 1).toNat=1 from rfl,GX (Zi Nat.and_le_left hlt)];have hb:m/2^(min n 16)&&&1=(m/2^(min n 16)) % 2:=Nat.and_one_is_mod _;rw[hb];have ht:m.testBit n=decide (m/2^n % 2=1):=Nat.testBit_eq_decide_div_mod_eq;by_cases hn:n<=16
 ·rw[Ww hn,ht];by_cases h:m/2^n % 2=1
  ·simp[h]
  ·have:m/2^n % 2=0:=(by omega);simp[this]
 ·rw[Nat.min_eq_right (by omega)];have h0:m/2^16=0:=Nat.div_eq_of_lt (by omega);have h2:m.testBit n=false:=Nat.testBit_lt_two_pow (Tc hm (by calc 65536=2^16:=rfl
   _<=2^n:=Xp (by omega) (by omega)))
  rw[h0,h2];rfl
theorem ark{m n:Nat}(hm:m<65536)(hn:n<16):S6.wrap (Uf S6.bits (m:Int)|||Uf S6.bits (S6.wrap (1* 2^(min n S6.bits)))).toNat=((m|||2^n:Nat):Int):=by
 have h1:S6.bits=16:=rfl;have hp:2^n<65536:=by calc 2^n<2^16:=Xa (by omega) hn
  _=65536:=rfl
 have e:S6.wrap (1* 2^(min n S6.bits))=((2^n:Nat):Int):=by
  rw[h1,Ww (by omega),Int.one_mul,<- GX hp];norm_cast
 rw[e,Zq,AY hm,AY hp];exact GX (WL (n:=16) hm hp)
theorem Gb{m n:Nat}(hm:m<65536)(hn:n<65536):S6.wrap (Uf S6.bits (m:Int)|||Uf S6.bits (n:Int)).toNat=((m|||n:Nat):Int):=by
 rw[Zq,AY hm,AY hn];exact GX (WL (n:=16) hm hn)
theorem oS{m n:Nat}(hm:m<65536)(hn:n<65536):m|||n<65536:=WL (n:=16) hm hn
theorem v5{n:Nat}(hn:n<16):2^n<65536:=by calc 2^n<2^16:=Xa (by omega) hn
  _=65536:=rfl
abbrev wv (m:Nat):AV:=.val (.int .u16 m)
def cP {S:Type}(Gf:S->List aa)(pv:AV)(k kp:AV->List aa->Prop)(M:List aa):dt S->Prop
 |.go s=>k (.val (.bool true)) (Gf s++M)
 |.stop s=>k (.val (.bool false)) (Gf s++M)
 |.bad s=>kp pv (Gf s++M)
def fL {S:Type}(Gf:S->List aa)(pv:AV)(k kp:AV->List aa->Prop)(M:List aa):dt S->Prop
 |.go s=>k (.aJ []) (Gf s++M)
 |.stop s=>k (.aJ []) (Gf s++M)
 |.bad s=>kp pv (Gf s++M)
structure jr (lv:Bool)(P:SJ)(yv:AV){S:Type}(f:S->List Int->dt S)(Gf:S->List aa)(N:Nat)(I:S->Prop)(A:List Int->Prop)(pv:AV):Prop where
 call:∀(σ:S)(a:List Int)(M:List aa)(k kp:AV->List aa->Prop),I σ->A a->cP Gf pv k kp M (f σ a)->iG lv P yv (Gf σ++M) [.agg (a.map λn=> .val (.int .i64 n))] k kp
 inv:∀σ a σ',I σ->A a->f σ a=.go σ'->I σ'
 len:∀σ,(Gf σ).length=N
 ok:∀m σ σ',(∀z∈Gf σ,eR m z)->∀z∈Gf σ',eR m z
 sure:yv.sure=true
 parts:yv.parts=some [yv]
 leaf:yv.leaf=true
theorem jr.get{lv:Bool}{P:SJ}{yv:AV}{S:Type}{f:S->List Int->dt S}{Gf:S->List aa}{N:Nat}{I:S->Prop}{A:List Int->Prop}{pv:AV}(h:jr lv P yv f Gf N I A pv)(σ:S)(L:List aa)(i:Nat):(Gf σ++L)[N+i]?=L[i]?:=by
 rw[<- h.len σ,Tj (by omega)];congr 1;omega
theorem jr.set{lv:Bool}{P:SJ}{yv:AV}{S:Type}{f:S->List Int->dt S}{Gf:S->List aa}{N:Nat}{I:S->Prop}{A:List Int->Prop}{pv:AV}(h:jr lv P yv f Gf N I A pv)(σ:S)(L:List aa)(i:Nat)(x:aa):(Gf σ++L).set (N+i) x=Gf σ++L.set i x:=by
 rw[<- h.len σ,UN _ _ (by omega)];congr 2;omega
theorem jr.ay{lv:Bool}{P:SJ}{yv:AV}{S:Type}{f:S->List Int->dt S}{Gf:S->List aa}{N:Nat}{I:S->Prop}{A:List Int->Prop}{pv:AV}(h:jr lv P yv f Gf N I A pv){σ:S}{M:List aa}(hH:bM (Gf σ++M))(σ':S):bM (Gf σ'++M):=λz hz=>by
 have hl:(Gf σ'++M).length=(Gf σ++M).length:=by simp[h.len]
 rw[hl];rcases SS.1 hz with h'|h'
 ·exact h.ok _ σ σ' (λw hw=>hH w (Te _ hw)) z h'
 ·exact hH z (S4 _ h')
def rF (l:Nat)(S:Nat->AS)(ok:Nat->Prop)(m:Nat)(Φ:am->AS->Prop):am->AS->Prop
 |.goto l',s=>l'=l/\∃m',m'<m/\ok m'/\s.Sub (S m')
 |e,s=>Φ e s
section
variable {lv:Bool}{P:SJ}{r:Option Nat}{s:AS}
end
theorem al6(l:Nat)(S:Nat->AS)(ok:Nat->Prop)(m:Nat)(Φ:am->AS->Prop)(s:AS):rF l S ok m Φ .normal s=Φ .normal s:=by rw[rF];simp
theorem al8(l:Nat)(S:Nat->AS)(ok:Nat->Prop)(m:Nat)(Φ:am->AS->Prop)(s:AS):rF l S ok m Φ .ret s=Φ .ret s:=by rw[rF];simp
theorem al5(l:Nat)(S:Nat->AS)(ok:Nat->Prop)(m:Nat)(Φ:am->AS->Prop)(i:Nat)(s:AS):rF l S ok m Φ (.exit i) s=Φ (.exit i) s:=by rw[rF];simp
theorem al7(l:Nat)(S:Nat->AS)(ok:Nat->Prop)(m:Nat)(Φ:am->AS->Prop)(a:AV)(s:AS):rF l S ok m Φ (.panic a) s=Φ (.panic a) s:=by rw[rF];simp
@[congr] theorem asT {l m : Nat} {S : Nat -> AS} {ok : Nat -> Prop} {s s' : AS} {Φ : am -> AS -> Prop} {e e' : am} (he : e = e') (h : s = s') : rF l S ok m Φ e s = rF l S ok m Φ e' s' := by rw [he, h]
attribute [seval] al6 al8 al5 al7
open Go.Proofs
namespace Tk
def i_.l (b:i_):List AV:=[iv b.min,iv b.max]
def i_.av (b:i_):AV:=.agg b.l
def aG.l (y:aG):List AV:=[iv y.number.min,iv y.number.max,iv y.hour.min,iv y.hour.max]
def aG.av (y:aG):AV:=.agg y.l
def Seen.l (s:Seen):List AV:=[iv s.hour,iv s.next.min,iv s.next.max]
def Seen.av (s:Seen):AV:=.agg s.l
def bp (xs:List Int):AV:=.sl xs.length (xs.map iv) .shut
def x_ (ls:List (List Int)):AV:=.sl ls.length (ls.map bp) .shut
def aZ (xs:List aG):AV:=.sl xs.length (xs.flatMap aG.l) .shut
def dS (xs:List Seen):AV:=.sl xs.length (xs.flatMap Seen.l) .shut
def ak.l (x:ak):List AV:=[iv x.first,iv x.hours,iv x.an,dS x.seen,aZ x.pieces,aZ x.aB]
def ak.av (x:ak):AV:=.agg x.l
theorem aG.len(b:aG):b.l.length=4:=rfl
theorem Seen.len(b:Seen):b.l.length=3:=rfl
end Tk
section
variable {i:Nat}
theorem fZ{xs:List Int}{x:Int}(h:xs[i]?=some x):AV.shift i (.rp (xs.map iv))=some (.rp (iv x::(xs.drop (i+1)).map iv)):=by have:=abX (f:=iv) h;rwa [Ye]at this
theorem abU{xs:List (List Int)}{x:List Int}(h:xs[i]?=some x):AV.shift i (.rp (xs.map bp))=some (.rp (bp x::(xs.drop (i+1)).map bp)):=by have:=abX (f:=bp) h;rwa [Ye]at this
theorem Gz{xs:List aG}{x:aG}(h:xs[i]?=some x):AV.shift (i* 4) (.rp (xs.flatMap aG.l))=some (.rp (iv x.number.min::iv x.number.max::iv x.hour.min::iv x.hour.max::(xs.drop (i+1)).flatMap aG.l)):=abW aG.len h
theorem abV{xs:List Seen}{x:Seen}(h:xs[i]?=some x):AV.shift (i* 3) (.rp (xs.flatMap Seen.l))=some (.rp (iv x.hour::iv x.next.min::iv x.next.max::(xs.drop (i+1)).flatMap Seen.l)):=abW Seen.len h
end
theorem zv(n:Nat)(xs:List Int):Lt n (bp xs)=True:=by simp[bp,un,eE]
theorem aam(n:Nat)(xs:List (List Int)):Lt n (x_ xs)=True:=by
 simp only[x_,un,Tm,eq_iff_iff,iff_true]
 rintro a ⟨b,_,rfl⟩
 rw[zv];trivial
theorem FT(n:Nat)(xs:List aG):Lt n (aZ xs)=True:=by
 simp only[aZ,un,S7,eq_iff_iff,iff_true]
 rintro a ⟨b,_,h⟩
 simp only[aG.l,SL,S0,or_false]at h;rcases h with rfl|rfl|rfl|rfl<;>exact .val _
theorem aan(n:Nat)(xs:List Seen):Lt n (dS xs)=True:=by
 simp only[dS,un,S7,eq_iff_iff,iff_true]
 rintro a ⟨b,_,h⟩
 simp only[Seen.l,SL,S0,or_false]at h;rcases h with rfl|rfl|rfl<;>exact .val _
theorem aal(n:Nat)(x:ak):∀a∈x.l,Lt n a:=by
 intro a ha;simp only[ak.l,SL,S0,or_false]at ha;rcases ha with rfl|rfl|rfl|rfl|rfl|rfl
 ·exact .val _
 ·exact .val _
 ·exact .val _
 ·rw[aan];trivial
 ·rw[FT];trivial
 ·rw[FT];trivial
theorem FU(n:Nat)(x:ak):Lt n x.av=True:=by simp only[ak.av,sG,eq_iff_iff,iff_true];exact aal n x
open Go.Conc Go.Proofs Go.Gg.Tk
namespace Tk
structure l7 (h:List Int):Prop where
 len:h.length=4
 lo:∀a∈h,0<=a
 hi:∀a∈h,a<=1000
 span:h.getD 3 0<=h.getD 0 0+9
theorem l7.out{h:List Int}(k:l7 h):∃a b c d,h=[a,b,c,d]/\(0<=a/\a<=1000)/\(0<=b/\b<=1000)/\(0<=c/\c<=1000)/\(0<=d/\d<=1000)/\d<=a+9:=by
 match h,k with
 |[a,b,c,d],k=>exact⟨a,b,c,d,rfl,⟨k.lo a (by simp),k.hi a (by simp)⟩,⟨k.lo b (by simp),k.hi b (by simp)⟩,⟨k.lo c (by simp),k.hi c (by simp)⟩,⟨k.lo d (by simp),k.hi d (by simp)⟩,by simpa using k.span⟩
theorem aic{h:List Int}{y:aG}{n:Nat}(hn:(h.getD 3 0-h.getD 0 0).toNat<=n):kT h y n=false:=by
 unfold kT;rw[show decide (h.getD 0 0+(n:Int)<h.getD 3 0)=false from decide_eq_false (by omega)];rfl
theorem aid{h:List Int}{y:aG}(hs:h.getD 3 0<=h.getD 0 0+9):bW h y=jd (kT h y) (h.getD 3 0-h.getD 0 0).toNat:=by
 apply Nat.eq_of_testBit_eq;intro i;unfold bW;rw[AT,AT];by_cases hi:i<(h.getD 3 0-h.getD 0 0).toNat
 ·have h9:i<9:=by omega
  rw[decide_eq_true hi,decide_eq_true h9]
 ·rw[aic (by omega)];simp
theorem Pk(h:List Int)(y:aG):bW h y<512:=DM (n:=9)
end Tk
theorem uZ{α:Type}{xs:List α}{i:Nat}{x:α}(h:xs[i]?=some x):xs.drop i=x::xs.drop (i+1):=by
 obtain⟨h1,h2⟩:=SN.1 h;rw[T8 h1,h2]
section
variable {lv:Bool}{H:List aa}{k kp:AV->List aa->Prop}
theorem IE{b:i_}{n:Int}(hk:k (bv (j8 b n)) H):ba lv SC 88 H [b.av,iv n] k kp:=by
 refine bE (rs:=[.tmp 4]) (nt:=15) Tryz.f88 λhH hA=> ?_;simp only[bk,SW,i_.av,i_.l];refine ai ?_;refine ai ?_;refine wK (λh=> ?_) (λh=> ?_)
 ·(try simp only[seval]);refine aX ?_;exact kS hH (by simpa[j8,h]using hk)
 ·(try simp only[seval]);refine aX ?_;exact kS hH (by simpa[j8,h]using hk)
theorem Pd{h:List Int}{n:Int}(h4:h.length=4)(hk:k (iv (iW h n)) H):ba lv SC 90 H [.agg (h.map iv),iv n] k kp:=by
 refine bE (rs:=[.tmp 4]) (nt:=24) Tryz.f90 λhH hA=> ?_;simp only[bk,SW];have pu:(h.map iv).length=4:=by simp[h4]
 refine ai ?_;refine ai ?_;refine cF ?_;refine rM 3 (λi:Nat=>[(6,iv i)]) (λ_=>_) (λi=>iW h n=fg i (h.drop i) n) rfl (λbT cW i b_ hi R hR=> ?_);refine ai ?_;refine aE ?_;refine⟨λhc=> ?_,λhc=> ?_⟩
 ·
  have pq:i<3:=by omega
  obtain⟨a,ha⟩:=cC (xs:=h) (i:=i) (by omega);obtain⟨b,hb⟩:=cC (xs:=h) (i:=i+1) (by omega);have e4:(0<=(i:Int)/\(i:Int)<4)=True:=by simp;omega
  have OT:(0<=(i:Int)+1/\(i:Int)+1<4)=True:=by simp;omega
  have hw:SF.wrap ((i:Int)+1)=(i:Int)+1:=bC _ (by omega);have oG:((i:Int)+1).toNat=i+1:=by omega
  have kI:fg i (h.drop i) n=if a<=n/\n<b then(i:Int)else fg (i+1) (h.drop (i+1)) n:=by
   rw[uZ ha,uZ hb];simp only[fg]
  refine aN ?_;refine ai ?_;refine aj ?_;simp only[seval,e4,OT,hw,oG,kv ha,kv hb];refine wK (λh2=> ?_) (λh2=> ?_)
  ·(try simp only[seval,e4,OT,hw,oG,kv ha,kv hb]);refine aE ?_;refine⟨λh3=> ?_,λh3=> ?_⟩
   ·refine ai ?_;refine aX ?_;rw[hi,kI,if_pos ⟨of_decide_eq_true h2,h3⟩]at hk;exact kS hH hk
   ·refine aN ?_;refine aj ?_;simp only[seval,hw];refine hR _ ⟨by omega,?_,dn⟩;rw[hi,kI,if_neg (λq=>h3 q.2)]
  ·(try simp only[seval]);refine aE ?_;refine aN ?_;refine aj ?_;simp only[seval,hw];refine hR _ ⟨by omega,?_,dn⟩;rw[hi,kI,if_neg (λq=>by simp at h2;omega)]
 ·
  have:i=3:=by omega
  subst this;refine b9 ?_;refine ai ?_;refine aX ?_;have hm:fg 3 (h.drop 3) n= -1:=by
   match h,h4 with
   |[a,b,c,d],_=>rfl
  rw[hi,hm]at hk;exact kS hH hk
theorem wH{m n:Nat}(hm:m<65536)(hk:k (bv (m.testBit n)) H):ba lv SC 67 H [wv m,iv n] k kp:=by
 refine bE (rs:=[.tmp 4]) (nt:=10) Tryz.f67 λhH hA=> ?_;simp only[bk,SW];refine ai ?_;refine aj ?_;simp only[seval,AI,adO];refine aX ?_;refine bS ?_;rw[ai4 hm];exact hk
theorem tx{m n:Nat}(hm:m<65536)(hn:n<16)(hk:k (wv (m|||2^n)) H):ba lv SC 68 H [wv m,iv n] k kp:=by
 refine bE (rs:=[.tmp 4]) (nt:=9) Tryz.f68 λhH hA=> ?_;simp only[bk,SW];refine ai ?_;refine aj ?_;simp only[seval,adZ,AH];refine aX ?_;refine bS ?_;rw[ark hm hn];exact hk
theorem D5{h:List Int}{y:aG}(hh:l7 h)(hk:k (wv (bW h y)) H):ba lv SC 65 H [.agg (h.map iv),y.av] k kp:=by
 refine bE (rs:=[.tmp 4]) (nt:=34) Tryz.f65 λhH hA=> ?_;simp only[bk,SW,aG.av,aG.l];obtain⟨a,b,c,d,rfl,ha,hb,hc,hd,hs⟩:=hh.out;have ox:bW [a,b,c,d] y=jd (kT [a,b,c,d] y) (d-a).toNat:=aid hs;have hz:wv (jd (kT [a,b,c,d] y) 0)=wv 0:=rfl;refine ai ?_;refine ai ?_;refine ai ?_;refine cF ?_;refine gA (d-a).toNat (λi:Nat=>[(6,iv (a+i)),(5,wv (jd (kT [a,b,c,d] y) i))]) (λ_=>_) (λi=>True) (λ_ _=>rfl) (by rw[hz];simp only[seval];simp[bN,Wk.refl];exact Wk.refl _) rfl (λ_ _ _=>rfl) trivial (λbT cW i b_ hi R hR=> ?_);refine ai ?_;refine aE ?_;have cJ:jd (kT [a,b,c,d] y) i<65536:=Tc DM (UF (Xp (by omega) (show i<=16 by omega)) (by decide));refine⟨λhc=> ?_,λhc=> ?_⟩
 ·
  have hlt:i<(d-a).toNat:=by omega
  have hw:SF.wrap (a+(i:Int)+1)=a+((i+1:Nat):Int):=by rw[bC _ (by omega)];push_cast;omega
  have gP:SF.wrap (a+(i:Int)-a)=(i:Int):=by rw[bC _ (by omega)];omega
  have Ev:kT [a,b,c,d] y i=(j8 y.number (a+i)&&j8 y.hour (iW [a,b,c,d] (a+i))):=by
   unfold kT;rw[show decide ([a,b,c,d].getD 0 0+(i:Int)<[a,b,c,d].getD 3 0)=true from decide_eq_true (show a+(i:Int)<d by omega),U9];rfl
  refine aN ?_;refine cF ?_;refine eo 12 ?_;simp only[seval];refine ie (bv (j8 y.number (a+i))) (dC (IE (b:=y.number) ⟨rfl,rfl⟩)) ?_;(try simp only[seval]);refine wK (λh2=> ?_) (λh2=> ?_)
  ·(try simp only[seval]);refine ie (iv (iW [a,b,c,d] (a+i))) (dC (Pd (h:=[a,b,c,d]) rfl ⟨rfl,rfl⟩)) ?_;(try simp only[seval]);refine ie (bv (j8 y.hour (iW [a,b,c,d] (a+i)))) (dC (IE (b:=y.hour) ⟨rfl,rfl⟩)) ?_;(try simp only[seval]);refine aE ?_;rw[h2,U9]at Ev;refine⟨λh3=> ?_,λh3=> ?_⟩
   ·refine aj ?_;simp only[seval,gP];refine aM ((tx cJ (show i<16 by omega) ?_));(try simp only[seval]);refine aj ?_;simp only[seval,hw];refine hR _ ⟨by omega,trivial,?_⟩;rw[show jd (kT [a,b,c,d] y) (i+1)=jd (kT [a,b,c,d] y) i|||2^i from by rw[jd,Ev,h3];rfl];exact dn
   ·refine aN ?_;refine aj ?_;simp only[seval,hw];refine hR _ ⟨by omega,trivial,?_⟩;rw[show jd (kT [a,b,c,d] y) (i+1)=jd (kT [a,b,c,d] y) i from by rw[jd,Ev,h3];rfl];exact dn
  ·(try simp only[seval]);refine aE ?_;refine aN ?_;refine aj ?_;simp only[seval,hw];refine hR _ ⟨by omega,trivial,?_⟩;rw[show jd (kT [a,b,c,d] y) (i+1)=jd (kT [a,b,c,d] y) i from by rw[jd,Ev,show j8 y.number (a+i)=false by simpa using h2];rfl];exact dn
 ·have:i=(d-a).toNat:=by omega
  subst this;refine b9 ?_;refine ai ?_;refine aX ?_;rw[ox]at hk;exact kS hH hk
end
open Go.Conc Go.Proofs Go.Gg.Tk
namespace Tk
structure uC (b:i_)(hi:Int):Prop where
 min:0<=b.min
 le:b.min<=b.max
 max:b.max<=hi
structure Hj (x:ak)(y:aG):Prop where
 number:uC y.number 99
 hour:uC y.hour (x.hours-1)
structure ak.Ok (x:ak):Prop where
 first:0<=x.first/\x.first<=90
 hours:1<=x.hours/\x.hours<=3
 an:1<=x.an/\x.an<=3
 zS:x.seen.length<=3
 cZ:x.pieces.length<=4
 eP:x.aB.length<=3
 seen:∀s∈x.seen,(0<=s.hour/\s.hour<=x.hours)/\uC s.next 99
 piece:∀y∈x.pieces,Hj x y
 stub:∀y∈x.aB,Hj x y
def sL (hour:Nat)(n:Int)(s:Seen):Bool:= !decide (s.hour=hour)||j8 s.next n
theorem abz(x:ak)(hour:Nat)(n:Int):rh x hour n=x.seen.all (sL hour n):=rfl
end Tk
theorem fA{H L:List aa}{i:Nat}{x:aa}(h:H[i]?=some x):(H++L)[i]?=some x:=by rw[SZ (SN.1 h).1];exact h
theorem a_(Hs L:List aa)(i:Nat):(Hs++L)[Hs.length+i]?=L[i]?:=by rw[Tj (by omega)];congr 1;omega
theorem dX(Hs L:List aa)(i:Nat)(y:aa):(Hs++L).set (Hs.length+i) y=Hs++L.set i y:=by rw[UN _ _ (by omega)];congr 2;omega
section
variable {lv:Bool}{H:List aa}{k kp:AV->List aa->Prop}
theorem Pc{x:ak}{h:List Int}{hour ir ih:Nat}{n:Int}(hx:x.Ok)(h4:h.length=4)(hn:h[hour]?=some n)(hr:H[ir]?=some (.cells x.l 76))(hi:H[ih]?=some (.cells (h.map iv) 83))(hk:k (bv (rh x hour n)) H):ba lv SC 87 H [iv hour,.op ir 0,.op ih 0] k kp:=by
 refine bE (rs:=[.tmp 4]) (nt:=29) Tryz.f87 λhH hA=> ?_;simp only[bk,SW];have oC:hour<4:=by have:=eB hn;omega
 have b4:(0<=(hour:Int)/\(hour:Int)<4)=True:=by simp;omega
 have hlen:=hx.zS;have tV:∀L:List aa,(H++L)[ir]?=some (.cells x.l 76):=λL=>fA hr;have cu:∀L:List aa,(H++L)[ih]?=some (.cells (h.map iv) 83):=λL=>fA hi;have bP:x.l=[iv x.first,iv x.hours,iv x.an,dS x.seen,aZ x.pieces,aZ x.aB]:=rfl;refine ai ?_;refine aj ?_;simp only[seval,hr,bP,dS];refine cF ?_;refine rM x.seen.length (λi:Nat=>[(11,iv i)]) (λ_=>H) (λi=>x.seen.all (sL hour n)=(x.seen.drop i).all (sL hour n)) rfl (λbT cW i b_ hI R hR=> ?_);refine ai ?_;refine aE ?_;refine⟨λhc=> ?_,λhc=> ?_⟩
 ·
  have bt:i<x.seen.length:=by omega
  obtain⟨s,hs⟩:=cC bt;have kI:x.seen.all (sL hour n)=(sL hour n s&&(x.seen.drop (i+1)).all (sL hour n)):=by rw[hI,uZ hs];rfl
  have hw:SF.wrap ((i:Int)+1)=((i+1:Nat):Int):=by rw[bC _ (by omega)];rfl
  refine aN ?_;refine aj ?_;simp only[seval,abV hs,je bt];refine eo 13 ?_;simp only[seval,cu,b4,kv hn];refine wK (λh2=> ?_) (λh2=> ?_)
  ·(try simp only[seval,cu,b4,kv hn]);refine ie (bv (j8 s.next n)) (dC (IE (b:=s.next) ⟨rfl,rfl⟩)) ?_;(try simp only[seval]);refine aE ?_;have hp:sL hour n s=j8 s.next n:=(by unfold sL;rw[decide_eq_true (show s.hour=(hour:Int) by simpa using h2)];rfl);rw[hp]at kI;refine⟨λh3=> ?_,λh3=> ?_⟩
   ·refine ai ?_;refine aX ?_;rw[abz,kI,h3]at hk;exact kS hH hk
   ·refine aN ?_;refine aj ?_;simp only[seval,hw];refine hR _ ⟨bt,?_,(abq bT)⟩;rw[kI,h3];rfl
  ·(try simp only[seval]);refine aE ?_;refine aN ?_;have hp:sL hour n s=true:=(by unfold sL;rw[decide_eq_false (show ¬s.hour=(hour:Int) by simpa using h2)];rfl);rw[hp]at kI;refine aj ?_;simp only[seval,hw];refine hR _ ⟨bt,?_,(abq bT)⟩;rw[kI];rfl
 ·
  have:i=x.seen.length:=by omega
  subst this;refine b9 ?_;refine ai ?_;refine aX ?_;rw[abz,hI,List.drop_length]at hk;exact bS hk
end
end Go.Gg
