/- A part of the proof. -/
import Derived.Test.YtkanpclgnhdbiaaGreatDoorTicketGreaterCard0
import Derived.Test.YtkanpclgnhdbiaaGreatDoorProg
import Derived.KernelRfl
set_option linter.all false
set_option maxRecDepth 4000
set_option maxHeartbeats 4000000
open Array renaming all_eq_true_iff_forall_mem->UM,ext'->VG,getD_eq_getD_getElem?->SH,getElem?_append_left->Yd,getElem?_eq_getElem->SJ,getElem?_eq_none->YD,getElem?_eq_some_iff->SR,getElem?_modify->Wo,getElem?_setIfInBounds_ne->SV,getElem?_setIfInBounds_self_of_lt->Tb,getElem_mem->XX,mem_iff_getElem?->YK,mem_of_getElem?->W8,range->WO,replicate->TN,toList_map->VN
open BitVec renaming ofInt->Ui,toNat_or->Zr
open Bool renaming and_eq_true->Tl,eq_iff_iff->U3,false_and->YJ,false_eq_true->TP,false_or->Zy,not_eq_true'->T1,not_true->as_,or_eq_true->X7,true_and->Vx
open Classical renaming byContradiction->Tn
open ForInStep renaming yield->Y2
open Go renaming Addr->U_,BinOp->Wb,Call->Xt,CallKind->Xi,Code->T7,Deferred->U2,Event->Ut,Field->Y0,Frame->Uc,FrameMode->Vf,Func->YH,FuncId->TQ,Goroutine->SG,IntKind->TZ,Item->WZ,Loop->asg,LoopState->aa',MapEntry->Wq,Oper->Tu,Operand->Tj,Program->SI,ResultVar->UQ,TypeInfo->Wp,Value->SP,World->Tp
open Go.Act renaming put->X6
open Go.BinOp renaming eql->XM,neq->VL
open Go.Call renaming operands->VQ
open Go.CallKind renaming deferred->YR,early->Va,normal->Y_
open Go.Deferred renaming ofValue->U9
open Go.Frame renaming catches->ZX,round->Xd
open Go.FrameMode renaming returning->Yu
open Go.GStep renaming after->T6
open Go.Instr renaming beginRound->XL,checkKey->Vj,endLoop->ZP,endRound->W_,enterLoop->W3,findAsking->XK,findKey->VP,getLoop->WN,sameBits->WG,takeDeferred->Y8
open Go.IntKind renaming bits->auZ,i64->SD,signed->auY,u16->S7,u32->ak_,u64->TA,wrap->Xg
open Go.LoopState renaming busy->ar'
open Go.Next renaming value->W9
open Go.Op renaming equal->WT,equalIn->VC,operands->Tt
open Go.Operand renaming tmp->auW
open Go.Proofs.Tryz renaming f77->XQ,f97->auU,prog->SA
open Go.Region renaming binds->Yt,linearise->Zc,schedule->VO,wanted->Ti
open Go.Region.linearise renaming go->UK
open Go.Result.ok renaming inj->ap'
open Go.Sem renaming runT->VI,runT_eq->TB
open Go.Value renaming agg->TE,bool->Xf,cells->Z',chan->XS,int->SF,map->Zu,nilFunc->YX,slice->Uu
open Go.stepG renaming exec->Ug
open Int renaming toNat_natCast->VR
open List renaming all_cons->ZT,all_eq_true->Tv,any_cons->YV,any_eq_true->Ur,append_assoc->SC,append_nil->SN,cons_append->Vm,contains_eq_mem->Us,countP_le_length->Y6,drop_drop->am_,drop_eq_getElem_cons->TL,drop_eq_nil_of_le->TY,drop_zero->XD,ext_getElem?->Yr,filter_congr->US,filter_cons_of_neg->Yy,filter_cons_of_pos->Yx,foldl_cons->U4,forIn_cons->W6,getD_eq_getElem?_getD->SE,getElem?_append_left->SX,getElem?_append_right->Ta,getElem?_cons_succ->UN,getElem?_eq_getElem->SW,getElem?_eq_none->Ux,getElem?_eq_some_iff->SL,getElem?_map->To,getElem?_set_ne->Ua,getElem?_set_self->Xc,getElem?_take->Uf,getLastD_cons->Zt,length_append->S5,length_drop->Uk,length_map->S9,length_set->TF,length_singleton->T_,length_take->TV,mapM_cons->Ub,mapM_nil->UE,mapM_toArray->X2,map_congr_left->Vg,map_cons->UP,map_drop->apT,map_map->WM,map_take->VJ,mem_append->SQ,mem_append_left->Th,mem_append_right->S4,mem_cons->SK,mem_cons_of_mem->Td,mem_cons_self->TC,mem_eraseDups->Za,mem_filter->Uq,mem_filterMap->VZ,mem_flatMap->S6,mem_map->Te,mem_of_getElem?->S_,mem_range->Tx,mem_range'->X0,mem_toArray->TM,nil_append->UL,nodup_cons->VW,nodup_nil->WS,not_mem_nil->SZ,range->SU,range'->T9,range'_append_1->Y',range'_succ->VU,range_eq_range'->Vs,replicate->TJ,replicate_succ->WA,reverse_nil->XY,set_append_left->UX,set_append_right->Ud,set_eq_take_append_cons_drop->X8,singleton_append->Y5,take_append_drop->Vo,take_of_length_le->SS,take_succ_cons->VT,take_zero->al'
open Nat renaming add_mul->Vk,add_zero->UI,le_refl->SO,le_trans->UH,lt_of_le_of_lt->Zj,lt_of_lt_of_le->Tf,lt_trans->Ws,lt_trichotomy->XI,min_eq_left->WC,mod_lt->as',mul_le_mul_right->Uh,mul_one->Ye,or_lt_two_pow->WR,pow_le_pow_right->Xr,pow_lt_pow_right->Xe,reduceAdd->SY,sub_self->Vd,sub_zero->Z1,testBit_or->Xq,testBit_two_pow->VS,zero_add->Wx,zero_le->WQ
open Option renaming bind_eq_some_iff->Tg,getD_some->S0,map_eq_some_iff->Tq,map_some->UT,some->SM
open Option.some renaming injEq->Tm
open Std.Legacy.Range renaming forIn_eq_forIn_range'->WB,size->Xw
namespace Go.Gg
open Go.Conc
structure IZ (k:AV->Prop):Type where
 n:Nat
structure IY (X:Bool->Prop)(Z:Prop):Type where
 n:Nat
def QG (a:AV)(X:Bool->Prop)(Z:Prop)(_t:IY X Z):Prop:=(∃b,a=.val (.bool b)/\X b)\/(a=.val undef/\Z)
theorem ap5(b:Bool)(X:Bool->Prop)(Z:Prop)(t:IY X Z):QG (.val (.bool b)) X Z t=X b:=by
 unfold QG;refine propext ⟨λh=> ?_,λh=> .inl ⟨b,rfl,h⟩⟩;rcases h with⟨b',e,h⟩|⟨e,_⟩
 ·cases e;exact h
 ·cases e
theorem ap6(X:Bool->Prop)(Z:Prop)(t:IY X Z):QG (.val undef) X Z t=Z:=by
 unfold QG;refine propext ⟨λh=> ?_,λh=> .inr ⟨rfl,h⟩⟩;rcases h with⟨b',e,_⟩|⟨_,h⟩
 ·cases e
 ·exact h
def Pd (lv:Bool)(P:SI)(f:AV)(H:List aa)(aE:List AV)(k:AV->Prop)(_t:IZ k):Prop:=∃av,jb lv P f H aE (λb H'=>b=av/\H'=H) (λ_ _=>False)/\k av
def aeG (lv:Bool)(P:SI)(f:AV)(name:String)(H:List aa)(aE:List AV)(k:AV->Prop)(_t:IZ k):Prop:=∃av,Fc lv P f name H aE (λb H'=>b=av/\H'=H) (λ_ _=>False)/\k av
theorem gR{lv:Bool}{P:SI}{f:AV}{H:List aa}{aE:List AV}{k:AV->Prop}{t:IZ k}(av:AV)(h:jb lv P f H aE (λb H'=>b=av/\H'=H) (λ_ _=>False))(hk:k av):Pd lv P f H aE k t:=⟨av,h,hk⟩
section
variable (lv:Bool)(P:SI)
def AQ (s:AS)(o:Tu)(k:AV->Prop):Prop:=match o.op with
 |.call c=>match c.callee with
  |.value x=>ao (s.ev x) λf=>ao (eZ s c.args.toList) λaE=>Pd lv P f s.H aE k ⟨0⟩
  |.invoke x name=>ao (s.ev x) λf=>ao (eZ s c.args.toList) λaE=>aeG lv P f name s.H aE k ⟨0⟩
  |.builtin .append=>match c.args.toList,c.argTypes.toList with
   |[x,y],[t,t']=>ao (jM P t t') λ(_,sz,_)=>ao (s.ev x) λa=>ao (s.ev y) λb=>a.v4 λn l e=>e=.exact/\ao (s.src sz b) λ(m,l')=>l.length=n* sz/\l'.length=m* sz/\n+m<=2^30/\k (.sl (n+m) (l++l') .shut)
   |_,_=>False
  |_=>ly P s o k
 |_=>ly P s o k
def mW (all:Array Tu):List Tu->AS->(AS->Prop)->Prop
 |[],s,K=>K s
 |o::rest,s,K=>match o.guard with
  |none=>AQ lv P s o λav=>mW all rest (s.put o.dst av) K
  |some (j,b8)=>ao ((all[j]?).bind (·.dst)) λd=>ao (look s.T d) λa=>QG a (λb=>qV b b8 (AQ lv P ⟨(d,.val (.bool b8))::s.T,s.H⟩ o λav=>mW all rest ((⟨(d,.val (.bool b8))::s.T,s.H⟩:AS).put o.dst av) K) (mW all rest ((⟨(d,.val (.bool !b8))::s.T,s.H⟩:AS).put o.dst (.val undef)) K) ⟨0⟩) (mW all rest (s.put o.dst (.val undef)) K) ⟨0⟩
end
section
variable {lv:Bool}{P:SI}{r:Option Nat}{o:Tu}{s:AS}
theorem acM{a:Act}{E:Env}{V:View}{av:AV}{N:Act->View->Prop}{Q:Ex->Act->View->Prop}(h1:∀E' V' v,E.Le E'->V'.role=V.role->V'.deaf=V.deaf->Conc E' V' s.H->ap E' av v->N (a.put o.dst v) V'):
  (∀nx V',Nx lv P (gW E V (λb H'=>b=av/\H'=s.H) (λ_ _=>False)) nx V'->mD lv P r o a N Q nx V')/\(∀v V',gW E V (λb H'=>b=av/\H'=s.H) (λ_ _=>False) (.panic [{v,recovered:=false}]) V'->Q (.panic [{v,recovered:=false}]) a V'):=by
 have hv:∀v V',gW E V (λb H'=>b=av/\H'=s.H) (λ_ _=>False) (.ret v) V'->N (a.put o.dst v) V':=λv V' ⟨b,E',H',hle,ce,eT,bk,bi,e1,e2⟩=>by
  subst e1 e2;exact h1 E' V' v hle ce eT bi bk
 have hp:∀ch V',gW E V (λb H'=>b=av/\H'=s.H) (λ_ _=>False) (.panic ch) V'->Q (.panic ch) a V':=λch V' ⟨pv,v,E',H',eS,hle,ce,eT,bk,bi,hk⟩=>hk.elim;refine⟨λnx V' hn=> ?_,λv V' h=>hp _ _ h⟩;cases nx with
 |value v=>exact hv _ _ hn
 |skip=>exact hv _ _ hn
 |enter f args=>
  refine Body.mono (R':=fun
   |.ret v,V'=>N (a.put o.dst v) V'
   |.panic ch,V'=>Q (.panic ch) a V') hn λot aS h=> ?_
  cases ot with
  |ret v=>exact hv _ _ h
  |panic ch=>exact hp _ _ h
 |round l f tmps aE b=>
  refine mY.mono (R':=fun
   |.ret v,V'=>N (a.put o.dst v) V'
   |.panic ch,V'=>Q (.panic ch) a V') hn λot aS h=> ?_
  cases ot with
  |ret v=>exact hv _ _ h
  |panic ch=>exact hp _ _ h
 |_=>exact hn.elim
theorem apw{c:Xt}{x y:Tj}{t t' elem:TypeId}{sz n m:Nat}{z:SP}{l l':List AV}{av:AV}(ho:o.op=.call c)(aW:c.callee=.builtin .append)(cM:c.args=#[x,y]) (cR:c.argTypes=#[t,t']) (ht:jM P t t'=some (elem,sz,z))
  (hx:s.ev x=some (.sl n l .exact)) (hy:s.ev y=some av) (hs:s.src sz av=some (m,l')) (hl:l.length=n* sz) (eG:l'.length=m* sz) (hb:n+m<=2^30):dF lv P r o s (.sl (n+m) (l++l') .shut):=by
 intro E V a N Q hc aG bA hN;refine⟨bA,?_⟩;have dC:=ap.ev aG hx;have iR:=ap.ev aG hy;generalize ku:a.eval x=vx at dC;generalize rX:a.eval y=vy at iR;unfold execOp;rw[ho];dsimp only;unfold resolve;rw[aW];dsimp only;refine az (au ?_);unfold invoke builtin;dsimp only;refine az ?_;have nB:c.args.map a.eval=#[vx,vy]:=by rw[cM];simp[ku,rX]
 rw[nB,cR];obtain⟨base,cap,rfl⟩:∃base cap,vx=.slice base n cap:=by
  cases dC with
  |sl b o cap f dR he q1 q2=>exact⟨_,_,rfl⟩
  |nil he=>exact⟨_,_,rfl⟩
 have gY:cap=n:=by
  cases dC with
  |sl b o cap f dR he q1 q2=>exact he
  |nil he=>rfl
 subst gY;have tP:(l++l').length=(cap+m)* sz:=by rw[S5,hl,eG,Vk]
 by_cases hm:m=0
 ·subst hm;have tE:l'=[]:=by simpa using eG
  subst tE;refine H_ hc ht iR hs eG (SO _) ?_;refine au (hN E V _ (Env.Le.refl E) rfl rfl hc ?_);rw[UI,SN];exact jq _ _ _ _ _ dC
 ·refine H9 hc ht dC iR hs hl eG hb (by omega) λrr cs cap' hf bk hle aV=> ?_;obtain⟨bi,rL⟩:=hc.adX (el:=elem) hf aV hle;have u6:(cap+m)* sz<=cs.size:=by rw[aV];exact Uh _ hle
  refine aQ.ghost (yb (f:=(0,0)) (cs:=cs) (el:=elem) (p:=(·<(cap+m)* sz)) (by simp[View.upd]) (λo _=>hf.2 o)) ?_;have qu:=EH (n:=s.H.length) (m:=s.H.length) (SO _) (by simp[Env.tok,hc.n]) rL hc.n;refine au (hN _ _ _ qu rfl rfl (bi.trim hc.aq) (JC (I:=(V.laid rr cs elem (·<(cap+m)* sz)).ab) (e:=.shut) (sz:=sz) (cs:=cs) rfl (bk.mono qu) tP u6 (λo h=>Hk (by simpa using h)) hle trivial))
theorem AQ.sound{k:AV->Prop}(h:AQ lv P s o k):∃av,dF lv P r o s av/\k av:=by
 unfold AQ at h;split at h
 ·rename_i c ho;split at h
  ·rename_i x aW;obtain⟨f,h1,hA⟩:=h.out;obtain⟨aE,h2,hB⟩:=hA.out;obtain⟨av,h3,h4⟩:=hB;refine⟨av,λE V a N Q hc aG bA hN=> ?_,h4⟩;have rV:=acM (lv:=lv) (P:=P) (r:=r) (o:=o) (Q:=Q) hN;refine⟨bA,?_⟩;unfold execOp;rw[ho];dsimp only;unfold resolve;rw[aW];dsimp only;have e:c.args.map a.eval=(c.args.toList.map a.eval).toArray:=(by apply VG;simp);rw[e];exact(h3 E V (a.eval x) _ hc (ap.ev aG h1) (Ag aG h2)).mono (λnx V' h=>rV.1 nx V' h) (λv V' h=>rV.2 v V' h)
  ·rename_i x name aW;obtain⟨f,h1,hA⟩:=h.out;obtain⟨aE,h2,hB⟩:=hA.out;obtain⟨av,h3,h4⟩:=hB;refine⟨av,λE V a N Q hc aG bA hN=> ?_,h4⟩;have rV:=acM (lv:=lv) (P:=P) (r:=r) (o:=o) (Q:=Q) hN;refine⟨bA,?_⟩;unfold execOp;rw[ho];dsimp only;unfold resolve;rw[aW];dsimp only;refine az (au ?_);have e:c.args.map a.eval=(c.args.toList.map a.eval).toArray:=(by apply VG;simp);rw[e];exact(h3 E V (a.eval x) _ hc (ap.ev aG h1) (Ag aG h2)).mono (λnx V' h=>rV.1 nx V' h) (λv V' h=>rV.2 v V' h)
  ·rename_i aW;split at h
   ·rename_i x y t t' ha ht;obtain⟨⟨elem,sz,z⟩,h1,hA⟩:=h.out;obtain⟨a,h2,hB⟩:=hA.out;obtain⟨b,h3,hC⟩:=hB.out;obtain⟨n,l,e,e1,e0,hD⟩:=Pt hC;subst e1 e0;obtain⟨⟨m,l'⟩,h4,h5,h6,h7,h8⟩:=hD.out;exact⟨_,apw ho aW (na ha) (sA ht) h1 h2 h3 h4 h5 h6 h7,h8⟩
   ·exact h.elim
  ·exact h.sound
 ·exact h.sound
end
section
variable {lv:Bool}{P:SI}{o:Tu}{T T':List (Nat×AV)}{H:List aa}{k:AV->Prop}
theorem CH:∀(l:List Tj),(∀x∈l,AS.ev ⟨T,H⟩ x=AS.ev ⟨T',H⟩ x)->eZ ⟨T,H⟩ l=eZ ⟨T',H⟩ l
 |[],_=>rfl
 |x::l,h=>by simp only[eZ,h x (TC ..),CH l λy hy=>h y (Td _ hy)]
theorem JX:∀(l:List (Nat×Tj)),(∀x∈l,AS.ev ⟨T,H⟩ x.2=AS.ev ⟨T',H⟩ x.2)->j7 ⟨T,H⟩ l=j7 ⟨T',H⟩ l
 |[],_=>rfl
 |x::l,h=>by simp only[j7,h x (TC ..),JX l λy hy=>h y (Td _ hy)]
theorem mapM_congr:∀(l:List Tj),(∀x∈l,AS.ev ⟨T,H⟩ x=AS.ev ⟨T',H⟩ x)->l.mapM (AS.ev ⟨T,H⟩)=l.mapM (AS.ev ⟨T',H⟩)
 |[],_=>rfl
 |x::l,h=>by simp only[Ub,h x (TC ..),mapM_congr l λy hy=>h y (Td _ hy)]
theorem Jm(x:Option Tj)(h:∀y,x=some y->AS.ev ⟨T,H⟩ y=AS.ev ⟨T',H⟩ y):AS.jd ⟨T,H⟩ x=AS.jd ⟨T',H⟩ x:=by
 cases x with
 |none=>rfl
 |some y=>simp only[AS.jd,h y rfl]
theorem aeP{op:Wb}{t:TypeId}{y:Tj}{a:AV}(h:AS.ev ⟨T,H⟩ y=AS.ev ⟨T',H⟩ y):iO P ⟨T,H⟩ op t y a k=iO P ⟨T',H⟩ op t y a k:=by
 unfold iO;split<;>first|rfl|rw[h]
theorem ly.congr(h:∀x∈o.op.operands,AS.ev ⟨T,H⟩ x=AS.ev ⟨T',H⟩ x)(ha:ly P ⟨T,H⟩ o k):ly P ⟨T',H⟩ o k:=by
 unfold ly at ha⊢;generalize o.op=op at h ha⊢;cases op with
 |call c=>
  have cM:∀x∈c.args,AS.ev ⟨T,H⟩ x=AS.ev ⟨T',H⟩ x:=λx hx=>h x (by simp[Tt,VQ,hx]);dsimp only at ha⊢;split at ha
  ·obtain⟨x,h1,hA⟩:=ha.out;rw[h1,ao];obtain⟨t,h2,hB⟩:=hA.out;rw[h2,ao];rw[<- cM x (W8 h1)];obtain⟨a,h3,hC⟩:=hB.out;rw[h3,ao];exact hC
  ·split at ha
   ·rename_i x y K1;have:=na K1;rw[this]at cM;rw[<- cM x (by simp),<- cM y (by simp)];exact ha
   ·exact ha.elim
  ·split at ha
   ·rename_i x y K1;have:=na K1;rw[this]at cM;rw[<- cM x (by simp),<- cM y (by simp)];exact ha
   ·exact ha.elim
  ·exact ha.elim
 |build t parts=>
  dsimp only at ha⊢;rw[<- JX parts.toList λx hx=>h x.2 (by simp only[Tt,TM,Te];exact⟨x,hx,rfl⟩)];exact ha
 |buildSlice t n parts=>
  dsimp only at ha⊢;rw[<- JX parts.toList λx hx=>h x.2 (by simp only[Tt,TM,Te];exact⟨x,hx,rfl⟩)];exact ha
 |makeFunc f first cV=>
  dsimp only at ha⊢;rw[<- mapM_congr first.toList λx hx=>h x (by simp[Tt];exact .inl (by simpa using hx)),<- mapM_congr cV.toList λx hx=>h x (by simp[Tt];exact .inr (by simpa using hx))];exact ha
 |slice t x lo hi mx=>
  dsimp only at ha⊢;rw[<- h x (by simp[Tt]),<- Jm lo λy hy=>h y (by simp[Tt,hy]),<- Jm hi λy hy=>h y (by simp[Tt,hy]),<- Jm mx λy hy=>h y (by simp[Tt,hy])];exact ha
 |pick c a b=>dsimp only at ha⊢;rw[<- h c (by simp[Tt]),<- h a (by simp[Tt]),<- h b (by simp[Tt])];exact ha
 |binOp op t a b u=>
  dsimp only at ha⊢;rw[<- h a (by simp[Tt])];obtain⟨x,h1,hA⟩:=ha.out;rw[h1,ao];rw[<- aeP (h b (by simp[Tt]))];exact hA
 |indexAddr t a b=>dsimp only at ha⊢;rw[<- h a (by simp[Tt]),<- h b (by simp[Tt])];exact ha
 |index t a b=>dsimp only at ha⊢;rw[<- h a (by simp[Tt]),<- h b (by simp[Tt])];exact ha
 |move x=>dsimp only at ha⊢;rw[<- h x (by simp[Tt])];exact ha
 |assign x=>dsimp only at ha⊢;rw[<- h x (by simp[Tt])];exact ha
 |unOp op t x=>cases op<;>dsimp only at ha⊢<;>first|exact ha.elim|(rw[<- h x (by simp[Tt])];exact ha)
 |convert a b x=>dsimp only at ha⊢;rw[<- h x (by simp[Tt])];exact ha
 |lookup t m x ok=>dsimp only at ha⊢;rw[<- h m (by simp[Tt]),<- h x (by simp[Tt])];exact ha
 |extract x i=>dsimp only at ha⊢;rw[<- h x (by simp[Tt])];exact ha
 |nilCheck x=>dsimp only at ha⊢;rw[<- h x (by simp[Tt])];exact ha
 |makeInterface t x=>dsimp only at ha⊢;rw[<- h x (by simp[Tt])];exact ha
 |typeAssert x a b c=>dsimp only at ha⊢;rw[<- h x (by simp[Tt])];exact ha
 |fieldAddr t x f=>dsimp only at ha⊢;rw[<- h x (by simp[Tt])];exact ha
 |field t x f=>dsimp only at ha⊢;rw[<- h x (by simp[Tt])];exact ha
 |load t x=>dsimp only at ha⊢;rw[<- h x (by simp[Tt])];exact ha
 |entry x=>dsimp only at ha⊢;rw[<- h x (by simp[Tt])];exact ha
 |_=>exact ha.elim
theorem art(sz:Nat)(a:AV):AS.src ⟨T,H⟩ sz a=AS.src ⟨T',H⟩ sz a:=by cases a<;>rfl
theorem AQ.congr(h:∀x∈o.op.operands,AS.ev ⟨T,H⟩ x=AS.ev ⟨T',H⟩ x)(ha:AQ lv P ⟨T,H⟩ o k):AQ lv P ⟨T',H⟩ o k:=by
 unfold AQ at ha⊢;split at ha
 ·rename_i c ho;have cM:∀x∈c.args.toList,AS.ev ⟨T,H⟩ x=AS.ev ⟨T',H⟩ x:=λx hx=>h x (by rw[ho];simp[Tt,VQ];exact .inr (by simpa using hx));split at ha
  ·rename_i x aW;rw[<- h x (by rw[ho];simp[Tt,VQ,aW]),<- CH _ cM];exact ha
  ·rename_i x name aW;rw[<- h x (by rw[ho];simp[Tt,VQ,aW]),<- CH _ cM];exact ha
  ·split at ha
   ·rename_i x y t t' hx ht;rw[hx]at cM;rw[<- cM x (by simp),<- cM y (by simp)];simp only[art (T:=T) (T':=T')]at ha;exact ha
   ·exact ha.elim
  ·exact ly.congr h ha
 ·exact ly.congr h ha
end
def cZ (ops:Array Tu)(j:Nat):Option Nat:=(ops[j]?).bind (·.dst)
inductive Reach (ops:Array Tu):Nat->Nat->Prop
 |JQ {i j:Nat} {o:Tu} (ho:ops[i]?=some o) (hj:j∈cS o):Reach ops i j
 |more {i k j:Nat} {o:Tu} (ho:ops[i]?=some o) (hk:k∈cS o) (h:Reach ops k j):Reach ops i j
def uv (acc:List (List Nat))(o:Tu):List (List Nat):=acc++[(cS o++(cS o).flatMap λj=>acc.getD j []).eraseDups]
def Js (ops:Array Tu):List (List Nat):=ops.toList.foldl uv []
theorem Qd(ops:Array Tu):∀(l:List Tu)(acc:List (List Nat))(i:Nat),acc.length=i->(∀k o,l[k]?=some o->ops[i+k]?=some o)->(∀a,a<acc.length->∀j∈acc.getD a [],Reach ops a j)->
  ∀a,∀j∈(l.foldl uv acc).getD a [],Reach ops a j
 |[],acc,i,_,_,h,a,j,hj=>by
  simp only[List.foldl_nil]at hj;by_cases ha:a<acc.length
  ·exact h a ha j hj
  ·rw[SE,Ux (by omega)]at hj;simp at hj
 |o::l,acc,i,hi,ho,h,a,j,hj=>by
  rw[U4]at hj;refine Qd ops l (uv acc o) (i+1) (by simp[uv,hi]) (λk o' hk=>by have:=ho (k+1) o' (by simpa using hk);rwa [show i+(k+1)=i+1+k by omega]at this) (λa ha j hj=> ?_) a j hj;have GH:ops[i]?=some o:=by have:=ho 0 o rfl;simpa using this
  have rH:∀a,a<acc.length->(uv acc o).getD a []=acc.getD a []:=λa ha=>by
   simp[uv,SE,SX ha]
  by_cases gq:a<acc.length
  ·rw[rH a gq]at hj;exact h a gq j hj
  ·have hae:a=acc.length:=(by simp[uv]at ha;omega);subst hae;have e:(uv acc o).getD acc.length []=(cS o++(cS o).flatMap λj=>acc.getD j []).eraseDups:=by
    simp[uv,SE]
   rw[e,Za,SQ]at hj;rw[hi];rcases hj with hj|hj
   ·exact .JQ GH hj
   ·obtain⟨k,hk,hj⟩:=S6.1 hj;have Do:k<acc.length:=by
     apply Tn;intro hn;rw[SE,Ux (by omega)]at hj;simp at hj
    exact .more GH hk (h k Do j hj)
def Ac (nt p:Nat)(ops:Array Tu):Bool:=
 let cl:=Js ops;decide (p<=ops.size)&&
 (SU ops.size).all (λi=>match ops[i]?with
  |some o=>o.dst.all (·<nt)&& !mi o.op&&(cS o).all (·<i)&&
   (if i<p then
    (SU i).all (λj=>match o.dst,cZ ops j with
     |some d,some d'=>d !=d'
     |_,_=>true)&&
    (o.op.operands.toList.all λx=>match x with
     |.tmp t=>(SU p).all λj=>cZ ops j !=some t||(cS o).contains j
     |_=>true)&&
    (match o.guard with
     |some (j,_)=>(cS o).contains j
     |none=>true)
   else(SU i).all λj=>(cl.getD i []).contains j)
  |none=>true)
structure zG (nt p:Nat)(ops:Array Tu):Prop where
 le:p<=ops.size
 dst:∀(i:Nat) o d,ops[i]?=some o->o.dst=some d->d<nt
 we:∀(i:Nat) o,ops[i]?=some o->mi o.op=false
 low:∀(i:Nat) o,ops[i]?=some o->∀j∈cS o,j<i
 dN:∀(i j:Nat) o d,j<i->i<p->ops[i]?=some o->o.dst=some d->cZ ops j≠some d
 NE:∀(i:Nat) o t j,i<p->ops[i]?=some o-> .tmp t∈o.op.operands->j<p->cZ ops j=some t->j∈cS o
 CS:∀(i:Nat) o j w,i<p->ops[i]?=some o->o.guard=some (j,w)->j∈cS o
 suf:∀(i j:Nat),p<=i->i<ops.size->j<i->Reach ops i j
theorem Ac.out{nt p:Nat}{ops:Array Tu}(h:Ac nt p ops=true):zG nt p ops:=by
 unfold Ac at h;simp only[Tl,decide_eq_true_eq]at h;obtain⟨hle,h⟩:=h;have key:∀(i:Nat) o,ops[i]?=some o->(o.dst.all (·<nt)=true/\mi o.op=false/\(∀j∈cS o,j<i))/\
   (if i<p then
    (SU i).all (λj=>match o.dst,cZ ops j with
     |some d,some d'=>d !=d'
     |_,_=>true)&&
    (o.op.operands.toList.all λx=>match x with
     |.tmp t=>(SU p).all λj=>cZ ops j !=some t||(cS o).contains j
     |_=>true)&&
    (match o.guard with
     |some (j,_)=>(cS o).contains j
     |none=>true)
   else(SU i).all λj=>((Js ops).getD i []).contains j)=true:=λi o ho=>by
  have hi:i<ops.size:=(SR.1 ho).1;have:=Tv.1 h i (by simpa using hi);rw[ho]at this;simp only[Tl,Tv,T1,decide_eq_true_eq]at this;exact⟨⟨this.1.1.1,this.1.1.2,this.1.2⟩,by simpa only[Tl,Tv]using this.2⟩
 refine⟨hle,λi o d ho hd=> ?_,λi o ho=>(key i o ho).1.2.1,λi o ho=>(key i o ho).1.2.2,λi j o d hj hp ho hd e=> ?_,λi o t j hp ho ht hj e=> ?_,λi o j w hp ho hg=> ?_,λi j hp hi hj=> ?_⟩
 ·have:=(key i o ho).1.1;rw[hd]at this;simpa using this
 ·have:=(key i o ho).2;rw[if_pos hp]at this;simp only[Tl,Tv]at this;have:=this.1.1 j (by simpa using hj);rw[hd,e]at this;simp at this
 ·have:=(key i o ho).2;rw[if_pos hp]at this;simp only[Tl,Tv]at this;have:=this.1.2 (.tmp t) (by simpa using ht);simp only[Tv]at this;have:=this j (by simpa using hj);rw[e]at this;simpa using this
 ·have:=(key i o ho).2;rw[if_pos hp]at this;simp only[Tl]at this;have:=this.2;rw[hg]at this;simpa using this
 ·have:=(key i ops[i] (SJ hi)).2;rw[if_neg (by omega)]at this;simp only[Tv]at this;have:=this j (by simpa using hj);refine Qd ops ops.toList [] 0 rfl (λk o hk=>by simpa using hk) (by simp) i j ?_;simpa[Js]using this
theorem Rd{α β:Type}{f g:α->Option β}:∀{l:List α},(∀x∈l,f x=g x)->l.filterMap f=l.filterMap g
 |[],_=>rfl
 |x::l,h=>by
  have ih:=Rd (l:=l) λy hy=>h y (Td _ hy);simp only[List.filterMap_cons,h x (TC ..),ih]
def kS (ops:Array Tu)(f:Nat->AV)(o:Tu):List (Nat×AV):=(cS o).filterMap λj=>(cZ ops j).map λd=>(d,f j)
def vQ (lv:Bool)(P:SI)(r:Option Nat)(ops:Array Tu)(T0:List (Nat×AV))(H:List aa)(f:Nat->AV)(i:Nat)(o:Tu):Prop:=
 match o.guard with
 |none=>dF lv P r o ⟨kS ops f o++T0,H⟩ (f i)
 |some (j,b8)=>∃d,cZ ops j=some d/\((∃b,look (kS ops f o++T0) d=some (.val (.bool b))/\(b=b8->dF lv P r o ⟨kS ops f o++T0,H⟩ (f i))/\(b= !b8->f i=.val undef))\/(look (kS ops f o++T0) d=some (.val undef)/\f i=.val undef))
theorem vr(l m:List (Nat×AV))(t:Nat):look (l++m) t=(look l t).or (look m t):=by
 induction l with
 |nil=>rfl
 |cons x l ih=>
  obtain⟨k,a⟩:=x;simp only[Vm,look];split
  ·rfl
  ·exact ih
theorem oJ{l:List (Nat×AV)}{t:Nat}{a:AV}(h:look l t=some a):(t,a)∈l:=by
 induction l with
 |nil=>cases h
 |cons x l ih=>
  obtain⟨k,b⟩:=x;simp only[look]at h;split at h
  ·rename_i e;subst e;cases h;exact TC ..
  ·exact Td _ (ih h)
theorem Nm{l:List (Nat×AV)}{t:Nat}(h:∀p∈l,p.1≠t):look l t=none:=by
 induction l with
 |nil=>rfl
 |cons x l ih=>
  obtain⟨k,b⟩:=x;simp only[look];rw[if_neg (h _ (TC ..))];exact ih λp hp=>h p (Td _ hp)
theorem anK{l:List (Nat×AV)}{q:Nat->Bool}{t:Nat}:look (l.filter λp=>q p.1) t=if q t then look l t else none:=by
 induction l with
 |nil=>simp[look]
 |cons x l ih=>
  obtain⟨k,b⟩:=x;by_cases hk:q k=true
  ·rw[Yx (by simpa using hk)];simp only[look];by_cases e:k=t
   ·subst e;simp[hk]
   ·simp[e,ih]
  ·rw[Yy (by simpa using hk),ih];simp only[look];by_cases e:k=t
   ·subst e;simp[hk]
   ·simp[e]
section
variable {ops:Array Tu}{f:Nat->AV}{p:Nat}
theorem anI{o:Tu}{j t:Nat}(hj:j∈cS o)(ht:cZ ops j=some t)(yD:∀j'∈cS o,cZ ops j'=some t->j'=j):look (kS ops f o) t=some (f j):=by
 cases e:look (kS ops f o) t with
 |none=>
  exfalso;have hm:(t,f j)∈kS ops f o:=VZ.2 ⟨j,hj,by rw[ht];rfl⟩;have:∀(l:List (Nat×AV)),(t,f j)∈l->look l t≠none:=by
   intro l;induction l with
   |nil=>intro h;cases h
   |cons x l ih=>
    intro h;obtain⟨k,b⟩:=x;simp only[look];split
    ·simp
    ·rename_i aF;rcases SK.1 h with h|h
     ·cases h;exact absurd rfl aF
     ·exact ih h
  exact this _ hm e
 |some a=>
  obtain⟨j',iE,e'⟩:=VZ.1 (oJ e);obtain⟨d,hd,e'⟩:=Tq.1 e';cases e';rw[yD j' iE hd]
theorem anJ{o:Tu}{t:Nat}(h:∀j∈cS o,cZ ops j≠some t):look (kS ops f o) t=none:=by
 refine Nm λx hx e=> ?_;obtain⟨j,hj,e'⟩:=VZ.1 hx;obtain⟨d,hd,e'⟩:=Tq.1 e';cases e';exact h j hj (by rw[hd];exact congrArg some e)
end
section
variable {lv:Bool}{P:SI}{r:Option Nat}{s:AS}{ops:Array Tu}{nt p:Nat}
def ur (s:AS)(ops:Array Tu)(p:Nat):List (Nat×AV):=s.T.filter λx=>(SU p).all λj=>cZ ops j !=some x.1
theorem Hv(t:Nat):look (ur s ops p) t=if(SU p).all (λj=>cZ ops j !=some t)then look s.T t else none:=anK (q:=λt=>(SU p).all λj=>cZ ops j !=some t)
structure oV (s:AS)(ops:Array Tu)(fs:List AV)(s':AS):Prop where
 H:s'.H=s.H
 new:∀j t,j<fs.length->cZ ops j=some t->look s'.T t=fs[j]?
 old:∀t,(∀j,j<fs.length->cZ ops j≠some t)->look s'.T t=look s.T t
theorem oV.put(aq:zG nt p ops){fs:List AV}{s':AS}(h:oV s ops fs s')(hp:fs.length<p){o:Tu}(ho:ops[fs.length]?=some o)(av:AV):oV s ops (fs++[av]) (s'.put o.dst av):=by
 have hd:cZ ops fs.length=o.dst:=by simp[cZ,ho]
 refine⟨by rw[fb];exact h.H,λj t hj ht=> ?_,λt ht=> ?_⟩
 ·simp only[S5,T_]at hj;by_cases LI:j=fs.length
  ·subst LI;rw[hd]at ht;rw[ht];simp[AS.put,look]
  ·have iE:j<fs.length:=(by omega);rw[SX iE,<- h.new j t iE ht];cases tw:o.dst with
   |none=>rfl
   |some d=>
    have aF:d≠t:=λe=>aq.dN fs.length j o d iE hp ho tw (by rw[e];exact ht);simp[AS.put,look,aF]
 ·have hold:=h.old t λj hj=>ht j (by simp;omega);rw[<- hold];cases tw:o.dst with
  |none=>rfl
  |some d=>
   have aF:d≠t:=λe=>ht fs.length (by simp) (by rw[hd,tw,e]);simp[AS.put,look,aF]
theorem oV.se{fs:List AV}{s':AS}(h:oV s ops fs s'){d:Nat}{a:AV}(hd:look s'.T d=some a):oV s ops fs ⟨(d,a)::s'.T,s'.H⟩:=by
 have e:∀t,look ((d,a)::s'.T) t=look s'.T t:=λt=>by
  simp only[look];split
  ·rename_i e;subst e;exact hd.symm
  ·rfl
 exact⟨h.H,λj t hj ht=>by rw[e];exact h.new j t hj ht,λt ht=>by rw[e];exact h.old t ht⟩
theorem oV.seen(aq:zG nt p ops){fs gs:List AV}{s':AS}(h:oV s ops fs s')(hp:fs.length<p){o:Tu}(ho:ops[fs.length]?=some o){t:Nat}(ht:∀j,j<p->cZ ops j=some t->j∈cS o):
  look (kS ops (λj=>(fs++gs).getD j (.val undef)) o++ur s ops p) t=look s'.T t:=by
 have iw:=aq.low fs.length o ho;have amo:∀j j',j<p->j'<p->cZ ops j=some t->cZ ops j'=some t->j'=j:=λj j' hj iE e e'=>by
  have get:∀i,i<p->∃o,ops[i]?=some o:=λi hi=>⟨_,SJ (Tf hi aq.le)⟩;rcases XI j j' with hlt|hlt|hlt
  ·obtain⟨o',ba⟩:=get j' iE;exact absurd e (aq.dN j' j o' t hlt iE ba (by simpa[cZ,ba]using e'))
  ·exact hlt.symm
  ·obtain⟨o',ba⟩:=get j hj;exact absurd e' (aq.dN j j' o' t hlt hj ba (by simpa[cZ,ba]using e))
 rw[vr];by_cases hex:∃j,j<p/\cZ ops j=some t
 ·obtain⟨j,hj,wK⟩:=hex;have jD:=ht j hj wK;have e9:=iw j jD;rw[anI jD wK λj' iE e=>amo j j' hj (Ws (iw j' iE) hp) wK e];rw[h.new j t e9 wK];simp[SE,SX e9,SW e9]
 ·have fu:∀j,j<p->cZ ops j≠some t:=λj hj e=>hex ⟨j,hj,e⟩;rw[anJ λj hj=>fu j (Ws (iw j hj) hp),Option.none_or,Hv,if_pos (by simp only[Tv];intro j hj;simpa using fu j (by simpa using hj))];exact(h.old t λj hj=>fu j (by omega)).symm
theorem HY(aq:zG nt p ops){K:AS->Prop}:∀(n:Nat)(fs:List AV)(s':AS),fs.length+n=p->oV s ops fs s'->mW lv P ops ((ops.toList.take p).drop fs.length) s' K->
  ∃gs,(fs++gs).length=p/\(∀i o,fs.length<=i->i<p->ops[i]?=some o->vQ lv P r ops (ur s ops p) s.H (λj=>(fs++gs).getD j (.val undef)) i o)/\∃dn,oV s ops (fs++gs) dn/\K dn
 |0,fs,s',hn,hr,h=>by
  have:(ops.toList.take p).drop fs.length=[]:=by
   apply TY;simp;omega
  rw[this]at h;exact⟨[],by simp;omega,λi o h1 h2=>absurd h2 (by omega),s',by simpa using hr,h⟩
 |n+1,fs,s',hn,hr,h=>by
  have hp:fs.length<p:=by omega
  have aV:fs.length<ops.size:=Tf hp aq.le;have ho:ops[fs.length]?=some ops[fs.length]:=SJ aV;generalize L7:ops[fs.length]=o at ho;have hd:(ops.toList.take p).drop fs.length=o::(ops.toList.take p).drop (fs.length+1):=by
   rw[TL (by simp;omega)];simp[L7]
  rw[hd]at h;have alH:∀t,auW t∈o.op.operands->∀j,j<p->cZ ops j=some t->j∈cS o:=λt ht j hj e=>aq.NE fs.length o t j hp ho ht hj e;have cr:∀(s1:AS)(gs:List AV),oV s ops fs s1->∀x∈o.op.operands,AS.ev s1 x=AS.ev ⟨kS ops (λj=>(fs++gs).getD j (.val undef)) o++ur s ops p,s.H⟩ x:=λs1 gs Dx x hx=>by
   cases x with
   |tmp t=>exact(Dx.seen aq hp ho (alH t hx)).symm
   |_=>rfl
  have go:∀(s1:AS),oV s ops fs s1->(AQ lv P s1 o λav=>mW lv P ops ((ops.toList.take p).drop (fs.length+1)) (s1.put o.dst av) K)->
    ∃av gs,(fs++av::gs).length=p/\dF lv P r o ⟨kS ops (λj=>(fs++av::gs).getD j (.val undef)) o++ur s ops p,s.H⟩ av/\(∀i o,fs.length+1<=i->i<p->ops[i]?=some o->vQ lv P r ops (ur s ops p) s.H (λj=>(fs++av::gs).getD j (.val undef)) i o)/\∃dn,oV s ops (fs++av::gs) dn/\K dn:=λs1 Dx h1=>by
   obtain⟨av0,_,_⟩:=h1.sound (r:=r);have dL:s1=⟨s1.T,s.H⟩:=(by rw[<- Dx.H]);rw[dL]at h1;have h2:=AQ.congr (T':=kS ops (λj=>(fs++[]).getD j (.val undef)) o++ur s ops p) (λx hx=>by rw[<- dL];exact cr s1 [] Dx x hx) h1;obtain⟨av,hq,h3⟩:=h2.sound (r:=r);obtain⟨gs,g1,g2,dn,g3,g4⟩:=HY aq n (fs++[av]) (s1.put o.dst av) (by simp;omega) (Dx.put aq hp ho av) (by rw[<- dL]at h3;simpa using h3);have e:fs++[av]++gs=fs++av::gs:=(by simp);rw[e]at g1 g2 g3;refine⟨av,gs,g1,?_,λi o hi=>g2 i o (by simpa using hi),dn,g3,g4⟩;have ed:kS ops (λj=>(fs++av::gs).getD j (.val undef)) o=kS ops (λj=>(fs++[]).getD j (.val undef)) o:=by
    unfold kS;apply Rd;intro j hj;have e9:=aq.low fs.length o ho j hj;simp[SE,SX e9]
   rw[ed];exact hq
  simp only[mW]at h;split at h
  ·rename_i hg;obtain⟨av,gs,g1,g2,g3,g4⟩:=go s' hr h;refine⟨av::gs,g1,λi o' hi oE ba=> ?_,g4⟩;by_cases dD:i=fs.length
   ·subst dD;rw[ho]at ba;cases ba;unfold vQ;rw[hg];simpa[SE]using g2
   ·exact g3 i o' (by omega) oE ba
  ·rename_i j b8 hg;obtain⟨d,gr,hA⟩:=h.out;obtain⟨a,e_,hB⟩:=hA.out;have jD:=aq.CS fs.length o j b8 hp ho hg;have e9:=aq.low fs.length o ho j jD;have Mm:∀gs,look (kS ops (λj=>(fs++gs).getD j (.val undef)) o++ur s ops p) d=some a:=λgs=>by
    rw[hr.seen aq hp ho λj' iE e=> ?_]
    ·exact e_
    ·have get:∀i,i<p->∃o,ops[i]?=some o:=λi hi=>⟨_,SJ (Tf hi aq.le)⟩;rcases XI j j' with hlt|hlt|hlt
     ·obtain⟨o',ba⟩:=get j' iE;exact absurd gr (aq.dN j' j o' d hlt iE ba (by simpa[cZ,ba]using e))
     ·rw[<- hlt];exact jD
     ·obtain⟨o',ba⟩:=get j (by omega);exact absurd e (aq.dN j j' o' d hlt (by omega) ba (by simpa[cZ,ba]using gr))
   rcases hB with⟨b,e1,hC,hD⟩|⟨e1,hZ⟩
   rotate_left
   ·subst e1;obtain⟨gs,g1,g2,dn,g3,g4⟩:=HY aq n (fs++[.val undef]) _ (by simp;omega) (hr.put aq hp ho (.val undef)) (by simpa using hZ);have e:fs++[.val undef]++gs=fs++ .val undef::gs:=(by simp);rw[e]at g1 g2 g3;refine⟨.val undef::gs,g1,λi o' hi oE ba=> ?_,dn,g3,g4⟩;by_cases dD:i=fs.length
    ·subst dD;rw[ho]at ba;cases ba;unfold vQ;rw[hg];exact⟨d,gr,.inr ⟨Mm _,by simp[SE]⟩⟩
    ·exact g2 i o' (by simp;omega) oE ba
   subst e1;by_cases hb:b=b8
   ·subst hb;obtain⟨av,gs,g1,g2,g3,g4⟩:=go _ (hr.se e_) (hC rfl);refine⟨av::gs,g1,λi o' hi oE ba=> ?_,g4⟩;by_cases dD:i=fs.length
    ·subst dD;rw[ho]at ba;cases ba;unfold vQ;rw[hg];refine⟨d,gr,.inl ⟨b,Mm _,λ_=>by simpa[SE]using g2,λe=>by cases b<;>cases e⟩⟩
    ·exact g3 i o' (by omega) oE ba
   ·have dI:b= !b8:=(by cases b<;>cases b8<;>simp_all);subst dI;have h3:=hD rfl;obtain⟨gs,g1,g2,dn,g3,g4⟩:=HY aq n (fs++[.val undef]) _ (by simp;omega) ((hr.se e_).put aq hp ho (.val undef)) (by simpa using h3);have e:fs++[.val undef]++gs=fs++ .val undef::gs:=(by simp);rw[e]at g1 g2 g3;refine⟨.val undef::gs,g1,λi o' hi oE ba=> ?_,dn,g3,g4⟩;by_cases dD:i=fs.length
    ·subst dD;rw[ho]at ba;cases ba;unfold vQ;rw[hg];exact⟨d,gr,.inl ⟨!b8,Mm _,λe=>absurd e hb,λ_=>by simp[SE]⟩⟩
    ·exact g2 i o' (by simp;omega) oE ba
structure IT (E:Env)(V:View)(ops:Array Tu)(T0:List (Nat×AV))(H:List aa)(f:Nat->AV)(X:List Nat)(a:Act)(nt:Nat):Prop where
 bu:Conc E V H
 base:cg E T0 a.tmps
 done:∀i∈X,∀d,cZ ops i=some d->ap E (f i) (a.tmps.getD d undef)
 size:a.tmps.size=nt
theorem Bs{X:List Nat}(hX:∀i∈X,∀o,ops[i]?=some o->∀j∈cS o,j∈X){i j:Nat}(h:Reach ops i j):((∀o,ops[i]?=some o->∀k∈cS o,k∈X))->j∈X:=by
 induction h with
 |JQ ho hj=>intro hd;exact hd _ ho _ hj
 |more ho hk _ ih=>intro hd;exact ih (hX _ (hd _ ho _ hk))
theorem aqP(aq:zG nt p ops){X l:List Nat}(hs:lZ ops X l):∀q,p<=q->q<=ops.size->(∀i,i∈X<->i<q)->(∀i∈X,∀o,ops[i]?=some o->∀j∈cS o,j∈X)->l=T9 q (ops.size-q):=by
 induction hs with
 |nil X h=>
  intro q hp hq hX _;have:ops.size<=q:=by
   apply Tn;intro hn;have:=(hX q).1 (h q (by omega));omega
  have:ops.size-q=0:=by omega
  rw[this];rfl
 |cons o ho hn hd _ ih=>
  rename_i X i l _;intro q hp hq hX hc;have hi:i<ops.size:=(SR.1 ho).1;have hiq:q<=i:=by
   apply Tn;intro h;exact hn ((hX i).2 (by omega))
  have hqi:i=q:=by
   apply Tn;intro aF;have:=Bs hc (aq.suf i q (by omega) hi (by omega)) (λo' ba k hk=>by rw[ho]at ba;cases ba;exact hd k hk);have:=(hX q).1 this;omega
  subst hqi;have e:ops.size-i=(ops.size-(i+1))+1:=by omega
  rw[e,VU];congr 1;refine ih (i+1) (by omega) (by omega) (λk=> ?_) (λk hk o' ba j hj=> ?_)
  ·simp only[SK,hX];omega
  ·rcases SK.1 hk with rfl|hk
   ·rw[ho]at ba;cases ba;exact Td _ (hd j hj)
   ·exact Td _ (hc k hk o' ba j hj)
theorem ahJ{T0:List (Nat×AV)}{H:List aa}{f:Nat->AV}(aq:zG nt p ops)(akz:∀j,j<p->∀d,cZ ops j=some d->look T0 d=none)(ay:∀(i:Nat) o,i<p->ops[i]?=some o->vQ lv P r ops T0 H f i o){X l:List Nat}(hs:lZ ops X l):
  (∀i∈X,i<p)->(∀i∈X,∀o,ops[i]?=some o->∀j∈cS o,j∈X)->∀(E:Env)(V:View)(a:Act)(Q:Ex->Act->View->Prop),IT E V ops T0 H f X a nt->
   (∀E' V' a' X',Kept E E' V V' a a'->IT E' V' ops T0 H f X' a' nt->(∀i,i<p->i∈X')->dp lv P r ops Q (T9 p (ops.size-p)) a' V')->dp lv P r ops Q l a V:=by
 have full:∀X:List Nat,(∀i∈X,i<p)->(∀i,i<p->i∈X)->∀i,i∈X<->i<p:=λX h1 h2 i=>⟨h1 i,h2 i⟩;induction hs with
 |nil X h=>
  intro hX hc E V a Q ah hQ;have iy:p=ops.size:=by
   apply Tn;intro aF;have:=hX p (h p (by have:=aq.le;omega));omega
  have:=hQ E V a X (Kept.refl E V a) ah (λi hi=>h i (by omega));rw[iy,Vd]at this;exact this
 |cons o ho hn hd lK ih=>
  rename_i X i l;intro hX hc E V a Q ah hQ;have hi:i<ops.size:=(SR.1 ho).1;by_cases oE:i<p
  ·simp only[dp,ho];have oz:∀k∈i::X,k<p:=λk hk=>(SK.1 hk).elim (λe=>by rw[e];exact oE) (hX k);have bi:∀k∈i::X,∀o',ops[k]?=some o'->∀j∈cS o',j∈i::X:=λk hk o' ba j hj=>by
    rcases SK.1 hk with rfl|hk
    ·rw[ho]at ba;cases ba;exact Td _ (hd j hj)
    ·exact Td _ (hc k hk o' ba j hj)
   have tok:cg E (kS ops f o++T0) a.tmps:=by
    intro t av e;rw[vr]at e;cases hl:look (kS ops f o) t with
    |none=>rw[hl]at e;exact ah.base t av e
    |some x=>
     rw[hl]at e;cases e;obtain⟨j,hj,e⟩:=VZ.1 (oJ hl);obtain⟨d,cz,e⟩:=Tq.1 e;cases e;obtain⟨oj,kG,jh⟩:=Tg.1 cz;exact⟨by rw[ah.size];exact aq.dst j oj _ kG jh,ah.done j (hd j hj) _ cz⟩
   have tw:cZ ops i=o.dst:=(by simp[cZ,ho]);have put:∀{E' V'}(v:SP),E.Le E'->Conc E' V' H->ap E' (f i) v->IT E' V' ops T0 H f (i::X) (a.put o.dst v) nt:=λ{E' V'} v hle cO hv=>by
    cases dt:o.dst with
    |none=>
     refine⟨cO,ah.base.mono hle,λk hk d ep=> ?_,ah.size⟩;rcases SK.1 hk with rfl|hk
     ·rw[tw,dt]at ep;cases ep
     ·exact(ah.done k hk d ep).mono hle
    |some d0=>
     have hlt:d0<a.tmps.size:=(by rw[ah.size];exact aq.dst i o d0 ho dt);refine⟨cO,λt av e=> ?_,λk hk d ep=> ?_,by simp[X6,ah.size]⟩
     ·have aF:d0≠t:=λe'=>(by rw[<- e',akz i oE d0 (by rw[tw,dt])]at e;cases e);have:=ah.base.mono hle t av e;exact⟨by simpa[X6]using this.1,by simpa[X6,SH,SV aF]using this.2⟩
     ·by_cases rK:k=i
      ·subst rK;rw[tw,dt]at ep;cases ep;simpa[X6,SH,Tb hlt]using hv
      ·have aI:k∈X:=(SK.1 hk).resolve_left rK;have aF:d0≠d:=λe'=>by
        subst e';have hkp:=hX k aI;have get:∀i,i<p->∃o,ops[i]?=some o:=λi hi=>⟨_,SJ (Tf hi aq.le)⟩;rcases XI k i with hlt|hlt|hlt
        ·exact aq.dN i k o d0 hlt oE ho dt ep
        ·exact rK hlt
        ·obtain⟨o',ba⟩:=get k hkp;exact aq.dN k i o' d0 hlt hkp ba (by simpa[cZ,ba]using ep) (by rw[tw,dt])
       have:=(ah.done k aI d ep).mono hle;simpa[X6,SH,SV aF]using this
   have go:dF lv P r o ⟨kS ops f o++T0,H⟩ (f i)->xD lv P r o a V (dp lv P r ops Q l) Q:=λhq=>
    hq E V a _ Q ah.bu tok (.inr (aq.we i o ho)) λE' V' v hle ce eT cO hv=>
     ih oz bi E' V' (a.put o.dst v) Q (put v hle cO hv) λbS aS cj mE hk dj fD=>
      hQ bS aS cj mE ⟨hle.trans hk.le,hk.size.trans (dX _ _ _),hk.defers.trans (put_defers _ _ _),hk.role.trans ce,hk.deaf.trans eT⟩ dj fD
   have AG:=ay i o oE ho;unfold vQ at AG;split at AG
   ·rename_i Dk;have hw:Ti o (yielded ops a.tmps)=true:=(by unfold Ti;rw[Dk]);rw[if_pos hw];exact .inl (go AG)
   ·rename_i j b8 Dk;obtain⟨d,gr,AG⟩:=AG;rcases AG with⟨b,bP,h1,h2⟩|⟨bP,hu⟩
    rotate_left
    ·obtain⟨hlt,hv⟩:=tok d _ bP;have hy:yielded ops a.tmps j≠some b8:=by
      obtain⟨oj,kG,jh⟩:=Tg.1 gr;generalize hx:a.tmps.getD d undef=x at hv;cases hv;rw[SH,SJ hlt]at hx;simp only[S0]at hx;simp[yielded,kG,jh,SJ hlt,hx,undef]
     have hw:¬Ti o (yielded ops a.tmps)=true:=by
      unfold Ti;rw[Dk];intro h;exact hy (by simpa using h)
     rw[if_neg hw];exact ih oz bi E V (a.put o.dst undef) Q (put undef (Env.Le.refl E) ah.bu (by rw[hu];exact .val _)) λbS aS cj mE hk dj fD=>
      hQ bS aS cj mE ⟨hk.le,hk.size.trans (dX _ _ _),hk.defers.trans (put_defers _ _ _),hk.role,hk.deaf⟩ dj fD
    obtain⟨hlt,hv⟩:=tok d _ bP;have hy:yielded ops a.tmps j=some b:=by
     obtain⟨oj,kG,jh⟩:=Tg.1 gr;generalize hx:a.tmps.getD d undef=x at hv;cases hv;rw[SH,SJ hlt]at hx;simp only[S0]at hx;simp[yielded,kG,jh,SJ hlt,hx]
    by_cases hb:b=b8
    ·have hw:Ti o (yielded ops a.tmps)=true:=(by unfold Ti;rw[Dk];simp[hy,hb]);rw[if_pos hw];exact .inl (go (h1 hb))
    ·have hw:¬Ti o (yielded ops a.tmps)=true:=(by unfold Ti;rw[Dk];simp[hy,hb]);rw[if_neg hw];have hu:=h2 (by cases b<;>cases b8<;>simp_all);exact ih oz bi E V (a.put o.dst undef) Q (put undef (Env.Le.refl E) ah.bu (by rw[hu];exact .val _)) λbS aS cj mE hk dj fD=>
      hQ bS aS cj mE ⟨hk.le,hk.size.trans (dX _ _ _),hk.defers.trans (put_defers _ _ _),hk.role,hk.deaf⟩ dj fD
  ·have fD:∀k,k<p->k∈X:=λk hk=>Bs hc (aq.suf i k (by omega) hi (by omega)) (λo' ba j hj=>by rw[ho]at ba;cases ba;exact hd j hj);have hl:=aqP aq (.cons o ho hn hd lK) p (SO _) aq.le (full X hX fD) hc;rw[hl];exact hQ E V a X (Kept.refl E V a) ah fD
theorem agb{id:Nat}{Φ:an->AS->Prop}(hm:P.follows .mixedOrders=true)(p:Nat)(aq:Ac nt p ops=true)(h:mW lv P ops (ops.toList.take p) s (λs'=>iC lv P ops (ops.toList.drop p) s' (Φ .normal) (λpv s=>Φ (.panic pv) s))):aP lv P r nt (.region id ops true) s Φ:=by
 intro E V a Q ah hQ;have aq:=Ac.out aq;obtain⟨gs,g1,g2,dn,g3,g4⟩:=HY (lv:=lv) (r:=r) aq p [] s (by simp) ⟨rfl,by simp,by simp⟩ (by simpa using h);simp only[UL]at g1 g2 g3;refine OV λt=> ?_;rw[show VO (P.follows .mixedOrders) ops t=UK .any ops ops.size t (TN ops.size false) [] by unfold VO;rw[hm];simp[Zc]];have hs:=aby (ops:=ops) (λi o ho j hj=>aq.low i o ho j hj) ops.size t (TN ops.size false) [] ⟨by simp,λi hi=>by simp[hi]⟩ (UH Y6 (by simp));refine ahJ (T0:=ur s ops p) (H:=s.H) aq (λj hj d hd=> ?_) (λi o hi ho=>g2 i o (by simp) hi ho) hs (by simp) (by simp) E V a Q ⟨ah.bu,λt av e=> ?_,by simp,ah.size⟩ λE' V' a' X' hk aT fD=> ?_
 ·rw[Hv,if_neg];simp only[Tv];intro h;have:=h j (by simpa using hj);rw[hd]at this;simp at this
 ·rw[Hv]at e;split at e
  ·exact ah.tok t av e
  ·cases e
 ·refine Bi (Φ:=Φ) (λo ho d e=> ?_) (λo ho=> .inr ?_) (ops.size-p) p dn (by have:=aq.le;omega) g4 E' V' a' Q ⟨by rw[g3.H];exact aT.bu,λt av e=> ?_,aT.size⟩ (λae e bS aS cj s3 aI qi he hΦ=>hQ ae e bS aS cj s3 (hk.trans aI) qi he hΦ)
  ·obtain⟨i,hi⟩:=YK.1 ho;exact aq.dst i o d hi e
  ·obtain⟨i,hi⟩:=YK.1 ho;exact aq.we i o hi
  ·by_cases hex:∃j,j<p/\cZ ops j=some t
   ·obtain⟨j,hj,wK⟩:=hex;rw[g3.new j t (by omega) wK]at e;obtain⟨oj,kG,jh⟩:=Tg.1 wK;refine⟨by rw[aT.size];exact aq.dst j oj t kG jh,?_⟩;have:=aT.done j (fD j hj) t wK;simpa[SE,e]using this
   ·have fu:∀j,j<p->cZ ops j≠some t:=λj hj e=>hex ⟨j,hj,e⟩;rw[g3.old t λj hj=>fu j (by omega)]at e;refine aT.base t av ?_;rw[Hv,if_pos (by simp only[Tv];intro j hj;simpa using fu j (by simpa using hj))];exact e
end
def sI (T base Vn:List (Nat×AV)):Prop:=T.drop (T.length-base.length)=base/\((T.take (T.length-base.length)).all λp=>(Vn.any λq=>q.1==p.1)|| !(base.any λq=>q.1==p.1))=true
theorem afH{l:List (Nat×AV)}{t:Nat}{a:AV}(h:look l t=some a):(l.any λq=>q.1==t)=true:=Ur.2 ⟨_,oJ h,by simp⟩
theorem Nl{l:List (Nat×AV)}{t:Nat}(h:(l.any λq=>q.1==t)=true):∃a,look l t=some a:=by
 induction l with
 |nil=>cases h
 |cons x l ih=>
  obtain⟨k,b⟩:=x;simp only[look];split
  ·exact⟨b,rfl⟩
  ·rename_i aF;refine ih ?_;simpa[YV,aF]using h
theorem sI.look{T base Vn:List (Nat×AV)}(h:sI T base Vn){t:Nat}{a:AV}(hb:look base t=some a)(hv:look Vn t=none):look T t=some a:=by
 obtain⟨h1,h2⟩:=h;have e:T=T.take (T.length-base.length)++base:=by
  have:=(Vo (T.length-base.length) T).symm;rwa [h1]at this
 rw[e,vr];cases hl:Gg.look (T.take (T.length-base.length)) t with
 |none=>exact hb
 |some x=>
  exfalso;have:=Tv.1 h2 _ (oJ hl);simp only[X7,T1]at this;rcases this with this|this
  ·obtain⟨y,hy⟩:=Nl this;rw[hv]at hy;cases hy
  ·rw[afH hb]at this;cases this
def q_ (base Vi Vn:List (Nat×AV))(Hn:List aa)(s':AS):Prop:=
 sI s'.T (Vi++base) Vn/\(∀p∈Vn,∃b,look s'.T p.1=some b/\Wk b p.2)/\∃G,s'.H=Hn++G/\(G=[]\/(bH Hn/\∀p∈Vn,Lt Hn.length p.2))
section
variable {lv:Bool}{P:SI}{r:Option Nat}{s:AS}
theorem zU{nt:Nat}{α:Type}{lt:α->α->Prop}(wf:WellFounded lt){c:T7}{Φ:an->AS->Prop}(V:α->List (Nat×AV))(Hf:α->List aa)(ok:α->Prop)(m0:α)
  (uS:∀m m',(V m).map (·.1)=(V m').map (·.1)) (gI:∀p∈V m0,∃b,look s.T p.1=some b/\Wk b p.2) (uD:Hf m0=s.H) (hl:∀m,ok m->(Hf m).length=s.H.length) (hm:ok m0)
  (h:bH s.H->(∀t a,look s.T t=some a->Lt s.H.length a)->∀m,ok m->∀R:AS->Prop,(∀s',(∃m',lt m' m/\ok m'/\q_ s.T (V m) (V m') (Hf m') s')->R s')->aP lv P r nt c ⟨V m++s.T,Hf m⟩ (an.then R Φ)):aP lv P r nt (.loop c) s Φ:=by
 have same:∀m m' t,look (V m) t=none->look (V m') t=none:=λm m' t h=>Nm λp hp e=>by
  have h1:p.1∈(V m').map (·.1):=Te.2 ⟨p,hp,rfl⟩;rw[uS m' m]at h1;obtain⟨q,hq,e'⟩:=Te.1 h1;have h2:((V m).any λx=>x.1==t)=true:=Ur.2 ⟨q,hq,by simp[e',e]⟩;obtain⟨a,ha⟩:=Nl h2;rw[h]at ha;cases ha
 intro E V0 a Q ah hQ;have hlt:∀t a,look s.T t=some a->Lt s.H.length a:=λt x e=>by rw[<- ah.bu.n];exact(ah.tok t x e).2.lt
 have h0:s.Sub ⟨V m0++s.T,Hf m0⟩:=⟨λt x e=>by
  rw[vr]at e;cases hl:look (V m0) t with
  |none=>rw[hl]at e;exact⟨x,e,Wk.refl x⟩
  |some y=>rw[hl]at e;cases e;exact gI (t,x) (oJ hl),uD.symm⟩
 refine PF wf (s:=s) (λm=>⟨V m++s.T,Hf m⟩) ok m0 h0 hm (λm aq=>by rw[hl m aq];exact SO _) (λm aq=> ?_) E V0 a Q ah hQ;refine(h ah.bu.aq hlt m aq _ λ_ h=>h).mono λe s' hΦ=> ?_;cases e with
 |normal=>
  obtain⟨m',q1,q2,hk,hv,G,hG,tz⟩:=hΦ;have tok:∀t x,look (V m'++s.T) t=some x->∃b,look s'.T t=some b/\Wk b x/\(look (V m') t=some x\/look s.T t=some x):=λt x e=>by
   rw[vr]at e;cases hl:look (V m') t with
   |none=>
    rw[hl]at e;have hb:look (V m++s.T) t=some x:=(by rw[vr,same m' m t hl];exact e);exact⟨x,hk.look hb hl,Wk.refl x,.inr e⟩
   |some y=>
    rw[hl]at e;cases e;obtain⟨b,h1,h2⟩:=hv (t,x) (oJ hl);exact⟨b,h1,h2,.inl rfl⟩
  refine⟨m',q1,q2,?_⟩;rcases tz with rfl|⟨nE,LO⟩
  ·exact .inl ⟨λt x e=>by obtain⟨b,h1,h2,_⟩:=tok t x e;exact⟨b,h1,h2⟩,by rw[hG,SN]⟩
  ·refine .inr ⟨λt x e=> ?_,⟨G,hG⟩,nE⟩;obtain⟨b,h1,h2,h3⟩:=tok t x e;refine⟨b,h1,h2,?_⟩;rcases h3 with h3|h3
   ·exact LO (t,x) (oJ h3)
   ·show Lt (Hf m').length x;rw[hl m' q2];exact hlt t x h3
 |_=>exact hΦ
theorem gF{nt:Nat}{c:T7}{Φ:an->AS->Prop}(n:Nat)(V:Nat->List (Nat×AV))(Hf:Nat->List aa)(ok:Nat->Prop)
  (uS:∀m m',(V m).map (·.1)=(V m').map (·.1)) (gI:∀p∈V 0,∃b,look s.T p.1=some b/\Wk b p.2) (uD:Hf 0=s.H) (hl:∀m,m<=n->ok m->(Hf m).length=s.H.length) (hm:ok 0)
  (h:bH s.H->(∀t a,look s.T t=some a->Lt s.H.length a)->∀m,m<=n->ok m->∀R:AS->Prop,(∀s',(m<n/\ok (m+1)/\q_ s.T (V m) (V (m+1)) (Hf (m+1)) s')->R s')->aP lv P r nt c ⟨V m++s.T,Hf m⟩ (an.then R Φ)):aP lv P r nt (.loop c) s Φ:=by
 refine zU (measure λi=>n-i).wf V Hf (λi=>i<=n/\ok i) 0 uS gI uD (λm h=>hl m h.1 h.2) ⟨WQ _,hm⟩ (λh1 h2 m aq R hR=> ?_);exact h h1 h2 m aq.1 aq.2 R λs' ⟨q1,q2,q3⟩=>hR s' ⟨m+1,(by show n-(m+1)<n-m;omega),⟨q1,q2⟩,q3⟩
end
theorem pL{T base Vn:List (Nat×AV)}(h1:T.drop (T.length-base.length)=base)(h2:((T.take (T.length-base.length)).all λp=>(Vn.any λq=>q.1==p.1)|| !(base.any λq=>q.1==p.1))=true):sI T base Vn:=⟨h1,h2⟩
theorem lB{H L:List aa}{x:SP}{k:AV->List aa->Prop}(hH:bH H)(h:k (.val x) H):cF H.length (H++L) (.val x) k:=jU (Wk.refl _) rfl (SO _) hH (.val x) h
theorem jA{H L:List aa}{a b:AV}{k:AV->List aa->Prop}(hH:bH H)(hw:Wk a b)(hl:Lt H.length b)(h:k b H):cF H.length (H++L) a k:=jU hw rfl (SO _) hH hl h
def aa.cellsOf:aa->Option (List AV)
 |.cells l _|.part _ l _|.own _ l _=>some l
 |_=>none
theorem ahc(l:List AV)(e:TypeId):aa.cellsOf (.cells l e)=some l:=rfl
theorem ahe(p:Nat)(l:List AV)(e:TypeId):aa.cellsOf (.part p l e)=some l:=rfl
def aa.rowOf:aa->Option (List AV)
 |.cells l _|.part _ l _|.own _ l _=>some l
 |_=>none
theorem aqt(l:List AV)(e:TypeId):aa.rowOf (.cells l e)=some l:=rfl
theorem ahd(p:Nat)(l:List AV)(e:TypeId):aa.cellsOf (.own p l e)=some l:=rfl
theorem aqu(p:Nat)(l:List AV)(e:TypeId):aa.rowOf (.own p l e)=some l:=rfl
theorem aqv(p:Nat)(l:List AV)(e:TypeId):aa.rowOf (.part p l e)=some l:=rfl
theorem af8(T:List (Nat×AV))(H:List aa)(i off:Nat):AS.at ⟨T,H⟩ (.op i off)=((H[i]?).bind aa.cellsOf).map λl=>l.drop off:=by
 simp only[AS.at];cases H[i]?with
 |none=>rfl
 |some x=>cases x<;>rfl
theorem ao3(k:TZ)(n:Int):AV.parts (.val (.int k n))=some [.val (.int k n)]:=rfl
theorem aoZ(b:Bool):AV.parts (.val (.bool b))=some [.val (.bool b)]:=rfl
theorem apd(b:ByteArray):AV.parts (.val (.string b))=some [.val (.string b)]:=rfl
theorem apa(b:Option U_):AV.parts (.val (.pointer b))=some [.val (.pointer b)]:=rfl
theorem ao6:AV.parts (.val .nilFunc)=some [.val .nilFunc]:=rfl
theorem ao7:AV.parts (.val .nilIface)=some [.val .nilIface]:=rfl
theorem ao4(r:Option Nat):AV.parts (.val (.map r))=some [.val (.map r)]:=rfl
theorem aoY(l:List AV):AV.parts (.agg l)=some l:=rfl
theorem apc(n:Nat)(l:List AV)(e:End):AV.parts (.sl n l e)=some [.sl n l e]:=rfl
theorem anq(n:Nat)(l:List AV)(e:End):AV.len (.sl n l e)=some n:=by rw[AV.len]
theorem anp(i o n c:Nat):AV.len (.bp i o n c)=some n:=by rw[AV.len]
attribute [seval] anq anp
theorem ao9(i o n c:Nat):AV.parts (.bp i o n c)=some [.bp i o n c]:=rfl
theorem apb(l:List AV):AV.parts (.rp l)=some [.rp l]:=rfl
theorem ao8(i o:Nat):AV.parts (.op i o)=some [.op i o]:=rfl
theorem ao1(f:Fn)(l m:List AV):AV.parts (.fn f l m)=some [.fn f l m]:=rfl
theorem ao2(t:TypeId)(a:AV):AV.parts (.da t a)=some [.da t a]:=rfl
theorem ao5(i:Nat):AV.parts (.mp i)=some [.mp i]:=rfl
theorem am9(k:TZ)(n:Int):AV.leaf (.val (.int k n))=true:=rfl
theorem am5(b:Bool):AV.leaf (.val (.bool b))=true:=rfl
theorem anl(b:ByteArray):AV.leaf (.val (.string b))=true:=rfl
theorem ani(b:Option U_):AV.leaf (.val (.pointer b))=true:=rfl
theorem anc:AV.leaf (.val .nilFunc)=true:=rfl
theorem ane:AV.leaf (.val .nilIface)=true:=rfl
theorem ana(r:Option Nat):AV.leaf (.val (.map r))=true:=rfl
theorem ank(n:Nat)(l:List AV)(e:End):AV.leaf (.sl n l e)=true:=rfl
theorem anh(i o n c:Nat):AV.leaf (.bp i o n c)=true:=rfl
theorem anj(l:List AV):AV.leaf (.rp l)=true:=rfl
theorem ang(i o:Nat):AV.leaf (.op i o)=true:=rfl
theorem am7(f:Fn)(l m:List AV):AV.leaf (.fn f l m)=true:=rfl
theorem am8(t:TypeId)(a:AV):AV.leaf (.da t a)=true:=rfl
theorem anb(i:Nat):AV.leaf (.mp i)=true:=rfl
theorem aow(k:TZ)(n:Int):AV.pN (.int k n)=.val (.int k n):=rfl
theorem aot(b:Bool):AV.pN (.bool b)=.val (.bool b):=rfl
theorem aoz:AV.pN (.slice none 0 0)=.sl 0 [] .exact:=rfl
theorem aou:AV.pN .nilFunc=.val .nilFunc:=rfl
theorem aov:AV.pN .nilIface=.val .nilIface:=rfl
theorem aoy(a:Option U_):AV.pN (.pointer a)=.val (.pointer a):=rfl
theorem aox(a:Option Nat):AV.pN (.map a)=.val (.map a):=rfl
theorem atq(l:List SP):lX (.agg l.toArray)=l.map AV.pN:=by simp[lX,Z']
theorem atw(k:TZ)(n:Int):lX (.int k n)=[.val (.int k n)]:=rfl
theorem atr(b:Bool):lX (.bool b)=[.val (.bool b)]:=rfl
theorem atz:lX (.slice none 0 0)=[.sl 0 [] .exact]:=rfl
theorem atu:lX .nilFunc=[.val .nilFunc]:=rfl
theorem atv:lX .nilIface=[.val .nilIface]:=rfl
theorem aty(a:Option U_):lX (.pointer a)=[.val (.pointer a)]:=rfl
theorem atx(a:Option Nat):lX (.map a)=[.val (.map a)]:=rfl
theorem aii(s:AS):j7 s []=some []:=rfl
theorem aih(s:AS)(i:Nat)(x:Tj)(l:List (Nat×Tj)):j7 s ((i,x)::l)=(s.ev x).bind λa=>(j7 s l).map λaE=>(i,a)::aE:=by
 simp only[j7];cases s.ev x with
 |none=>rfl
 |some a=>cases j7 s l<;>rfl
theorem ajv(p:Nat->Option (Nat×Nat))(c:List AV):oo p c []=some c:=rfl
theorem aju(p:Nat->Option (Nat×Nat))(c:List AV)(i:Nat)(a:AV)(r:List (Nat×AV)):oo p c ((i,a)::r)=(p i).bind λx=>(a.parts).bind λlp=>if lp.length≠x.2\/x.1+lp.length>c.length then none else oo p (iJ c x.1 lp) r:=by
 simp only[oo];cases p i with
 |none=>rfl
 |some x=>cases a.parts<;>rfl
theorem apl(l:List (Nat×Nat))(i:Nat):iD.at (.fields l) i=l[i]?:=rfl
theorem apk(sz i:Nat):iD.at (.elems sz) i=some (i* sz,sz):=rfl
theorem ato(z:SP):gU z 0=[]:=rfl
theorem arv(s:AS)(sz m:Nat)(l:List AV)(e:End):s.src sz (.sl m l e)=some (m,l.take (m* sz)):=rfl
theorem aru(T:List (Nat×AV))(H:List aa)(sz i off m c:Nat):AS.src ⟨T,H⟩ sz (.bp i off m c)=((H[i]?).bind aa.rowOf).map λl=>(m,(l.drop off).take (m* sz)):=by
 simp only[AS.src];cases H[i]?with
 |none=>rfl
 |some x=>cases x<;>rfl
theorem af1(n:Nat)(l:List AV)(e:End)(kO:Nat->Nat->Nat->Nat->Prop)(k:Nat->List AV->End->Prop):AV.p8 (.sl n l e) kO k=k n l e:=by rw[AV.p8]
theorem af0(i o n c:Nat)(kO:Nat->Nat->Nat->Nat->Prop)(k:Nat->List AV->End->Prop):AV.p8 (.bp i o n c) kO k=kO i o n c:=by rw[AV.p8]
theorem afK:type_of% @uf.eq_1:=by intros;rw[uf.eq_1]
theorem afI(s:AS)(dst:Option Nat)(next:AS->Prop)(n m sz:Nat)(elem:TypeId)(l l':List AV):BV s dst next n m sz elem l l' .exact=next ((⟨s.T,s.H++[.tail (n+m) sz elem]⟩:AS).put dst (.sl (n+m) (l++l') (.opn s.H.length))):=rfl
theorem afJ(s:AS)(dst:Option Nat)(next:AS->Prop)(n m sz:Nat)(elem:TypeId)(l l':List AV)(k:Nat):BV s dst next n m sz elem l l' (.opn k)=((match s.H[k]?with
   |some (.tail n' ez gX)=>n'=n/\ez=sz/\gX=elem
   |_=>False)/\(∀a∈l',a.leaf=true)/\next ((⟨s.T,s.H.set k (.tail (n+m) sz elem)⟩:AS).put dst (.sl (n+m) (l++l') (.opn k)))):=rfl
theorem aqk(P:SI)(T:List (Nat×AV))(H:List aa)(b t:Nat):vC P ⟨T,H⟩ (.cell b t)=(look T b).bind λp=>((⟨T,H⟩:AS).at p).bind λl=>(Ty P t).bind λx=>if x.2 then(if x.1<=l.length then some (.agg (l.take x.1))else none)else l[0]?:=rfl
section
variable {lv:Bool}{P:SI}{s s':AS}
@[congr] theorem auG {α : Type} {x y : Option α} {k : α -> Prop} (h : x = y) : ao x k = ao y k := by rw [h]
@[congr] theorem atN {a b : AV} {k : Bool -> Prop} (h : a = b) : AV.asBool a k = AV.asBool b k := by rw [h]
@[congr] theorem atO {a b : AV} {k : TZ -> Int -> Prop} (h : a = b) : AV.asInt a k = AV.asInt b k := by rw [h]
@[congr] theorem atU {a b : AV} {k : List AV -> Prop} (h : a = b) : AV.xN a k = AV.xN b k := by rw [h]
@[congr] theorem atM {a b : AV} {k : List AV -> Prop} (h : a = b) : AV.asAgg a k = AV.asAgg b k := by rw [h]
@[congr] theorem atQ {a b : AV} {k : Nat -> Nat -> Prop} (h : a = b) : AV.p7 a k = AV.p7 b k := by rw [h]
@[congr] theorem atP {a b : AV} {k : Nat -> Prop} (h : a = b) : AV.sP a k = AV.sP b k := by rw [h]
@[congr] theorem atT {a b : AV} {k : Nat -> List AV -> End -> Prop} (h : a = b) : AV.v4 a k = AV.v4 b k := by rw [h]
@[congr] theorem atS {a b : AV} {kO : Nat -> Nat -> Nat -> Nat -> Prop} {k : Nat -> List AV -> End -> Prop} (h : a = b) : AV.p8 a kO k = AV.p8 b kO k := by rw [h]
@[congr] theorem atK {H H' : List aa} {k : AV -> List aa -> Prop} {id oI off Ei n n' c0 P4 m m' sz : Nat} {elem : TypeId} {l l' : List AV} (h0 : H = H') (h1 : id = oI) (h2 : off = Ei) (h3 : n = n') (h4 : c0 = P4) (h5 : m = m') (h6 : l = l') : uf H k id off n c0 m sz elem l = uf H' k oI Ei n' P4 m' sz elem l' := by rw [h0, h1, h2, h3, h4, h5, h6]
@[congr] theorem atC {op : Wb} {t : TypeId} {a a' b b' : AV} {k : AV -> Prop} (h : a = a') (h' : b = b') : dA P op t a b k = dA P op t a' b' k := by rw [h, h']
@[congr] theorem atB {s' : AS} {op : Wb} {t : TypeId} {y : Tj} {a a' : AV} {k : AV -> Prop} (hs : s = s') (h : a = a') : iO P s op t y a k = iO P s' op t y a' k := by rw [hs, h]
@[congr] theorem atF {a b : AV} {k : AV -> Prop} (h : a = b) : mw P a k = mw P b k := by rw [h]
@[congr] theorem atA {t : TypeId} {ok : Bool} {a b : AV} {k : AV -> Prop} (h : a = b) : BT P t ok a k = BT P t ok b k := by rw [h]
@[congr] theorem atE {t : TypeId} {a b : AV} {k : AV -> Prop} (h : a = b) : sD P s t a k = sD P s t b k := by rw [h]
@[congr] theorem atI {t : TypeId} {a b : AV} {x y z : Option Int} {k : AV -> Prop} (h : a = b) : sE P t a x y z k = sE P t b x y z k := by rw [h]
@[congr] theorem atG {o : Tu} {k : AV -> Prop} (h : s = s') : ly P s o k = ly P s' o k := by rw [h]
@[congr] theorem atL {o : Tu} {k : AV -> Prop} (h : s = s') : AQ lv P s o k = AQ lv P s' o k := by rw [h]
@[congr] theorem atJ {o : Tu} {next : AS -> Prop} {bad : AV -> AS -> Prop} (h : s = s') : my lv P s o next bad = my lv P s' o next bad := by rw [h]
@[congr] theorem atH {all : Array Tu} {l : List Tu} {next : AS -> Prop} {bad : AV -> AS -> Prop} (h : s = s') : iC lv P all l s next bad = iC lv P all l s' next bad := by rw [h]
@[congr] theorem auI {all : Array Tu} {l l' : List Tu} {K : AS -> Prop} (hl : l = l') (h : s = s') : mW lv P all l s K = mW lv P all l' s' K := by rw [hl, h]
@[congr] theorem atX {r : Option Nat} {nt : Nat} {c : T7} {Φ : an -> AS -> Prop} (h : s = s') : aP lv P r nt c s Φ = aP lv P r nt c s' Φ := by rw [h]
@[congr] theorem auP {K : AS -> Prop} {Φ : an -> AS -> Prop} {e e' : an} (he : e = e') (h : s = s') : an.then K Φ e s = an.then K Φ e' s' := by rw [he, h]
@[congr] theorem auD {i : Nat} {Φ : an -> AS -> Prop} {e e' : an} (he : e = e') (h : s = s') : an.inBlock i Φ e s = an.inBlock i Φ e' s' := by rw [he, h]
end
theorem ae9:type_of% @iC.eq_1:=by intros;rw[iC.eq_1]
theorem ae8:type_of% @iC.eq_2:=by intros;rw[iC.eq_2]
theorem aff:type_of% @my.eq_1:=by intros;rw[my.eq_1]
theorem ae7:type_of% @ly.eq_1:=by intros;rw[ly.eq_1]
theorem apv:type_of% @mW.eq_1:=by intros;rw[mW.eq_1]
theorem apu:type_of% @mW.eq_2:=by intros;rw[mW.eq_2]
theorem afa:type_of% @AQ.eq_1:=by intros;rw[AQ.eq_1]
theorem aqh:type_of% @ie.eq_1:=by intros;rw[ie.eq_1]
theorem aqg:type_of% @ie.eq_2:=by intros;rw[ie.eq_2]
theorem aqj:type_of% @i_.eq_1:=by intros;rw[i_.eq_1]
theorem aik:type_of% @eZ.eq_1:=by intros;rw[eZ.eq_1]
theorem aij:type_of% @eZ.eq_2:=by intros;rw[eZ.eq_2]
theorem aeM:type_of% @BT.eq_1:=by intros;rw[BT.eq_1]
theorem apq:type_of% @iJ.eq_1:=by intros;rw[iJ.eq_1]
theorem aqi:i_ []=.aN []:=by rw[i_];simp
theorem acP(a b:AV)(l:List AV):i_ (a::b::l)=.aN (a::b::l):=by rw[i_];simp
theorem ar6(l:List AV):(AV.rp l).sure=true:=by simp[AV.sure]
theorem ar4(i j:Nat):(AV.op i j).sure=true:=by simp[AV.sure]
theorem ar0(f:TQ)(x y:List AV):(AV.fn (.func f) x y).sure=true:=by simp[AV.sure]
theorem ar1(t:TypeId)(x:AV):(AV.da t x).sure=true:=by simp[AV.sure]
theorem ae3(P:SI)(k:AV->Prop)(name:String)(t:TypeId)(av:AV):mw P (.fn (.method name) [.da t av] []) k=(I1 P t name/\k (.fn (.method name) [.da t av] [])):=by rw[mw]
theorem ae5(P:SI)(k:AV->Prop)(l:List AV):mw P (.rp l) k=k (.rp l):=by simp[mw,AV.sure]
theorem ae4(P:SI)(k:AV->Prop)(i j:Nat):mw P (.op i j) k=k (.op i j):=by simp[mw,AV.sure]
theorem ae1(P:SI)(k:AV->Prop)(f:TQ)(x y:List AV):mw P (.fn (.func f) x y) k=k (.fn (.func f) x y):=by simp[mw,AV.sure]
theorem ae6(P:SI)(k:AV->Prop)(f)(x y:List AV):mw P (.fn (.yield f) x y) k=k (.fn (.yield f) x y):=by simp[mw,AV.sure]
theorem ae2(P:SI)(k:AV->Prop)(t:TypeId)(x:AV):mw P (.da t x) k=k (.da t x):=by simp[mw,AV.sure]
theorem aeW(P:SI)(s:AS)(op:Wb)(xt:TypeId)(t:Nat)(a:AV)(k:AV->Prop):iO P s op xt (.tmp t) a k=ao (s.ev (.tmp t)) λb=>dA P op xt a b k:=by rw[iO]<;>(intros;simp_all)
theorem aeR(P:SI)(s:AS)(op:Wb)(xt:TypeId)(j:TZ)(m:Int)(a:AV)(k:AV->Prop):iO P s op xt (.const (.int j m)) a k=ao (s.ev (.const (.int j m))) λb=>dA P op xt a b k:=by rw[iO]<;>(intros;simp_all)
theorem aeO(P:SI)(s:AS)(op:Wb)(xt:TypeId)(c:Bool)(a:AV)(k:AV->Prop):iO P s op xt (.const (.bool c)) a k=ao (s.ev (.const (.bool c))) λb=>dA P op xt a b k:=by rw[iO]<;>(intros;simp_all)
theorem aeV(P:SI)(s:AS)(op:Wb)(xt:TypeId)(c:ByteArray)(a:AV)(k:AV->Prop):iO P s op xt (.const (.string c)) a k=ao (s.ev (.const (.string c))) λb=>dA P op xt a b k:=by rw[iO]<;>(intros;simp_all)
theorem aeN(P:SI)(s:AS)(op:Wb)(xt:TypeId)(c:Array SP)(a:AV)(k:AV->Prop):iO P s op xt (.const (.agg c)) a k=ao (s.ev (.const (.agg c))) λb=>dA P op xt a b k:=by rw[iO]<;>(intros;simp_all)
theorem aeU(P:SI)(s:AS)(op:Wb)(xt:TypeId)(c:Option U_)(a:AV)(k:AV->Prop):iO P s op xt (.const (.pointer c)) a k=ao (s.ev (.const (.pointer c))) λb=>dA P op xt a b k:=by rw[iO]<;>(intros;simp_all)
theorem aeS(P:SI)(s:AS)(op:Wb)(xt:TypeId)(c:Option U_)(m n:Nat)(a:AV)(k:AV->Prop):iO P s op xt (.const (.slice c m n)) a k=ao (s.ev (.const (.slice c m n))) λb=>dA P op xt a b k:=by rw[iO]<;>(intros;simp_all)
theorem aeT(P:SI)(s:AS)(op:Wb)(xt:TypeId)(k:AV->Prop):iO P s op xt (.const .nilIface) (.val .nilIface) k=(mj P xt=some true/\(op=.eql\/op=.neq)/\k (.val (.bool (if op== .neq then false else true)))):=by rw[iO]
theorem aeQ(P:SI)(s:AS)(op:Wb)(xt t:TypeId)(x:AV)(k:AV->Prop):iO P s op xt (.const .nilIface) (.da t x) k=(mj P xt=some true/\(op=.eql\/op=.neq)/\k (.val (.bool (if op== .neq then true else false)))):=by rw[iO]
theorem ah5:((XM== .neq)=false):=rfl
theorem aoh:((VL== .neq)=true):=rfl
theorem ajW(z:SP):AV.found z true none=.aN [AV.of z,.val (.bool false)]:=by rw[AV.found];simp
theorem ajX(z:SP)(x:Nat×SP):AV.found z true (some x)=.aN [AV.of x.2,.val (.bool true)]:=by rw[AV.found];simp
attribute [seval] ajW ajX
attribute [seval] aeW aeR aeO aeV aeN aeU aeS aeT aeQ ah5 aoh
attribute [seval] ap5 ap6 akm akl akk akj xd aig ah7 aib ah9 aif aic aid ah8 aia anL anM aps apr asr ast asp asq ass agR agT agO agS agP agQ ajU ajS ajT aqm afV afX af4 afT afZ afY af2 af1 af0 afK afg afu afo afi Pk afn afm afk afj true_and and_true Option.bind_some List.getElem?_toArray List.getElem?_cons_succ List.getElem?_cons_zero Bool.not_true Bool.not_false true_implies false_implies if_true if_false af9 ard are arf aqx aqw List.drop_succ_cons List.drop_zero List.take_succ_cons List.take_zero List.cons_append List.nil_append List.length_cons List.length_nil Int.toNat_natCast decide_eq_true_eq decide_eq_false_iff_not Bool.not_eq_true' Bool.not_eq_false' Bool.not_eq_eq_eq_not af8 ahc ahe aqt aqv aqu ahd Option.map_some vX afM vY afQ afL afP Nat.zero_add List.set_cons_zero List.set_cons_succ ao3 aoZ apd apa ao6 ao7 ao4 aoY apc ao9 apb ao8 ao1 ao2 ao5 List.forall_mem_cons List.not_mem_nil false_imp_iff implies_true am9 am5 anl ani anc ane ana ank anh anj ang am7 am8 anb aow aot aoz aou aov aoy aox atq atw atr atz atu atv aty atx List.map_cons List.map_nil aii aih ajv aju apl apk ato arv aru afI afJ aqk ae0 aeZ ne_eq not_true_eq_false not_false_eq_true gt_iff_lt Nat.lt_irrefl or_self or_false false_or Nat.le_refl Nat.mul_one Nat.one_mul Nat.zero_mul Nat.mul_zero bne_iff_ne bne_eq_false_iff_eq beq_iff_eq ae9 ae8 aff ae7 apv apu afa aqh aqg aqj aqi acP aik aij aeM apq acP ar6 ar4 ar0 ar1 ae3 ae5 ae4 ae1 ae6 ae2
theorem aqs{base Vi Vn T:List (Nat×AV)}{H:List aa}(hk:sI T (Vi++base) Vn)(hv:∀p∈Vn,∃b,look T p.1=some b/\Wk b p.2):q_ base Vi Vn H ⟨T,H⟩:=⟨hk,hv,[],by simp,.inl rfl⟩
theorem acR{base Vi Vn T:List (Nat×AV)}{H G:List aa}(hk:sI T (Vi++base) Vn)(hv:∀p∈Vn,∃b,look T p.1=some b/\Wk b p.2)(aq:bH H)(hlt:∀p∈Vn,Lt H.length p.2):q_ base Vi Vn H ⟨T,H++G⟩:=⟨hk,hv,G,rfl,.inr ⟨aq,hlt⟩⟩
theorem Bt{base Vi Vn T:List (Nat×AV)}{H L G:List aa}(hk:sI T (Vi++base) Vn)(hv:∀p∈Vn,∃b,look T p.1=some b/\Wk b p.2)(aq:bH (H++L))(hlt:∀p∈Vn,Lt (H++L).length p.2):q_ base Vi Vn (H++L) ⟨T,H++(L++G)⟩:=⟨hk,hv,G,(SC ..).symm,.inr ⟨aq,hlt⟩⟩
def pick (ks:List Nat)(T:List (Nat×AV)):List (Nat×AV):=ks.filterMap λk=>(look T k).map λa=>(k,a)
theorem PG{lv:Bool}{P:SI}{r:Option Nat}{nt:Nat}{c:T7}{T:List (Nat×AV)}{H:List aa}{Φ:an->AS->Prop}(ks:List Nat)(h:aP lv P r nt c ⟨pick ks T,H⟩ Φ):aP lv P r nt c ⟨T,H⟩ Φ:=by
 refine jx (s':=⟨pick ks T,H⟩) ⟨λt a e=> ?_,rfl⟩ h;obtain⟨k,_,e'⟩:=VZ.1 (oJ e);obtain⟨b,hb,e'⟩:=Tq.1 e';cases e';exact⟨a,hb,Wk.refl a⟩
theorem Ng{ops:Array Tu}(mc:∀(i:Nat) o,ops[i]?=some o->∀j∈cS o,j<ops.size)(aaR:∀X:List Nat,(∃i,i<ops.size/\i∉X)->∃i o,ops[i]?=some o/\i∉X/\∀j∈cS o,j∈X):∀(fuel t:Nat)(L:Array Bool)(X:List Nat),Pe ops L X->(SU ops.size).countP (λi=> !X.contains i)<=fuel->lZ ops X (UK .any ops fuel t L [])
 |0,t,L,X,hr,hc=>by
  simp only[UK,XY];refine .nil X λi hi=> ?_;have:(SU ops.size).countP (λi=> !X.contains i)=0:=by omega
  have:=List.countP_eq_zero.1 this i (by simpa using hi);simpa using this
 |fuel+1,t,L,X,hr,hc=>by
  have uY:∀i,i∈((SU ops.size).filter λi=> !L.getD i true&&((ops[i]?).map (·.after.all λe=> !Region.binds .any e||L.getD e.on false)).getD false)<->∃o,ops[i]?=some o/\i∉X/\∀j∈cS o,j∈X:=by
   intro i;simp only[Uq,Tx,Tl,T1];constructor
   ·rintro⟨hi,h1,h2⟩
    have ho:=SJ hi;refine⟨ops[i],ho,λhx=> ?_,λj hj=> ?_⟩
    ·have:=(hr.mem i hi).2 hx;rw[SH,this]at h1;cases h1
    ·obtain⟨e,he,hb,rfl⟩:=Hz.1 hj;rw[ho]at h2;simp only[UT,S0,UM]at h2;have:=h2 e he;rw[hb]at this;simp only[as_,Zy]at this;have hlt:e.on<ops.size:=mc i _ ho _ hj;refine(hr.mem _ hlt).1 ?_;rw[SH]at this;cases hx:L[e.on]?with
     |none=>rw[hx]at this;cases this
     |some b=>rw[hx]at this;cases b;cases this;rfl
   ·rintro⟨o,ho,h1,h2⟩
    have hi:i<ops.size:=(SR.1 ho).1;refine⟨hi,?_,?_⟩
    ·rw[SH,SJ (by rw[hr.size];exact hi)];simp only[S0];cases hb:L[i]'(by rw[hr.size];exact hi)with
     |false=>rfl
     |true=>exact absurd ((hr.mem i hi).1 (by rw[SJ (by rw[hr.size];exact hi),hb])) h1
    ·rw[ho];simp only[UT,S0,UM];intro e he;cases hb:Yt .any e with
     |false=>rfl
     |true=>
      have hj:=Hz.2 ⟨e,he,hb,rfl⟩;have hlt:e.on<ops.size:=mc i _ ho _ hj;have:=(hr.mem _ hlt).2 (h2 _ hj);simp[SH,this]
  simp only[UK];generalize Dz:((SU ops.size).filter λi=> !L.getD i true&&((ops[i]?).map (·.after.all λe=> !Region.binds .any e||L.getD e.on false)).getD false)=rs at uY;cases hi:rs[t % rs.length]?with
  |none=>
   have L1:rs=[]:=by
    cases rs with
    |nil=>rfl
    |cons x xs=>
     have hlt:t % (x::xs).length<(x::xs).length:=as' _ (by simp);rw[List.getElem?_eq_none_iff]at hi;omega
   simp only[XY];refine .nil X λi hlt=> ?_;apply Tn;intro hx;obtain⟨i',o,h1,h2,h3⟩:=aaR X ⟨i,hlt,hx⟩;have:i'∈rs:=(uY i').2 ⟨o,h1,h2,h3⟩;rw[L1]at this;cases this
  |some i=>
   simp only[];obtain⟨o,ho,h1,h2⟩:=(uY i).1 (S_ hi);have hlt:i<ops.size:=(SR.1 ho).1;rw[linearise_go_acc,List.reverse_singleton,Y5];refine .cons o ho h1 h2 (Ng mc aaR fuel _ _ (i::X) ⟨by simp[hr.size],λk hk=> ?_⟩ ?_)
   ·by_cases rK:k=i
    ·subst rK;simp[Tb (by rw[hr.size];exact hlt)]
    ·rw[SV (Ne.symm rK),hr.mem k hk];simp[rK]
   ·have fF:i∈(SU ops.size):=(by simpa using hlt);have:(SU ops.size).countP (λk=> !(i::X).contains k)<(SU ops.size).countP (λk=> !X.contains k):=by
     exact Qj fF (λk hk=>by simp only[T1,Us,decide_eq_false_iff_not]at hk⊢;exactλh=>hk (Td _ h)) (by simpa using h1) (by simp)
    omega
theorem Kk{X:List Nat}:∀{l:List Nat},(∃i∈l,i∉X)->∃A i B,l=A++i::B/\i∉X/\∀a∈A,a∈X
 |[],⟨_,h,_⟩=>by cases h
 |x::l,⟨i,h,hn⟩=>by
  by_cases hx:x∈X
  ·have hi:i∈l:=(SK.1 h).resolve_left λe=>hn (e▸hx);obtain⟨A,j,B,h1,h2,h3⟩:=Kk ⟨i,hi,hn⟩;exact⟨x::A,j,B,by rw[h1];rfl,h2,λa ha=>(SK.1 ha).elim (λe=>e▸hx) (h3 a)⟩
  ·exact⟨[],x,l,rfl,hx,by simp⟩
structure B5 (k:AV->List aa->Prop):Type where
 n:Nat
def EX (lv:Bool)(P:SI)(f:AV)(H:List aa)(aE:List AV)(k:AV->List aa->Prop)(_t:B5 k):Prop:=∃av H',jb lv P f H aE (λb ui=>b=av/\ui=H') (λ_ _=>False)/\k av H'
def IU (lv:Bool)(P:SI)(f:AV)(name:String)(H:List aa)(aE:List AV)(k:AV->List aa->Prop)(_t:B5 k):Prop:=∃av H',Fc lv P f name H aE (λb ui=>b=av/\ui=H') (λ_ _=>False)/\k av H'
theorem sY{lv:Bool}{P:SI}{f:AV}{H:List aa}{aE:List AV}{k:AV->List aa->Prop}{t:B5 k}(av:AV)(H':List aa)(h:jb lv P f H aE (λb ui=>b=av/\ui=H') (λ_ _=>False))(hk:k av H'):EX lv P f H aE k t:=⟨av,H',h,hk⟩
def j5 (x:Option aa)(X Y:Prop)(_t:lY X Y):Prop:=match x with
 |some (.own _ _ _)=>X
 |_=>Y
def qT (G H:List aa)(k:AV->List aa->Prop)(n m sz:Nat)(elem:TypeId)(l l':List AV):End->Prop
 |.exact=>j5 G[H.length]? (0<m/\k (.bp H.length 0 (n+m) 0) (H++[.own sz (l++l') elem])) (k (.sl (n+m) (l++l') (.opn H.length)) (H++[.tail (n+m) sz elem])) ⟨0⟩
 |.opn i=>(match H[i]?with
   |some (.tail n' ez gX)=>n'=n/\ez=sz/\gX=elem
   |_=>False)/\(∀a∈l',a.leaf=true)/\k (.sl (n+m) (l++l') (.opn i)) (H.set i (.tail (n+m) sz elem))
 |.shut=>m=0/\k (.sl n l .shut) H
section
variable (lv:Bool)(P:SI)
def j3 (G:List aa)(s:AS)(o:Tu)(k:AV->List aa->Prop):Prop:=match o.op with
 |.box t x=>ao (s.ev x) λa=>ao a.parts λl=>k (.op s.H.length 0) (s.H++[.cells l t])
 |.alloc t=>ao (eJ P t) λz=>k (.op s.H.length 0) (s.H++[.cells (lX z) t])
 |.store t x y=>ao (s.ev x) λp=>ao (s.ev y) λa=>ao a.parts λlp=>p.p7 λid off=>match s.H[id]?with
  |some (.cells l el)=>(ao (Ty P t) λx=>lp.length=x.1)/\off+lp.length<=l.length/\(∀a∈lp,a.leaf=true)/\k (.val undef) (s.H.set id (.cells (iJ l off lp) el))
  |some (.own p l el)=>(ao (Ty P t) λx=>lp.length=x.1)/\off+lp.length<=l.length/\(∀a∈lp,a.leaf=true)/\k (.val undef) (s.H.set id (.own p (iJ l off lp) el))
  |_=>False
 |.call c=>match c.callee with
  |.builtin .append=>match c.args.toList,c.argTypes.toList with
   |[x,y],[t,t']=>ao (jM P t t') λ(elem,sz,_)=>ao (s.ev x) λa=>ao (s.ev y) λb=>a.p8 (λid off n c0=>ao (s.src sz b) λ(m,l')=>uf s.H k id off n c0 m sz elem l') λn l e=>ao (s.src sz b) λ(m,l')=>l.length=n* sz/\l'.length=m* sz/\n+m<=2^30/\qT G s.H k n m sz elem l l' e
   |_,_=>False
  |.value x=>ao (s.ev x) λf=>ao (eZ s c.args.toList) λaE=>EX lv P f s.H aE k ⟨0⟩
  |.invoke x name=>ao (s.ev x) λf=>ao (eZ s c.args.toList) λaE=>IU lv P f name s.H aE k ⟨0⟩
  |_=>False
 |.makeSlice t x y=>ao (B7 P t) λ(e,sz,z)=>ao (s.ev x) λa=>ao (s.ev y) λb=>a.asInt λ_ n=>b.asInt λ_ n'=>n'=n/\0<=n/\n<=2^30/\k (.bp s.H.length 0 n.toNat n.toNat) (s.H++[.cells (gU z (n.toNat* sz)) e])
 |.buildSlice t len parts=>ao (re P t) λ(e,sz,z)=>len* sz<=2^24/\ao (j7 s parts.toList) λl6=>ao (oo (iD.at (.elems sz)) (gU z (len* sz)) l6) λl=>k (.bp s.H.length 0 len len) (s.H++[.cells l e])
 |_=>False
end
section
variable {lv:Bool}{P:SI}{r:Option Nat}{o:Tu}{s:AS}{k:AV->List aa->Prop}
theorem Step.drop{G:List aa}{av mF:AV}{bad:AV->AS->Prop}(h:Step lv P r o s (λs'=>s'=(⟨s.T,s.H++G⟩:AS).put o.dst av) bad)(hw:Wk av mF)(hl:∀(E:Env)(V:View)(a:Act),Conc E V s.H->cg E s.T a.tmps->Lt s.H.length mF):Step lv P r o s (λs'=>s'=(⟨s.T,s.H⟩:AS).put o.dst mF) bad:=λE V a N Q hc ht hd hf n1 n2=>by
 refine h E V a N Q hc ht hd hf (λE' V' a' s' q1 q2 q3 q4=> ?_) n2;subst q4;rw[fb]at q2;have fE:((⟨s.T,s.H++G⟩:AS).put o.dst av).IS ((⟨s.T,s.H⟩:AS).put o.dst mF):=by
  refine⟨λt x e=> ?_,⟨G,by rw[fb,fb]⟩,by rw[fb];exact hc.aq⟩;rw[fb];have hold:look s.T t=some x->Lt s.H.length x:=λe=>by rw[<- hc.n];exact(ht t x e).2.lt
  cases dt:o.dst with
  |none=>
   rw[dt]at e;simp only[AS.put]at e⊢;exact⟨x,e,Wk.refl x,hold e⟩
  |some d=>
   rw[dt]at e;simp only[AS.put,look]at e⊢;by_cases hdt:d=t
   ·rw[if_pos hdt]at e⊢;cases e;exact⟨av,rfl,hw,hl E V a hc ht⟩
   ·rw[if_neg hdt]at e⊢;exact⟨x,e,Wk.refl x,hold e⟩
 have ah:At E' V' ((⟨s.T,s.H++G⟩:AS).put o.dst av) a' a'.tmps.size:=⟨by rw[fb];exact q2,q3,rfl⟩;have aT:=ah.cut fE;rw[fb]at aT;refine n1 _ V' a' _ ⟨EH (SO _) (by rw[q2.n];simp) q1.le hc.n,q1.size,q1.defers,q1.role,q1.deaf⟩ aT.bu aT.tok rfl
end
section
variable {lv:Bool}{P:SI}{r:Option Nat}{o:Tu}{s:AS}{G:List aa}{k:AV->List aa->Prop}
theorem d_{α:Type}{x:Option α}{a:α}{k:α->Prop}(h:x=some a)(hk:k a):ao x k:=by rw[h,ao];exact hk
theorem RD{x:Option aa}{X Y:Prop}{t:lY X Y}(h:j5 x X Y t):((∃a b c,x=some (.own a b c))/\X)\/((∀a b c,x≠some (.own a b c))/\Y):=by
 unfold j5 at h;split at h
 ·exact .inl ⟨⟨_,_,_,rfl⟩,h⟩
 ·rename_i hx;exact .inr ⟨λa b c e=>hx a b c e,h⟩
theorem aj7{x:Option aa}{X Y:Prop}{t:lY X Y}{a:Nat}{b:List AV}{c:TypeId}(h:x=some (.own a b c))(hX:X):j5 x X Y t:=by subst h;exact hX
theorem aka{x:Option aa}{X Y:Prop}{t:lY X Y}(h:∀a b c,x≠some (.own a b c))(hY:Y):j5 x X Y t:=by
 unfold j5;split
 ·exact absurd rfl (h _ _ _)
 ·exact hY
theorem qT.ex{H:List aa}{n m sz:Nat}{elem:TypeId}{l l':List AV}{e:End}(h:qT G H k n m sz elem l l' e):∃av H',qT G H (λa h=>a=av/\h=H') n m sz elem l l' e/\k av H':=by
 cases e with
 |exact=>
  rcases RD (t:=⟨0⟩) h with⟨⟨a,b,c,e⟩,h0,h1⟩|⟨e,h1⟩
  ·exact⟨_,_,aj7 (t:=⟨0⟩) e ⟨h0,rfl,rfl⟩,h1⟩
  ·exact⟨_,_,aka (t:=⟨0⟩) e ⟨rfl,rfl⟩,h1⟩
 |shut=>exact⟨_,_,⟨h.1,rfl,rfl⟩,h.2⟩
 |opn i=>exact⟨_,_,⟨h.1,h.2.1,rfl,rfl⟩,h.2.2⟩
theorem uf.ex{H:List aa}{id off n c0 m sz:Nat}{elem:TypeId}{l':List AV}(h:uf H k id off n c0 m sz elem l'):∃av H',uf H (λa h=>a=av/\h=H') id off n c0 m sz elem l'/\k av H':=by
 obtain⟨h1,h2,h3,h4,h5,h6⟩:=h;split at h6
 ·rename_i hk;obtain⟨g1,g2,g3,g4⟩:=h6;refine⟨_,_,⟨h1,h2,h3,h4,h5,?_⟩,g4⟩;rw[hk];exact⟨g1,g2,g3,rfl,rfl⟩
 ·exact h6.elim
end
section
variable {lv:Bool}{P:SI}{r:Option Nat}{o:Tu}{s:AS}{next:AS->Prop}{bad:AV->AS->Prop}
theorem adD{t e:TypeId}{len sz:Nat}{z:SP}{parts:Array (Nat×Tj)}{l6:List (Nat×AV)}{l:List AV}(ho:o.op=.buildSlice t len parts)(ht:re P t=some (e,sz,z))(aV:len* sz<=2^24)(hp:j7 s parts.toList=some l6)
  (hl:oo (iD.at (.elems sz)) (gU z (len* sz)) l6=some l) (hn:next ((⟨s.T,s.H++[.cells l e]⟩:AS).put o.dst (.bp s.H.length 0 len len))):Step lv P r o s next bad:=by
 intro E V a N Q hc aG hd bA h1 _;unfold re at ht;split at ht
 ·rename_i e' hu;obtain⟨i,hi,ht⟩:=Tg.1 ht;obtain⟨z',hz,ht⟩:=Tq.1 ht;cases ht;refine⟨bA,?_⟩;unfold execOp;rw[ho];dsimp only;refine az ?_;unfold Instr.buildSlice;refine ee hu ?_;dsimp only;refine jZ hi ?_;rw[if_neg (by omega)];obtain⟨hlen,bk⟩:=FQ aG hp;obtain⟨eK,nz,uK⟩:=CI (JF (E:=E) z (len* i.size)) hlen bk hl;have fin:∀(rr:Nat),V.fresh rr->aQ P (V.upd rr (.cells eK e)) (pure (W9 (.slice (some ⟨rr,0,none⟩) len len))) (mD lv P r o a N Q) (λv V'=>Q (.panic [{v,recovered:=false}]) a V'):=λrr hf=>by
   have oG:E.Le (E.add rr V.ab):=E.qF rr (λb o v h=>by rw[<- hc.I];exact h);have bi:Conc (E.add rr V.ab) (V.upd rr (.cells eK e)) (s.H++[.cells l e]):=by
    refine hc.add hf _ ⟨⟨_,?_,uK.mono oG⟩,λo=> ?_⟩ (λb e=> ?_)
    ·rw[Env.dM];simp[View.upd]
    ·rw[Env.dM];exact hf.2 o
    ·simp only[bO,Env.dM,Tm]at e;exact e.symm
   have pq:ap (E.add rr V.ab) (.bp s.H.length 0 len len) (.slice (some ⟨rr,0,none⟩) len len):=by
    have:=ap.bp (E:=E.add rr V.ab) (id:=s.H.length) (off:=0) (n:=len) (cap:=len) (cap':=len) (by show _<E.n+1;rw[hc.n];omega) ⟨by omega,λ_=>rfl,λh=>absurd h (by omega)⟩;have e:(E.add rr V.ab).blk s.H.length=rr:=(by rw[<- hc.n];exact E.dM rr _);rwa [e]at this
   exact au (h1 _ _ (a.put o.dst _) _ ⟨oG,dX _ _ _,put_defers _ _ _,rfl,rfl⟩ (by rw[fb];exact bi) (cg.h_ (s:=⟨s.T,s.H++[.cells l e]⟩) (aG.mono oG) hd pq) hn)
  have e2:(λj=>some (j* i.size,i.size))=iD.at (.elems i.size):=rfl;rw[e2];by_cases h0:len* i.size=0
  ·rw[if_pos h0];refine az (au ?_);rw[h0]at nz⊢;rw[show WO 0=#[]from rfl]at nz⊢;simp only[List.map_toArray,List.map_nil,VN]at nz⊢;rw[nz];unfold newRow;exact az (az (az (oQ λrr hf=>cI (au (au (au (fin rr hf)))))))
  ·rw[if_neg h0];refine az (az ?_);unfold typeInfo;refine az (qK (cI ?_));rw[hi];refine au ?_;rw[hz];refine au (az (au ?_));rw[VN,nz];unfold newRow;exact az (az (az (oQ λrr hf=>cI (au (au (au (fin rr hf)))))))
 ·cases ht
end
section
variable {lv:Bool}{P:SI}{r:Option Nat}{o:Tu}{s:AS}{G:List aa}{k:AV->List aa->Prop}
theorem j3.ex(h:j3 lv P G s o k):∃av H',j3 lv P G s o (λa h=>a=av/\h=H')/\k av H':=by
 unfold j3 at h⊢;generalize o.op=op at h⊢;cases op with
 |box t x=>
  obtain⟨a,h1,h⟩:=h.out;obtain⟨l,h2,h⟩:=h.out;exact⟨_,_,d_ h1 (d_ h2 ⟨rfl,rfl⟩),h⟩
 |alloc t=>
  obtain⟨z,h1,h⟩:=h.out;exact⟨_,_,d_ h1 ⟨rfl,rfl⟩,h⟩
 |store t x y=>
  obtain⟨p,h1,hA⟩:=h.out;obtain⟨a,h2,hB⟩:=hA.out;obtain⟨lp,h3,hC⟩:=hB.out;obtain⟨id,off,e1,hD⟩:=Cs hC;subst e1;clear h hA hB hC;split at hD
  ·rename_i l el hk;refine⟨_,_,d_ h1 (d_ h2 (d_ h3 ?_)),hD.2.2.2⟩;unfold AV.p7;dsimp only;rw[hk];exact⟨hD.1,hD.2.1,hD.2.2.1,rfl,rfl⟩
  ·rename_i p l el hk;refine⟨_,_,d_ h1 (d_ h2 (d_ h3 ?_)),hD.2.2.2⟩;unfold AV.p7;dsimp only;rw[hk];exact⟨hD.1,hD.2.1,hD.2.2.1,rfl,rfl⟩
  ·exact hD.elim
 |call c=>
  dsimp only at h⊢;generalize c.callee=cl at h⊢;generalize c.args.toList=xs at h⊢;generalize c.argTypes.toList=ts at h⊢;cases cl with
  |builtin b=>
   cases b with
   |append=>
    dsimp only at h⊢;split at h
    ·obtain⟨⟨elem,sz,z⟩,h1,hA⟩:=h.out;obtain⟨a,h2,hB⟩:=hA.out;obtain⟨b,h3,hC⟩:=hB.out;rcases Ja hC with⟨id,off,n,c0,e1,hD⟩|⟨n,l,e,e1,hD⟩
     ·obtain⟨⟨m,l'⟩,h4,h5⟩:=hD.out;subst e1;obtain⟨av,H',g1,g2⟩:=h5.ex;refine⟨av,H',d_ h1 (d_ h2 (d_ h3 ?_)),g2⟩;simp only[AV.p8];exact d_ h4 g1
     ·obtain⟨⟨m,l'⟩,h4,h5,h6,h7,h8⟩:=hD.out;subst e1;obtain⟨av,H',g1,g2⟩:=h8.ex;refine⟨av,H',d_ h1 (d_ h2 (d_ h3 ?_)),g2⟩;simp only[AV.p8];exact d_ h4 ⟨h5,h6,h7,g1⟩
    ·exact h.elim
   |_=>exact h.elim
  |value x=>
   obtain⟨f,h1,hA⟩:=h.out;obtain⟨aE,h2,hB⟩:=hA.out;obtain⟨av,H',g1,g2⟩:=hB;exact⟨av,H',d_ h1 (d_ h2 ⟨av,H',g1,rfl,rfl⟩),g2⟩
  |invoke x name=>
   obtain⟨f,h1,hA⟩:=h.out;obtain⟨aE,h2,hB⟩:=hA.out;obtain⟨av,H',g1,g2⟩:=hB;exact⟨av,H',d_ h1 (d_ h2 ⟨av,H',g1,rfl,rfl⟩),g2⟩
 |makeSlice t x y=>
  obtain⟨⟨e,sz,z⟩,h1,hA⟩:=h.out;obtain⟨a,h2,hB⟩:=hA.out;obtain⟨b,h3,hC⟩:=hB.out;obtain⟨j,n,e1,hD⟩:=od hC;obtain⟨j',n',e2,hE⟩:=od hD;clear h hA hB hC hD;subst e1 e2;exact⟨_,_,d_ h1 (d_ h2 (d_ h3 ⟨hE.1,hE.2.1,hE.2.2.1,rfl,rfl⟩)),hE.2.2.2⟩
 |buildSlice t len parts=>
  obtain⟨⟨e,sz,z⟩,h1,h2,hA⟩:=h.out;obtain⟨l6,h3,hB⟩:=hA.out;obtain⟨l,h4,hC⟩:=hB.out;exact⟨_,_,d_ h1 ⟨h2,d_ h3 (d_ h4 ⟨rfl,rfl⟩)⟩,hC⟩
 |_=>exact h.elim
theorem j3.step{av:AV}{H':List aa}{bad:AV->AS->Prop}(h:j3 lv P G s o (λa h=>a=av/\h=H')):Step lv P r o s (λs'=>s'=(⟨s.T,H'⟩:AS).put o.dst av) bad:=by
 unfold j3 at h;split at h
 ·rename_i t x ho;obtain⟨a,h1,h⟩:=h.out;obtain⟨l,h2,h⟩:=h.out;obtain⟨e1,e2⟩:=h;exact adC ho h1 h2 (by rw[e1,e2])
 ·rename_i t ho;obtain⟨z,h1,h⟩:=h.out;obtain⟨e1,e2⟩:=h;exact adz ho h1 (by rw[e1,e2])
 ·rename_i t x y ho;obtain⟨p,h1,hA⟩:=h.out;obtain⟨a,h2,hB⟩:=hA.out;obtain⟨lp,h3,hC⟩:=hB.out;obtain⟨id,off,e1,hD⟩:=Cs hC;clear h hA hB hC;subst e1;split at hD
  ·rename_i l el hk;obtain⟨q1,q2,q3,q4,N6⟩:=hD;obtain⟨⟨n,g⟩,q5,q6⟩:=q1.out;exact adH ho q5 h1 hk h2 h3 q6 q2 q3 (by rw[q4,N6])
  ·rename_i p l el hk;obtain⟨q1,q2,q3,q4,N6⟩:=hD;obtain⟨⟨n,g⟩,q5,q6⟩:=q1.out;exact adI ho q5 h1 hk h2 h3 q6 q2 q3 (by rw[q4,N6])
  ·exact hD.elim
 ·rename_i c ho;split at h
  ·rename_i aW;split at h
   ·rename_i x y t t' ha ht;obtain⟨⟨elem,sz,z⟩,h1,hA⟩:=h.out;obtain⟨a,h2,hB⟩:=hA.out;obtain⟨b,h3,hC⟩:=hB.out;rcases Ja hC with⟨id,off,n,c0,e1,hD⟩|⟨n,l,e,e1,hD⟩
    ·clear h hA hB hC;subst e1;obtain⟨⟨m,l'⟩,h4,rfl,g2,g3,g4,g5,hE⟩:=hD.out;split at hE
     ·rename_i hk;obtain⟨rfl,rfl,g6,g7,g8⟩:=hE;exact adA ho aW (na ha) (sA ht) h1 h2 g2 hk rfl h3 h4 g6 g3 g4 g5 (by rw[g7,g8])
     ·exact hE.elim
    ·clear h hA hB hC;subst e1;obtain⟨⟨m,l'⟩,h4,h5,h6,h7,h8⟩:=hD.out;cases e with
     |exact=>
      rcases RD (t:=⟨0⟩) h8 with⟨_,h0,e1,e2⟩|⟨_,e1,e2⟩
      ·exact adB ho aW (na ha) (sA ht) h1 h2 h3 h4 h5 h6 h7 h0 (by rw[e1,e2])
      ·exact step_append ho aW (na ha) (sA ht) h1 h2 h3 h4 h5 h6 h7 (by show (_:AS)=_;rw[<- e1,<- e2])
     |shut=>
      obtain⟨e0,e1,e2⟩:=h8;exact step_append ho aW (na ha) (sA ht) h1 h2 h3 h4 h5 h6 h7 ⟨e0,by rw[<- e1,<- e2]⟩
     |opn i=>
      obtain⟨e0,e0',e1,e2⟩:=h8;exact step_append ho aW (na ha) (sA ht) h1 h2 h3 h4 h5 h6 h7 ⟨e0,e0',by rw[<- e1,<- e2]⟩
   ·exact h.elim
  ·rename_i x aW;obtain⟨f,h1,hA⟩:=h.out;obtain⟨aE,h2,hB⟩:=hA.out;obtain⟨a0,H0,g1,g2,g3⟩:=hB;subst g2 g3;exact Ot ho aW h1 h2 (g1.mono (λa H h=>by rw[h.1,h.2]) λ_ _ h=>h.elim)
  ·rename_i x name aW;obtain⟨f,h1,hA⟩:=h.out;obtain⟨aE,h2,hB⟩:=hA.out;obtain⟨a0,H0,g1,g2,g3⟩:=hB;subst g2 g3;exact adE ho aW h1 h2 (λE V cv vs hc hd pt=>(g1 E V cv vs hc hd pt).mono (λ_ _ x=>Nx.mono (λ_ _ y=>y.mono (λa H h=>by rw[h.1,h.2]) λ_ _ h=>h.elim) x) λ_ _ y=>y.mono (λa H h=>by rw[h.1,h.2]) λ_ _ h=>h.elim)
  ·exact h.elim
 ·rename_i t x y ho;obtain⟨⟨e,sz,z⟩,h1,hA⟩:=h.out;obtain⟨a,h2,hB⟩:=hA.out;obtain⟨b,h3,hC⟩:=hB.out;obtain⟨j,n,e1,hD⟩:=od hC;obtain⟨j',n',e2,hE⟩:=od hD;clear h hA hB hC hD;subst e1 e2;obtain⟨e3,h4,h5,h6,h7⟩:=hE;subst e3;obtain⟨m,rfl⟩:∃m:Nat,n'=m:=⟨n'.toNat,by omega⟩;exact adF ho h1 h2 h3 (by omega) (by rw[VR]at h6 h7;rw[h6,h7])
 ·rename_i t len parts ho;obtain⟨⟨e,sz,z⟩,h1,h2,hA⟩:=h.out;obtain⟨l6,h3,hB⟩:=hA.out;obtain⟨l,h4,h5,h6⟩:=hB.out;exact adD ho h1 h2 h3 h4 (by rw[h5,h6])
 ·exact h.elim
theorem j3.congr{T T':List (Nat×AV)}{H:List aa}(h:∀x∈o.op.operands,AS.ev ⟨T,H⟩ x=AS.ev ⟨T',H⟩ x)(ha:j3 lv P G ⟨T,H⟩ o k):j3 lv P G ⟨T',H⟩ o k:=by
 unfold j3 at ha⊢;generalize o.op=op at h ha⊢;cases op with
 |box t x=>dsimp only at ha⊢;rw[<- h x (by simp[Tt])];exact ha
 |alloc t=>exact ha
 |store t x y=>dsimp only at ha⊢;rw[<- h x (by simp[Tt]),<- h y (by simp[Tt])];exact ha
 |call c=>
  have cM:∀x∈c.args.toList,AS.ev ⟨T,H⟩ x=AS.ev ⟨T',H⟩ x:=λx hx=>h x (by simp[Tt,VQ];exact .inr (by simpa using hx));dsimp only at ha⊢;split at ha
  ·split at ha
   ·rename_i x y t t' hx ht;rw[hx]at cM;rw[<- cM x (by simp),<- cM y (by simp)];exact ha
   ·exact ha.elim
  ·rename_i x aW;rw[<- h x (by simp[Tt,VQ,aW]),<- CH _ cM];exact ha
  ·rename_i x name aW;rw[<- h x (by simp[Tt,VQ,aW]),<- CH _ cM];exact ha
  ·exact ha.elim
 |makeSlice t x y=>dsimp only at ha⊢;rw[<- h x (by simp[Tt]),<- h y (by simp[Tt])];exact ha
 |buildSlice t len parts=>
  have e:j7 ⟨T',H⟩ parts.toList=j7 ⟨T,H⟩ parts.toList:=by
   have hp:∀p∈parts.toList,AS.ev ⟨T,H⟩ p.2=AS.ev ⟨T',H⟩ p.2:=λp hp=>h p.2 (by simp[Tt];exact⟨p.1,by simpa using hp⟩);clear ha;generalize parts.toList=l at hp;induction l with
   |nil=>rfl
   |cons p l ih=>simp only[j7,hp p TC,ih λq hq=>hp q (Td _ hq)]
  dsimp only at ha⊢;rw[e];exact ha
 |_=>exact ha.elim
end
def nk (acc:List (Nat×List Nat))(j:Nat):List Nat:=((acc.find? (·.1==j)).map (·.2)).getD []
def gH (ops:Array Tu):List Nat->List (Nat×List Nat)->List (Nat×List Nat)
 |[],acc=>acc
 |i::l,acc=>match ops[i]?with
  |some o=>gH ops l ((i,(cS o++(cS o).flatMap (nk acc)).eraseDups)::acc)
  |none=>gH ops l acc
def ue:List Nat->List (List Nat)
 |[]=>[[]]
 |x::l=>ue l++(ue l).map (x::·)
def xb (cl:List (Nat×List Nat))(es:List Nat)(i:Nat)(D:List Nat):Bool:=
 !D.contains i&&es.all λe=>(!(nk cl i).contains e||D.contains e)&&(!D.contains e||(!(nk cl e).contains i&&es.all λe'=> !(nk cl e).contains e'||D.contains e'))
def tU (es:List Nat)(i:Nat)(D:List Nat):List Nat:=es.filter λe=>e==i||D.contains e
structure qY where
 i:Nat
 eff:Bool
 aft:List Nat
 NF:List (List Nat×List Nat)
 deriving DecidableEq
def entry (cl:List (Nat×List Nat))(es X:List Nat)(i:Nat):qY:=
 let cur:=es.filter λe=>X.contains e
 ⟨i,es.contains i,tU es i cur,((ue es).filter λD=>xb cl es i D&&D !=cur).map λD=>(D,tU es i D)⟩
def qI (cl:List (Nat×List Nat))(es:List Nat):List Nat->List Nat->List qY
 |_,[]=>[]
 |X,i::B=>entry cl es X i::qI cl es (i::X) B
def acC (ops:Array Tu)(es ord:List Nat):List qY:=qI (gH ops ord []) es [] ord
def ky (ops:Array Tu):List Nat->List Nat->Bool
 |_,[]=>true
 |X,i::B=> !X.contains i&&(match ops[i]?with
  |some o=>(cS o).all X.contains
  |none=>false)&&ky ops (i::X) B
def rn (nt:Nat)(ops:Array Tu)(es ord:List Nat):Bool:=
 let cl:=gH ops ord [];decide (ord.length=ops.size)&&ky ops [] ord&&ord.all λi=>match ops[i]?with
  |some o=>o.dst.all (·<nt)&& !mi o.op&&o.guard.isNone&&
   (ord.all λj=>i==j||match o.dst,cZ ops j with
    |some d,some d'=>d !=d'
    |_,_=>true)&&
   (o.op.operands.toList.all λx=>match x with
    |.tmp t=>ord.all λj=>cZ ops j !=some t||(cS o).contains j||(nk cl j).contains i
    |_=>true)
  |none=>false
theorem RG{acc:List (Nat×List Nat)}{j k:Nat}(h:k∈nk acc j):∃l,(j,l)∈acc/\k∈l:=by
 unfold nk at h;cases e:acc.find? (·.1==j)with
 |none=>rw[e]at h;simp at h
 |some x=>
  rw[e]at h;obtain⟨j',l⟩:=x;have h1:=List.mem_of_find?_eq_some e;have h2:=List.find?_some e;simp only[beq_iff_eq]at h2;subst h2;exact⟨l,h1,by simpa using h⟩
theorem Jt{ops:Array Tu}:∀(ord:List Nat)(acc:List (Nat×List Nat)),(∀i l,(i,l)∈acc->∀j∈l,Reach ops i j)->∀i l,(i,l)∈gH ops ord acc->∀j∈l,Reach ops i j
 |[],acc,h=>h
 |x::ord,acc,h=>by
  unfold gH;split
  ·rename_i o ho;refine Jt ord _ λi l hm j hj=> ?_;rcases SK.1 hm with e|hm
   ·cases e;rw[Za,SQ]at hj;rcases hj with hj|hj
    ·exact .JQ ho hj
    ·obtain⟨k,hk,hj⟩:=S6.1 hj;obtain⟨l',h1,h2⟩:=RG hj;exact .more ho hk (h _ _ h1 _ h2)
   ·exact h i l hm j hj
  ·exact Jt ord acc h
theorem z9{ops:Array Tu}{ord:List Nat}{i j:Nat}(h:j∈nk (gH ops ord []) i):Reach ops i j:=by
 obtain⟨l,h1,h2⟩:=RG h;exact Jt ord [] (by simp) i l h1 j h2
theorem FV(p:Nat->Bool):∀l:List Nat,l.filter p∈ue l
 |[]=>by simp[ue]
 |x::l=>by
  unfold ue;rw[SQ];by_cases h:p x=true
  ·rw[Yx h];exact .inr (Te.2 ⟨_,FV p l,rfl⟩)
  ·rw[Yy h];exact .inl (FV p l)
structure zF (nt:Nat)(ops:Array Tu)(ord:List Nat):Prop where
 full:∀i,i<ops.size->i∈ord
 lt:∀i∈ord,i<ops.size
 top:ky ops [] ord=true
 dst:∀(i:Nat) o d,ops[i]?=some o->o.dst=some d->d<nt
 we:∀(i:Nat) o,ops[i]?=some o->mi o.op=false
 CS:∀(i:Nat) o,ops[i]?=some o->o.guard=none
 BL:∀(i j d:Nat),cZ ops i=some d->cZ ops j=some d->i=j
 NE:∀(i:Nat) o t j,ops[i]?=some o-> .tmp t∈o.op.operands->cZ ops j=some t->j∈cS o\/Reach ops j i
theorem EF{ops:Array Tu}:∀{ord X:List Nat},ky ops X ord=true->ord.Nodup/\(∀i∈ord,i∉X)/\∀i∈ord,i<ops.size
 |[],_,_=>⟨WS,by simp,by simp⟩
 |i::B,X,h=>by
  simp only[ky,Tl,T1,Us,decide_eq_false_iff_not]at h;obtain⟨⟨h1,h2⟩,h3⟩:=h;obtain⟨q1,q2,q3⟩:=EF h3;refine⟨VW.2 ⟨λhm=>q2 i hm (TC ..),q1⟩,λj hj=> ?_,λj hj=> ?_⟩
  ·rcases SK.1 hj with rfl|hj
   ·exact h1
   ·exactλhx=>q2 j hj (Td _ hx)
  ·rcases SK.1 hj with rfl|hj
   ·apply Tn;intro hn;rw[YD (by omega)]at h2;cases h2
   ·exact q3 j hj
theorem rn.out{nt:Nat}{ops:Array Tu}{es ord:List Nat}(h:rn nt ops es ord=true):zF nt ops ord:=by
 unfold rn at h;simp only[Tl,decide_eq_true_eq]at h;obtain⟨⟨hlen,nK⟩,h⟩:=h;obtain⟨wN,_,hlt⟩:=EF nK;have AH:∀i,i<ops.size->i∈ord:=λi hi=>by
  apply Tn;intro hn;have lN:(i::ord)⊆SU ops.size:=λj hj=>by
   rcases SK.1 hj with rfl|hj
   ·simpa using hi
   ·simpa using hlt j hj
  have:=(VW.2 ⟨hn,wN⟩).length_le_of_subset lN;simp at this;omega
 have key:∀(i:Nat) o,ops[i]?=some o->o.dst.all (·<nt)=true/\mi o.op=false/\o.guard.isNone=true/\(∀j∈ord,(i==j||match o.dst,cZ ops j with
    |some d,some d'=>d !=d'
    |_,_=>true)=true)/\(∀x∈o.op.operands.toList,(match x with
    |.tmp t=>ord.all λj=>cZ ops j !=some t||(cS o).contains j||(nk (gH ops ord []) j).contains i
    |_=>true)=true):=λi o ho=>by
  have hi:i<ops.size:=(SR.1 ho).1;have:=Tv.1 h i (AH i hi);rw[ho]at this;simp only[Tl,Tv,T1]at this;exact⟨this.1.1.1.1,this.1.1.1.2,this.1.1.2,this.1.2,this.2⟩
 have aab:∀j d,cZ ops j=some d->j<ops.size:=λj d e=>by
  apply Tn;intro hn;rw[cZ,YD (by omega)]at e;cases e
 refine⟨AH,hlt,nK,λi o d ho hd=> ?_,λi o ho=>(key i o ho).2.1,λi o ho=>by simpa using(key i o ho).2.2.1,λi j d hi hj=> ?_,λi o t j ho ht hj=> ?_⟩
 ·have:=(key i o ho).1;rw[hd]at this;simpa using this
 ·apply Tn;intro aF;obtain⟨o,ho,tw⟩:=Tg.1 hi;have:=(key i o ho).2.2.2.1 j (AH j (aab j d hj));rw[tw,hj]at this;simp[aF]at this
 ·have:=(key i o ho).2.2.2.2 (.tmp t) (by simpa using ht);simp only[Tv]at this;have:=this j (AH j (aab j t hj));rw[hj]at this;simp only[bne_self_eq_false,Zy,X7,Us,decide_eq_true_eq]at this;exact this.imp id z9
section
variable (lv:Bool)(P:SI)(Hf:List Nat->List aa)
def BQ (T:List (Nat×AV))(o:Tu)(av:AV):List (List Nat×List Nat)->Prop
 |[]=>True
 |(D,_)::l=>(AQ lv P ⟨T,Hf D⟩ o λa=>a=av)/\BQ T o av l
def BE (T:List (Nat×AV))(o:Tu)(av:AV):List (List Nat×List Nat)->Prop
 |[]=>True
 |(D,D')::l=>(j3 lv P (Hf D') ⟨T,Hf D⟩ o λa H'=>a=av/\H'=Hf D')/\BE T o av l
structure B4 (K:AS->Prop):Type where
 n:Nat
def f_ (ops:Array Tu):List qY->AS->(K:AS->Prop)->B4 K->Prop
 |[],s,K,_=>K s
 |⟨i,false,_,l⟩::rest,s,K,t=>ao (ops[i]?) λo=>AQ lv P s o λav=>BQ lv P Hf s.T o av l/\f_ ops rest (s.put o.dst av) K t
 |⟨i,true,D,l⟩::rest,s,K,t=>ao (ops[i]?) λo=>j3 lv P (Hf D) s o λav H'=>H'=Hf D/\BE lv P Hf s.T o av l/\f_ ops rest ((⟨s.T,H'⟩:AS).put o.dst av) K t
end
def TX (ops:Array Tu)(T0:List (Nat×AV))(f:Nat->AV):List Nat->List (Nat×AV)
 |[]=>T0
 |i::X=>match cZ ops i with
  |some d=>(d,f i)::TX ops T0 f X
  |none=>TX ops T0 f X
section
variable {ops:Array Tu}{T0:List (Nat×AV)}{f g:Nat->AV}
theorem Cd:∀{X:List Nat},(∀j∈X,f j=g j)->TX ops T0 f X=TX ops T0 g X
 |[],_=>rfl
 |i::X,h=>by
  simp only[TX,Cd (X:=X) λj hj=>h j (Td _ hj),h i (TC ..)]
theorem Ce(aa2:∀(i j d:Nat),cZ ops i=some d->cZ ops j=some d->i=j):∀{X:List Nat}{j t:Nat},j∈X->cZ ops j=some t->look (TX ops T0 f X) t=some (f j)
 |i::X,j,t,hj,ht=>by
  by_cases ko:i=j
  ·subst ko;simp[TX,ht,look]
  ·have iE:j∈X:=(SK.1 hj).resolve_left (Ne.symm ko);have ih:=Ce aa2 (X:=X) iE ht;unfold TX;split
   ·rename_i d hd;have:d≠t:=λe=>ko (aa2 i j d hd (by rw[e];exact ht));simp only[look,if_neg this];exact ih
   ·exact ih
theorem xG:∀{X:List Nat}{t:Nat},(∀j∈X,cZ ops j≠some t)->look (TX ops T0 f X) t=look T0 t
 |[],_,_=>rfl
 |i::X,t,h=>by
  have ih:=xG (X:=X) (t:=t) λj hj=>h j (Td _ hj);unfold TX;split
  ·rename_i d hd;have:d≠t:=λe=>h i (TC ..) (by rw[hd,e]);simp only[look,if_neg this];exact ih
  ·exact ih
theorem xH{H:List aa}{X:List Nat}{i:Nat}{o:Tu}{av:AV}(ho:ops[i]?=some o)(hf:f i=av):(⟨TX ops T0 f X,H⟩:AS).put o.dst av=⟨TX ops T0 f (i::X),H⟩:=by
 have hd:cZ ops i=o.dst:=by simp[cZ,ho]
 have e:TX ops T0 f (i::X)=match cZ ops i with
  |some d=>(d,f i)::TX ops T0 f X
  |none=>TX ops T0 f X:=rfl
 rw[e,hd];cases o.dst with
 |none=>rfl
 |some d=>simp[AS.put,hf]
def kP (ops:Array Tu)(X:List Nat):Prop:=∀i∈X,∀o,ops[i]?=some o->∀j∈cS o,j∈X
theorem kP.reach{X:List Nat}(hX:kP ops X){i j:Nat}(hi:i∈X)(h:Reach ops i j):j∈X:=Bs hX h λo ho k hk=>hX i hi o ho k hk
theorem kP.cons{X:List Nat}(hX:kP ops X){i:Nat}{o:Tu}(ho:ops[i]?=some o)(hd:∀j∈cS o,j∈X):kP ops (i::X):=λk hk o' ba j hj=>by
 rcases SK.1 hk with rfl|hk
 ·rw[ho]at ba;cases ba;exact Td _ (hd j hj)
 ·exact Td _ (hX k hk o' ba j hj)
theorem aeL{nt:Nat}{ord:List Nat}(aq:zF nt ops ord){X X':List Nat}{i:Nat}{o:Tu}(ho:ops[i]?=some o)(hX:kP ops X)(oz:kP ops X')(hi:i∉X)(cC:i∉X')(hd:∀j∈cS o,j∈X)(cz:∀j∈cS o,j∈X'){t:Nat}(ht: .tmp t∈o.op.operands):
  look (TX ops T0 f X) t=look (TX ops T0 f X') t:=by
 by_cases hex:∃j,cZ ops j=some t
 ·obtain⟨j,hj⟩:=hex;rcases aq.NE i o t j ho ht hj with h|h
  ·rw[Ce aq.BL (hd j h) hj,Ce aq.BL (cz j h) hj]
  ·rw[xG λj' iE e=>hi (hX.reach (aq.BL j j' t hj e▸iE) h),xG λj' iE e=>cC (oz.reach (aq.BL j j' t hj e▸iE) h)]
 ·rw[xG λj _ e=>hex ⟨j,e⟩,xG λj _ e=>hex ⟨j,e⟩]
end
section
variable {lv:Bool}{P:SI}{r:Option Nat}{ops:Array Tu}{Hf:List Nat->List aa}{T0:List (Nat×AV)}{es ord:List Nat}{nt:Nat}
def done (es X:List Nat):List Nat:=es.filter λe=>X.contains e
theorem FM{X:List Nat}{i:Nat}:tU es i (done es X)=done es (i::X):=by
 unfold tU done;apply US;intro e he;by_cases h:e=i
 ·subst h;simp
 ·simp[Uq,he,h]
theorem JI{X:List Nat}{i:Nat}(hi:i∉es):done es (i::X)=done es X:=by
 unfold done;apply US;intro e he;have:e≠i:=λh=>hi (h▸he);simp[this]
theorem JJ{X:List Nat}(hX:kP ops X){i:Nat}{o:Tu}(ho:ops[i]?=some o)(hi:i∉X)(hd:∀j∈cS o,j∈X):xb (gH ops ord []) es i (done es X)=true:=by
 have cK:∀e,e∈es->(e∈done es X<->e∈X):=λe he=>by simp[done,Uq,he]
 have hX2:=hX.cons ho hd;unfold xb;simp only[Tl,T1,Us,decide_eq_false_iff_not,Tv,X7,decide_eq_true_eq];refine⟨λh=>hi (by simpa[done]using(Uq.1 h).2),λe he=>⟨?_,?_⟩⟩
 ·by_cases h:e∈nk (gH ops ord []) i
  ·right;rw[cK e he];exact Bs hX (z9 h) λo' ba k hk=>by rw[ho]at ba;cases ba;exact hd k hk
  ·exact .inl h
 ·by_cases h:e∈X
  ·right;refine⟨λhm=>hi (hX.reach h (z9 hm)),λe' kg=> ?_⟩;by_cases hm:e'∈nk (gH ops ord []) e
   ·right;rw[cK e' kg];exact hX.reach h (z9 hm)
   ·exact .inl hm
  ·left;rw[cK e he];exact h
def OB (lv:Bool)(P:SI)(r:Option Nat)(ops:Array Tu)(Hf:List Nat->List aa)(T0:List (Nat×AV))(es:List Nat)(f:Nat->AV)(i:Nat)(o:Tu)(X:List Nat):Prop:=
 if i∈es then j3 lv P (Hf (done es (i::X))) ⟨TX ops T0 f X,Hf (done es X)⟩ o (λa H'=>a=f i/\H'=Hf (done es (i::X)))
 else∃T,(∀t a,look T t=some a->look (TX ops T0 f X) t=some a)/\dF lv P r o ⟨T,Hf (done es X)⟩ (f i)
theorem BQ.mem{T:List (Nat×AV)}{o:Tu}{av:AV}:∀{l:List (List Nat×List Nat)},BQ lv P Hf T o av l->∀p∈l,AQ lv P ⟨T,Hf p.1⟩ o λa=>a=av
 |(D,D')::l,h,p,hp=>by
  rcases SK.1 hp with rfl|hp
  ·exact h.1
  ·exact BQ.mem h.2 p hp
theorem BE.mem{T:List (Nat×AV)}{o:Tu}{av:AV}:∀{l:List (List Nat×List Nat)},BE lv P Hf T o av l->∀p∈l,j3 lv P (Hf p.2) ⟨T,Hf p.1⟩ o λa H'=>a=av/\H'=Hf p.2
 |(D,D')::l,h,p,hp=>by
  rcases SK.1 hp with rfl|hp
  ·exact h.1
  ·exact BE.mem h.2 p hp
def canon (T:List (Nat×AV)):List Tj->List (Nat×AV)
 |[]=>[]
 |.tmp t::l=>match look T t with
  |some a=>(t,a)::canon T l
  |none=>canon T l
 |_::l=>canon T l
theorem Jr{T:List (Nat×AV)}:∀{l:List Tj}{t:Nat}{a:AV},look (canon T l) t=some a->look T t=some a
 |[],_,_,h=>by cases h
 |x::l,t,a,h=>by
  have ih:=@Jr T l t a;cases x with
  |tmp t'=>
   simp only[canon]at h;split at h
   ·rename_i b hb;simp only[look]at h;split at h
    ·rename_i e;subst e;cases h;exact hb
    ·exact ih h
   ·exact ih h
  |_=>exact ih h
theorem Qa{T:List (Nat×AV)}:∀{l:List Tj}{t:Nat},.tmp t∈l->look (canon T l) t=look T t
 |x::l,t,h=>by
  by_cases hx:x=.tmp t
  ·subst hx;simp only[canon];split
   ·rename_i b hb;simp[look,hb]
   ·rename_i hb;rw[hb];cases e:look (canon T l) t with
    |none=>rfl
    |some a=>have:=Jr e;rw[hb]at this;cases this
  ·have hm: .tmp t∈l:=(SK.1 h).resolve_left (Ne.symm hx);have ih:=Qa (T:=T) hm;cases x with
   |tmp t'=>
    have aF:t'≠t:=λe=>hx (by rw[e]);simp only[canon];split
    ·simp only[look,if_neg aF];exact ih
    ·exact ih
   |_=>exact ih
theorem P_{T:List (Nat×AV)}:∀{l:List Tj}{t:Nat}{a:AV},look (canon T l) t=some a-> .tmp t∈l
 |[],_,_,h=>by cases h
 |x::l,t,a,h=>by
  have ih:=@P_ T l t a;cases x with
  |tmp t'=>
   simp only[canon]at h;split at h
   ·simp only[look]at h;split at h
    ·rename_i e;subst e;exact TC ..
    ·exact Td _ (ih h)
   ·exact Td _ (ih h)
  |_=>exact Td _ (ih h)
theorem P9{T:List (Nat×AV)}{H:List aa}{l:List Tj}{x:Tj}(h:x∈l):AS.ev ⟨T,H⟩ x=AS.ev ⟨canon T l,H⟩ x:=by
 cases x with
 |tmp t=>exact(Qa h).symm
 |_=>rfl
theorem Cy(aq:zF nt ops ord){K:AS->Prop}{tk:B4 K}:∀(B X:List Nat)(acc:Nat->AV),ky ops X B=true->kP ops X->f_ lv P Hf ops (qI (gH ops ord []) es X B) ⟨TX ops T0 acc X,Hf (done es X)⟩ K tk->
  ∃f,(∀j∈X,f j=acc j)/\(∀i∈B,∀o,ops[i]?=some o->∀X',kP ops X'->i∉X'->(∀j∈cS o,j∈X')->OB lv P r ops Hf T0 es f i o X')/\K ⟨TX ops T0 f (B.reverse++X),Hf (done es (B.reverse++X))⟩
 |[],X,acc,_,_,h=>⟨acc,λ_ _=>rfl,by simp,by simpa[qI,f_]using h⟩
 |i::B,X,acc,nK,hX,h=>by
  have auC:=nK;simp only[ky,Tl,T1,Us,decide_eq_false_iff_not]at nK;obtain⟨⟨hi,h2⟩,h3⟩:=nK;cases ho:ops[i]?with
  |none=>rw[ho]at h2;cases h2
  |some o=>
  rw[ho]at h2;have hd:∀j∈cS o,j∈X:=λj hj=>by have:=Tv.1 h2 j hj;simpa using this
  have oz:=hX.cons ho hd;have aun:xb (gH ops ord []) es i (done es X)=true:=JJ hX ho hi hd;have NF:∀D,D∈ue es->xb (gH ops ord []) es i D=true->D≠done es X->(D,tU es i D)∈((ue es).filter λD=>xb (gH ops ord []) es i D&&D !=done es X).map λD=>(D,tU es i D):=λD h1 h2 h3=>Te.2 ⟨D,Uq.2 ⟨h1,by simp[h2,h3]⟩,rfl⟩;have Pl:∀av:AV,TX ops T0 acc X=TX ops T0 (λj=>if j=i then av else acc j) X:=λav=>Cd λj hj=>by
   have:j≠i:=λe=>hi (e▸hj);simp[this]
  have seen:∀(f:Nat->AV) X',(∀j∈X,f j=acc j)->kP ops X'->i∉X'->(∀j∈cS o,j∈X')->∀(H:List aa),∀x∈o.op.operands,AS.ev ⟨TX ops T0 acc X,H⟩ x=AS.ev ⟨TX ops T0 f X',H⟩ x:=λf X' hf hc hn cz H x hx=>by
   cases x with
   |tmp t=>
    show look _ t=look _ t;rw[<- Cd (f:=f) (g:=acc) hf];exact aeL aq ho hX hc hi hn hd cz hx
   |_=>rfl
  unfold qI at h;by_cases dD:i∈es
  ·have Li:entry (gH ops ord []) es X i=⟨i,true,tU es i (done es X),((ue es).filter λD=>xb (gH ops ord []) es i D&&D !=done es X).map λD=>(D,tU es i D)⟩:=by
    unfold entry done;simp[dD]
   rw[Li,f_,ho,ao]at h;obtain⟨av,H',g1,e1,g2,g3⟩:=h.ex;subst e1;rw[FM]at g1 g3;rw[Pl av,xH ho (by simp)]at g3;obtain⟨f,q1,q2,q3⟩:=Cy aq B (i::X) _ h3 oz g3;have Ll:f i=av:=(by have:=q1 i (TC ..);simpa using this);have Di:∀j∈X,f j=acc j:=λj hj=>by
    have:=q1 j (Td _ hj);have aF:j≠i:=λe=>hi (e▸hj);simpa[aF]using this
   refine⟨f,Di,λk hk o' ba X' hc hn cz=> ?_,by simpa using q3⟩;rcases SK.1 hk with rfl|hk
   ·rw[ho]at ba;cases ba;unfold OB;rw[if_pos dD,Ll];refine j3.congr (T:=TX ops T0 acc X) (seen f X' Di hc hn cz _) ?_;by_cases hD:done es X'=done es X
    ·rw[<- FM,hD,FM];exact g1
    ·have:=g2.mem _ (NF _ (FV _ es) (JJ hc ho hn cz) hD);rw[<- FM];exact this
   ·exact q2 k hk o' ba X' hc hn cz
  ·have Li:entry (gH ops ord []) es X i=⟨i,false,tU es i (done es X),((ue es).filter λD=>xb (gH ops ord []) es i D&&D !=done es X).map λD=>(D,tU es i D)⟩:=by
    unfold entry done;simp[dD]
   rw[Li,f_,ho,ao]at h;have h':=AQ.congr (T':=canon (TX ops T0 acc X) o.op.operands.toList) (λx hx=>P9 (by simpa using hx)) h;obtain⟨av,g1,g2,g3⟩:=h'.sound (r:=r);rw[Pl av,xH ho (by simp),<- JI (X:=X) dD]at g3;obtain⟨f,q1,q2,q3⟩:=Cy aq B (i::X) _ h3 oz g3;have Ll:f i=av:=(by have:=q1 i (TC ..);simpa using this);have Di:∀j∈X,f j=acc j:=λj hj=>by
    have:=q1 j (Td _ hj);have aF:j≠i:=λe=>hi (e▸hj);simpa[aF]using this
   refine⟨f,Di,λk hk o' ba X' hc hn cz=> ?_,by simpa using q3⟩;rcases SK.1 hk with rfl|hk
   ·rw[ho]at ba;cases ba;unfold OB;rw[if_neg dD,Ll];refine⟨canon (TX ops T0 acc X) o.op.operands.toList,λt a e=> ?_,?_⟩
    ·have h1:=seen f X' Di hc hn cz [] (.tmp t) (by simpa using P_ e);have h2:look (TX ops T0 acc X) t=look (TX ops T0 f X') t:=h1;rw[<- h2];exact Jr e
    ·by_cases hD:done es X'=done es X
     ·rw[hD];exact g1
     ·have h1:=g2.mem _ (NF _ (FV _ es) (JJ hc ho hn cz) hD);have h2:=AQ.congr (T':=canon (TX ops T0 acc X) o.op.operands.toList) (λx hx=>P9 (by simpa using hx)) h1;obtain⟨mF,h3,rfl⟩:=h2.sound (r:=r);exact h3
   ·exact q2 k hk o' ba X' hc hn cz
theorem Fi{f:Nat->AV}(aq:zF nt ops ord){X X':List Nat}(h:∀i,i∈X<->i∈X')(t:Nat):look (TX ops T0 f X) t=look (TX ops T0 f X') t:=by
 by_cases hex:∃j∈X,cZ ops j=some t
 ·obtain⟨j,hj,hd⟩:=hex;rw[Ce aq.BL hj hd,Ce aq.BL ((h j).1 hj) hd]
 ·rw[xG λj hj e=>hex ⟨j,hj,e⟩,xG λj hj e=>hex ⟨j,(h j).2 hj,e⟩]
theorem FN{X X':List Nat}(h:∀i,i∈X<->i∈X'):done es X=done es X':=by
 unfold done;apply US;intro e _;have:=h e;by_cases h1:e∈X
 ·have h2:=this.1 h1;simp[h1,h2]
 ·have h2:e∉X':=λx=>h1 (this.2 x);simp[h1,h2]
theorem ahI{f:Nat->AV}(aq:zF nt ops ord)(ay:∀i∈ord,∀o,ops[i]?=some o->∀X',kP ops X'->i∉X'->(∀j∈cS o,j∈X')->OB lv P r ops Hf T0 es f i o X'){X l:List Nat}(hs:lZ ops X l):
  (∀i∈X,i<ops.size)->kP ops X->∀(E:Env)(V:View)(a:Act)(Q:Ex->Act->View->Prop),At E V ⟨TX ops T0 f X,Hf (done es X)⟩ a nt->
   (∀E' V' a' X',Kept E E' V V' a a'->At E' V' ⟨TX ops T0 f X',Hf (done es X')⟩ a' nt->(∀i,i∈X'<->i<ops.size)->Q .normal a' V')->dp lv P r ops Q l a V:=by
 induction hs with
 |nil X h=>
  intro hX hc E V a Q ah hQ;exact hQ E V a X (Kept.refl E V a) ah λi=>⟨hX i,h i⟩
 |cons o ho hn hd lK ih=>
  rename_i X i l;intro hX hc E V a Q ah hQ;have hi:i<ops.size:=(SR.1 ho).1;simp only[dp,ho];have oz:∀k∈i::X,k<ops.size:=λk hk=>(SK.1 hk).elim (λe=>by rw[e];exact hi) (hX k);have bi:=hc.cons ho hd;have hw:Ti o (yielded ops a.tmps)=true:=by unfold Ti;rw[aq.CS i o ho]
  rw[if_pos hw];refine .inl ?_;have dt:∀d,o.dst=some d->d<a.tmps.size:=λd e=>by rw[ah.size];exact aq.dst i o d ho e
  have lJ:=ay i (aq.full i hi) o ho X hc hn hd;unfold OB at lJ;by_cases dD:i∈es
  ·rw[if_pos dD]at lJ;have aR:=lJ.step (r:=r) (bad:=λ_ _=>False);refine aR E V a _ Q ah.bu ah.tok dt (.inr (aq.we i o ho)) (λE' V' a' s' hk cO ht e=> ?_) λ_ _ _ _ _ _ _ _ _ h=>h.elim;subst e;rw[xH ho rfl]at ht cO;exact ih oz bi E' V' a' Q ⟨cO,ht,hk.size.trans ah.size⟩ λbS aS cj mE aI dj fD=>hQ bS aS cj mE (hk.trans aI) dj fD
  ·rw[if_neg dD]at lJ;obtain⟨T,hT,hq⟩:=lJ;refine hq E V a _ Q ah.bu (λt av e=>ah.tok t av (hT t av e)) (.inr (aq.we i o ho)) λE' V' v hle ce eT cO hv=> ?_;have ht:cg E' ((⟨TX ops T0 f X,Hf (done es X)⟩:AS).put o.dst (f i)).T (a.put o.dst v).tmps:=cg.h_ (s:=⟨TX ops T0 f X,Hf (done es X)⟩) (ah.tok.mono hle) dt hv;rw[xH ho rfl]at ht;refine ih oz bi E' V' (a.put o.dst v) Q ⟨by rw[JI dD];exact cO,ht,(dX _ _ _).trans ah.size⟩ λbS aS cj mE hk dj fD=>
    hQ bS aS cj mE ⟨hle.trans hk.le,hk.size.trans (dX _ _ _),hk.defers.trans (put_defers _ _ _),hk.role.trans ce,hk.deaf.trans eT⟩ dj fD
theorem agc{s:AS}{id:Nat}{Φ:an->AS->Prop}(es ord:List Nat)(pl:List qY)(Hf:List Nat->List aa)(hm:P.follows .mixedOrders=true)(aq:rn nt ops es ord=true)(du:acC ops es ord=pl)(h0:s.H=Hf [])
  (h:f_ lv P Hf ops pl s (Φ .normal) ⟨0⟩):aP lv P r nt (.region id ops true) s Φ:=by
 intro E V a Q ah hQ;have aq:=rn.out aq;obtain⟨wN,_,hlt⟩:=EF aq.top;have cu:s=⟨TX ops s.T (λ_=> .val undef) [],Hf (done es [])⟩:=by
  have:done es []=[]:=by simp[done]
  rw[this,<- h0];rfl
 subst du;have h':f_ lv P Hf ops (qI (gH ops ord []) es [] ord) ⟨TX ops s.T (λ_=> .val undef) [],Hf (done es [])⟩ (Φ .normal) ⟨0⟩:=by rw[<- cu];exact h
 obtain⟨f,_,q2,q3⟩:=Cy (r:=r) aq ord [] _ aq.top (λi hi=>by cases hi) h';have AH:∀i,i∈ord<->i<ops.size:=λi=>⟨hlt i,aq.full i⟩;refine OV λt=> ?_;rw[show VO (P.follows .mixedOrders) ops t=UK .any ops ops.size t (TN ops.size false) [] by unfold VO;rw[hm];simp[Zc]];have binds:∀(A B:List Nat)(X:List Nat),ky ops X (A++B)=true->True:=λ_ _ _ _=>trivial;have ready:∀(ord X:List Nat),ky ops X ord=true->∀A i B,ord=A++i::B->∃o,ops[i]?=some o/\∀j∈cS o,j∈A\/j∈X:=by
  intro ord;induction ord with
  |nil=>intro X _ A i B e;cases A<;>cases e
  |cons x l ih=>
   intro X nK A i B e;simp only[ky,Tl,T1,Us,decide_eq_false_iff_not]at nK;obtain⟨⟨h1,h2⟩,h3⟩:=nK;cases A with
   |nil=>
    have e1:x=i:=(by have:=congrArg List.head? e;simpa using this);rw[e1]at h2;cases ho:ops[i]?with
    |none=>rw[ho]at h2;cases h2
    |some o=>
     rw[ho]at h2;exact⟨o,rfl,λj hj=> .inr (by have:=Tv.1 h2 j hj;simpa using this)⟩
   |cons y A=>
    cases e;obtain⟨o,ho,hb⟩:=ih (x::X) h3 A i B rfl;refine⟨o,ho,λj hj=> ?_⟩;rcases hb j hj with h|h
    ·exact .inl (Td _ h)
    ·rcases SK.1 h with rfl|h
     ·exact .inl (TC ..)
     ·exact .inr h
 have hs:=Ng (ops:=ops) (λi o ho j hj=>by
   obtain⟨A,B,e⟩:=List.append_of_mem (aq.full i (SR.1 ho).1);obtain⟨o',ba,hb⟩:=ready ord [] aq.top A i B e;rw[ho]at ba;cases ba;rcases hb j hj with h|h
   ·exact hlt j (by rw[e];exact Th _ h)
   ·cases h)
  (λX ⟨i,hi,hn⟩=>by
   obtain⟨A,i',B,e,h1,h2⟩:=Kk (X:=X) ⟨i,aq.full i hi,hn⟩;obtain⟨o',ba,hb⟩:=ready ord [] aq.top A i' B e;refine⟨i',o',ba,h1,λj hj=> ?_⟩;rcases hb j hj with h|h
   ·exact h2 j h
   ·cases h)
  ops.size t (TN ops.size false) [] ⟨by simp,λi hi=>by simp[hi]⟩ (UH Y6 (by simp))
 have tn:At E V ⟨TX ops s.T f [],Hf (done es [])⟩ a nt:=by
  have e:(⟨TX ops s.T f [],Hf (done es [])⟩:AS)=s:=cu.symm;rw[e];exact ah
 refine ahI (Hf:=Hf) (es:=es) aq q2 hs (by simp) (λi hi=>by cases hi) E V a Q tn λE' V' a' X' hk aT fD=> ?_;have fF:∀i,i∈X'<->i∈ord.reverse++[]:=λi=>by simp[fD,AH]
 refine hQ .normal .normal E' V' a' _ hk ⟨?_,λt x e=> ?_,aT.size⟩ trivial q3
 ·rw[<- FN fF];exact aT.bu
 ·rw[<- Fi aq fF]at e;exact aT.tok t x e
end
open Go.Proofs
theorem F.Pa:lz SA 77=(SM Go.Gg.zK.map):=by kernel_rfl
theorem F.Ph:eJ SA 4=(SM (Xf Bool.false)):=by kernel_rfl
theorem F.Pj:eJ SA 88=(SM (TE #[(Xf Bool.false),(Zu Option.none),(SF S7 (0)),(SF S7 (0)),(SF S7 (0)),(SF S7 (0)),(SF S7 (0)),(SF S7 (0)),(SF S7 (0)),(SF S7 (0)),(SF S7 (0)),(SF S7 (0)),(SF S7 (0)),(SF S7 (0)),(SF S7 (0)),(SF S7 (0)),(SF S7 (0)),(SF SD (0)),(SF SD (0)),(SF SD (0)),(SF SD (0)),(SF SD (0)),(SF SD (0)),(SF SD (0)),(SF SD (0)),(SF SD (0)),(SF SD (0)),(SF SD (0))])):=by kernel_rfl
theorem F.amx:mj SA 116=(SM Bool.false):=by kernel_rfl
theorem F.DY:mj SA 126=(SM Bool.true):=by kernel_rfl
theorem F.MU:mj SA 136=(SM Bool.false):=by kernel_rfl
theorem F.amy:mj SA 156=(SM Bool.false):=by kernel_rfl
theorem F.abc:mj SA 97=(SM Bool.false):=by kernel_rfl
theorem F.f31:SA.funcs[31]?=some Tryz.f31:=by kernel_rfl
theorem F.f71:SA.funcs[71]?=some Tryz.f71:=by kernel_rfl
theorem F.f77:SA.funcs[77]?=some XQ:=by kernel_rfl
theorem F.f91:SA.funcs[91]?=some Tryz.f91:=by kernel_rfl
theorem F.f95:SA.funcs[95]?=some Tryz.f95:=by kernel_rfl
theorem F.f97:SA.funcs[97]?=some auU:=by kernel_rfl
theorem F.mixed:SA.follows .mixedOrders=true:=by kernel_rfl
inductive dK (lv:Bool)(P:SI)(r:Option Nat)(nt:Nat):T7->(an->AS->Prop)->T7->(an->AS->Prop)->Prop
 |base {c:T7} {Φ:an->AS->Prop}:dK lv P r nt c Φ c Φ
 |seq {x y h:T7} {Φ Ψ:an->AS->Prop} (i:dK lv P r nt x (an.then (λs=>aP lv P r nt y s Φ) Φ) h Ψ):dK lv P r nt (.seq x y) Φ h Ψ
 |block {id:Nat} {x h:T7} {Φ Ψ:an->AS->Prop} (i:dK lv P r nt x (an.inBlock id Φ) h Ψ):dK lv P r nt (.block id x) Φ h Ψ
section
variable {lv:Bool}{P:SI}{r:Option Nat}{s:AS}{nt id:Nat}{ops:Array Tu}{c h:T7}{Φ Ψ:an->AS->Prop}
theorem bI{f:TQ}{H:List aa}{args:List AV}{k kp:AV->List aa->Prop}{rs:List UQ}(fn:YH)
  (h:bH H->(∀a∈args,Lt H.length a)->aP lv P none nt c ⟨bt 0 args,H⟩ (qU P rs H.length k kp)) (hf:P.funcs[f]?=some fn:=by kernel_rfl) (hb:fn.body=some c:=by rfl) (hr:fn.results=rs.toArray:=by rfl) (hn:fn.ntmps=nt:=by rfl) (cM:args.length<=nt:=by simp):bf lv P f H args k kp:=ajJ hf hb hr hn cM h
theorem dK.go(i:dK lv P r nt c Φ h Ψ):∀{s:AS},aP lv P r nt h s Ψ->aP lv P r nt c s Φ:=by
 induction i with
 |base=>exactλh=>h
 |seq _ ih=>exactλk=>im (ih k)
 |block _ ih=>exactλk=>PA (ih k)
theorem ai(h:iC lv P ops ops.toList s (Ψ .normal) (λpv s=>Ψ (.panic pv) s))(i:dK lv P r nt c Φ (.region id ops false) Ψ:=by repeat first|exact .base|apply dK.seq|apply dK.block)(hd:jT nt ops=true:=by kernel_rfl):aP lv P r nt c s Φ:=i.go (PJ hd h)
theorem atW{o:Tj}{x y:T7}(h:ao (s.ev o) λa=>a.asBool λb=>(b=true->aP lv P r nt x s Ψ)/\(b=false->aP lv P r nt y s Ψ))(i:dK lv P r nt c Φ (.cond o x y) Ψ:=by repeat first|exact .base|apply dK.seq|apply dK.block):aP lv P r nt c s Φ:=i.go (PB h)
theorem agk(h:Ψ .normal s)(i:dK lv P r nt c Φ .skip Ψ:=by repeat first|exact .base|apply dK.seq|apply dK.block):aP lv P r nt c s Φ:=i.go (PM h)
theorem oe(h:Ψ .ret s)(i:dK lv P r nt c Φ .ret Ψ:=by repeat first|exact .base|apply dK.seq|apply dK.block):aP lv P r nt c s Φ:=i.go (PK h)
theorem atY(h:Ψ (.exit id) s)(i:dK lv P r nt c Φ (.exit id) Ψ:=by repeat first|exact .base|apply dK.seq|apply dK.block):aP lv P r nt c s Φ:=i.go (PC h)
theorem bY{x:T7}(h:aP lv P r nt x s (an.inBlock id Ψ))(i:dK lv P r nt c Φ (.block id x) Ψ:=by repeat first|exact .base|apply dK.seq|apply dK.block):aP lv P r nt c s Φ:=i.go (PA h)
theorem ak{p:Prop}(h:p)(i:dK lv P r nt c Φ (.region id ops false) Ψ:=by repeat first|exact .base|apply dK.seq|apply dK.block)(e:iC lv P ops ops.toList s (Ψ .normal) (λpv s=>Ψ (.panic pv) s)=p:=by conv=>lhs;simp only[seval])(hd:jT nt ops=true:=by kernel_rfl):aP lv P r nt c s Φ:=i.go (PJ hd (e.mpr h))
theorem aD{p:Prop}{o:Tj}{x y:T7}(h:p)(i:dK lv P r nt c Φ (.cond o x y) Ψ:=by repeat first|exact .base|apply dK.seq|apply dK.block)(e:(ao (s.ev o) λa=>a.asBool λb=>(b=true->aP lv P r nt x s Ψ)/\(b=false->aP lv P r nt y s Ψ))=p:=by conv=>lhs;simp only[seval]):aP lv P r nt c s Φ:=i.go (PB (e.mpr h))
theorem aO{p:Prop}(h:p)(i:dK lv P r nt c Φ .skip Ψ:=by repeat first|exact .base|apply dK.seq|apply dK.block)(e:Ψ .normal s=p:=by conv=>lhs;simp only[seval]):aP lv P r nt c s Φ:=i.go (PM (e.mpr h))
theorem bc{p:Prop}(h:p)(i:dK lv P r nt c Φ .ret Ψ:=by repeat first|exact .base|apply dK.seq|apply dK.block)(e:Ψ .ret s=p:=by conv=>lhs;simp only[seval]):aP lv P r nt c s Φ:=i.go (PK (e.mpr h))
theorem bU{p:Prop}(h:p)(i:dK lv P r nt c Φ (.exit id) Ψ:=by repeat first|exact .base|apply dK.seq|apply dK.block)(e:Ψ (.exit id) s=p:=by conv=>lhs;simp only[seval]):aP lv P r nt c s Φ:=i.go (PC (e.mpr h))
theorem ek{Φ Ψ:an->AS->Prop}{c:T7}(p:Nat)(h:mW lv P ops (ops.toList.take p) s (λs'=>iC lv P ops (ops.toList.drop p) s' (Ψ .normal) (λpv s=>Ψ (.panic pv) s)))(i:dK lv P r nt c Φ (.region id ops true) Ψ:=by repeat first|exact .base|apply dK.seq|apply dK.block)(hm:P.follows .mixedOrders=true:=by kernel_rfl)(aq:Ac nt p ops=true:=by kernel_rfl):aP lv P r nt c s Φ:=i.go (agb hm p aq h)
theorem o_{Φ Ψ:an->AS->Prop}{c:T7}(es ord:List Nat){pl:List qY}(Hf:List Nat->List aa)(h:f_ lv P Hf ops pl s (Ψ .normal) ⟨0⟩)(i:dK lv P r nt c Φ (.region id ops true) Ψ:=by repeat first|exact .base|apply dK.seq|apply dK.block)(hm:P.follows .mixedOrders=true:=by kernel_rfl)(aq:rn nt ops es ord=true:=by kernel_rfl)(du:acC ops es ord=pl:=by conv=>lhs;cbv)(h0:s.H=Hf []:=by first|rfl|simp only[seval]):aP lv P r nt c s Φ:=i.go (agc es ord pl Hf hm aq du h0 h)
theorem sQ(n:Nat)(V:Nat->List (Nat×AV))(Hf:Nat->List aa)(ok:Nat->Prop)(hm:ok 0)
  (h:bH s.H->(∀t a,look s.T t=some a->Lt s.H.length a)->∀m,m<=n->ok m->∀R:AS->Prop,(∀s',(m<n/\ok (m+1)/\q_ s.T (V m) (V (m+1)) (Hf (m+1)) s')->R s')->aP lv P r nt c ⟨V m++s.T,Hf m⟩ (an.then R Φ)) (uS:∀m m',(V m).map (·.1)=(V m').map (·.1):=by exactλ_ _=>rfl) (gI:∀p∈V 0,∃b,look s.T p.1=some b/\Wk b p.2:=by(simp only[seval];simp[bm,Wk.refl])) (uD:Hf 0=s.H:=by rfl) (hl:∀m,m<=n->ok m->(Hf m).length=s.H.length:=by exactλ_ _ _=>rfl):aP lv P r nt (.loop c) s Φ:=gF n V Hf ok uS gI uD hl hm h
theorem cT{base Vi Vn T:List (Nat×AV)}{H:List aa}(hk:sI T (Vi++base) Vn:=by exact pL rfl rfl)(hv:∀p∈Vn,∃b,look T p.1=some b/\Wk b p.2:=by(simp only[seval];simp[bm,Wk.refl])):q_ base Vi Vn H ⟨T,H⟩:=aqs hk hv
theorem acS{base Vi Vn T:List (Nat×AV)}{H H':List aa}(aq:bH H)(hg:∃G,H++G=H':=by first|exact⟨_,rfl⟩|exact⟨_,SC ..⟩)(hk:sI T (Vi++base) Vn:=by exact pL rfl rfl)(hv:∀p∈Vn,∃b,look T p.1=some b/\Wk b p.2:=by(simp only[seval];simp[bm,Wk.refl]))(hlt:∀p∈Vn,Lt H.length p.2:=by simp[eC]):q_ base Vi Vn H ⟨T,H'⟩:=by
 obtain⟨G,rfl⟩:=hg;exact acR hk hv aq hlt
theorem di{H:List aa}{args:List AV}{k kp:AV->List aa->Prop}{g:TQ}{first cV:List AV}(hf:bf lv P g H (first++args++cV) k kp)(hg:qR P g=true:=by kernel_rfl):jb lv P (.fn (.func g) first cV) H args k kp:=Jo hg hf
end
theorem aJ{lv:Bool}{P:SI}{H:List aa}{args:List AV}{k kp:AV->List aa->Prop}{g:TQ}{first cV:List AV}{t:Fe k kp}(hf:bf lv P g H (first++args++cV) k kp)(hg:qR P g=true:=by kernel_rfl):BW lv P (.fn (.func g) first cV) H args k kp t:=xQ (Jo hg hf)
theorem F.q0:jM SA 22 22=(SM (3,(1,(SF SD (0)))))/\jM SA 23 23=(SM (61,(3,(TE #[(SF SD (0)),(SF SD (0)),(SF SD (0))]))))/\jM SA 24 24=(SM (48,(4,(TE #[(SF SD (0)),(SF SD (0)),(SF SD (0)),(SF SD (0))]))))/\jM SA 57 57=(SM (22,(1,(Uu Option.none 0 0))))/\oU SA 136=(SM ((Go.Gg.iD.fields []),(TE #[])))/\oU SA 26=(SM ((Go.Gg.iD.fields [(0,1),(1,1),(2,1),(3,1),(4,1),(5,1)]),(TE #[(SF SD (0)),(SF SD (0)),(SF SD (0)),(Uu Option.none 0 0),(Uu Option.none 0 0),(Uu Option.none 0 0)])))/\oU SA 46=(SM ((Go.Gg.iD.fields [(0,1),(1,1)]),(TE #[(SF SD (0)),(SF SD (0))])))/\oU SA 48=(SM ((Go.Gg.iD.fields [(0,2),(2,2)]),(TE #[(SF SD (0)),(SF SD (0)),(SF SD (0)),(SF SD (0))])))/\oU SA 61=(SM ((Go.Gg.iD.fields [(0,1),(1,2)]),(TE #[(SF SD (0)),(SF SD (0)),(SF SD (0))])))/\oU SA 73=(SM ((Go.Gg.iD.fields [(0,1),(1,1),(2,1)]),(TE #[(Uu Option.none 0 0),(SF SD (0)),(SF TA (0))])))/\oU SA 76=(SM ((Go.Gg.iD.fields [(0,6)]),(TE #[(SF SD (0)),(SF SD (0)),(SF SD (0)),(Uu Option.none 0 0),(Uu Option.none 0 0),(Uu Option.none 0 0)])))/\oU SA 86=(SM ((Go.Gg.iD.fields [(0,4),(4,4),(8,3)]),(TE #[(SF SD (0)),(SF SD (0)),(SF SD (0)),(SF SD (0)),(SF SD (0)),(SF SD (0)),(SF SD (0)),(SF SD (0)),(SF SD (0)),(SF SD (0)),(SF SD (0))])))/\oU SA 88=(SM ((Go.Gg.iD.fields [(0,1),(1,1),(2,4),(6,4),(10,4),(14,3),(17,11)]),(TE #[(Xf Bool.false),(Zu Option.none),(SF S7 (0)),(SF S7 (0)),(SF S7 (0)),(SF S7 (0)),(SF S7 (0)),(SF S7 (0)),(SF S7 (0)),(SF S7 (0)),(SF S7 (0)),(SF S7 (0)),(SF S7 (0)),(SF S7 (0)),(SF S7 (0)),(SF S7 (0)),(SF S7 (0)),(SF SD (0)),(SF SD (0)),(SF SD (0)),(SF SD (0)),(SF SD (0)),(SF SD (0)),(SF SD (0)),(SF SD (0)),(SF SD (0)),(SF SD (0)),(SF SD (0))])))/\oU SA 97=(SM ((Go.Gg.iD.fields [(0,1),(1,1)]),(TE #[(SF SD (0)),(SF SD (0))])))/\BX SA 3 71=(SM (SM TA))/\BX SA 71 3=(SM (SM SD)):=by and_intros<;>kernel_rfl
theorem F.q1:eX SA 112 0=(SM 0)/\eX SA 112 1=(SM 1)/\eX SA 112 2=(SM 2)/\eX SA 26 0=(SM 0)/\eX SA 26 1=(SM 1)/\eX SA 26 2=(SM 2)/\eX SA 26 3=(SM 3)/\eX SA 26 4=(SM 4)/\eX SA 26 5=(SM 5)/\eX SA 46 0=(SM 0)/\eX SA 46 1=(SM 1)/\eX SA 48 0=(SM 0)/\eX SA 48 1=(SM 2)/\eX SA 61 0=(SM 0)/\eX SA 61 1=(SM 1)/\eX SA 73 0=(SM 0):=by and_intros<;>kernel_rfl
theorem F.q2:eX SA 73 1=(SM 1)/\eX SA 73 2=(SM 2)/\eX SA 76 0=(SM 0)/\eX SA 86 0=(SM 0)/\eX SA 86 1=(SM 4)/\eX SA 86 2=(SM 8)/\eX SA 88 0=(SM 0)/\eX SA 88 1=(SM 1)/\eX SA 88 2=(SM 2)/\eX SA 88 3=(SM 6)/\eX SA 88 4=(SM 10)/\eX SA 88 5=(SM 14)/\eX SA 88 6=(SM 17)/\eX SA 97 0=(SM 0)/\eX SA 97 1=(SM 1)/\nX SA 22=(SM (Option.none,1)):=by and_intros<;>kernel_rfl
theorem F.q3:nX SA 23=(SM (Option.none,3))/\nX SA 24=(SM (Option.none,4))/\nX SA 57=(SM (Option.none,1))/\nX SA 80=(SM ((SM 4),1))/\nX SA 81=(SM ((SM 3),1))/\nX SA 82=(SM ((SM 4),1))/\nX SA 83=(SM ((SM 4),1))/\nX SA 84=(SM ((SM 3),1))/\xB SA 82=(SM (4,1))/\xB SA 83=(SM (4,1))/\xB SA 84=(SM (3,1))/\kA SA 22=(SM (3,1))/\kA SA 24=(SM (48,4))/\kA SA 82=Option.none/\kA SA 83=Option.none/\kA SA 84=Option.none:=by and_intros<;>kernel_rfl
theorem F.q4:lz SA 22=(SM Go.Gg.zK.slice)/\lz SA 23=(SM Go.Gg.zK.slice)/\lz SA 24=(SM Go.Gg.zK.slice)/\lz SA 57=(SM Go.Gg.zK.slice)/\B7 SA 22=(SM (3,(1,(SF SD (0)))))/\oX SA 77=(SM (83,4))/\re SA 22=(SM (3,(1,(SF SD (0)))))/\re SA 23=(SM (61,(3,(TE #[(SF SD (0)),(SF SD (0)),(SF SD (0))]))))/\re SA 24=(SM (48,(4,(TE #[(SF SD (0)),(SF SD (0)),(SF SD (0)),(SF SD (0))]))))/\re SA 57=(SM (22,(1,(Uu Option.none 0 0))))/\Ty SA 130=(SM (1,Bool.false))/\Ty SA 132=(SM (1,Bool.false))/\Ty SA 136=(SM (0,Bool.true))/\Ty SA 139=(SM (1,Bool.false))/\Ty SA 157=(SM (1,Bool.false))/\Ty SA 22=(SM (1,Bool.false)):=by and_intros<;>kernel_rfl
theorem F.q5:Ty SA 23=(SM (1,Bool.false))/\Ty SA 24=(SM (1,Bool.false))/\Ty SA 26=(SM (6,Bool.true))/\Ty SA 3=(SM (1,Bool.false))/\Ty SA 4=(SM (1,Bool.false))/\Ty SA 46=(SM (2,Bool.true))/\Ty SA 48=(SM (4,Bool.true))/\Ty SA 61=(SM (3,Bool.true))/\Ty SA 68=(SM (1,Bool.false))/\Ty SA 71=(SM (1,Bool.false))/\Ty SA 76=(SM (6,Bool.true))/\Ty SA 77=(SM (1,Bool.false))/\Ty SA 79=(SM (1,Bool.false))/\Ty SA 81=(SM (3,Bool.true))/\Ty SA 83=(SM (4,Bool.true))/\Ty SA 86=(SM (11,Bool.true)):=by and_intros<;>kernel_rfl
theorem F.q6:Ty SA 88=(SM (28,Bool.true))/\Ty SA 97=(SM (2,Bool.true))/\eJ SA 112=(SM (TE #[(SF SD (0)),(SF SD (0)),(Xf Bool.false)]))/\eJ SA 116=(SM (TE #[(SF SD (0)),(SF SD (0))]))/\eJ SA 136=(SM (TE #[]))/\eJ SA 139=(SM (XS Option.none))/\eJ SA 147=(SM (TE #[(SF TA (0)),(SF ak_ (0))]))/\eJ SA 153=(SM (TE #[(SF SD (0)),(SF SD (0))]))/\eJ SA 157=(SM YX)/\eJ SA 26=(SM (TE #[(SF SD (0)),(SF SD (0)),(SF SD (0)),(Uu Option.none 0 0),(Uu Option.none 0 0),(Uu Option.none 0 0)]))/\eJ SA 3=(SM (SF SD (0)))/\eJ SA 46=(SM (TE #[(SF SD (0)),(SF SD (0))]))/\eJ SA 48=(SM (TE #[(SF SD (0)),(SF SD (0)),(SF SD (0)),(SF SD (0))]))/\eJ SA 61=(SM (TE #[(SF SD (0)),(SF SD (0)),(SF SD (0))]))/\eJ SA 68=(SM YX)/\eJ SA 76=(SM (TE #[(SF SD (0)),(SF SD (0)),(SF SD (0)),(Uu Option.none 0 0),(Uu Option.none 0 0),(Uu Option.none 0 0)])):=by and_intros<;>kernel_rfl
theorem F.q7:eJ SA 79=(SM (SF S7 (0)))/\eJ SA 80=(SM (TE #[(SF S7 (0)),(SF S7 (0)),(SF S7 (0)),(SF S7 (0))]))/\eJ SA 81=(SM (TE #[(SF S7 (0)),(SF S7 (0)),(SF S7 (0))]))/\eJ SA 83=(SM (TE #[(SF SD (0)),(SF SD (0)),(SF SD (0)),(SF SD (0))]))/\eJ SA 86=(SM (TE #[(SF SD (0)),(SF SD (0)),(SF SD (0)),(SF SD (0)),(SF SD (0)),(SF SD (0)),(SF SD (0)),(SF SD (0)),(SF SD (0)),(SF SD (0)),(SF SD (0))]))/\eJ SA 97=(SM (TE #[(SF SD (0)),(SF SD (0))])):=by and_intros<;>kernel_rfl
attribute [seval] F.q0 F.q1 F.q2 F.q3 F.q4 F.q5 F.q6 F.q7 F.Pa F.Pj
def isDone (j:Nat)(D:List Nat):Bool:=D.contains j
theorem amw(j:Nat):isDone j []=false:=by simp[isDone]
theorem amv(i j:Nat)(D:List Nat):isDone j (i::D)=((j==i)||isDone j D):=by
 by_cases h:j=i<;>simp[isDone,h]
theorem ag5(lv:Bool)(P:SI)(Hf:List Nat->List aa)(T:List (Nat×AV))(o:Tu)(av:AV):BQ lv P Hf T o av []=True:=by rw[BQ]
theorem ag4(lv:Bool)(P:SI)(Hf:List Nat->List aa)(T:List (Nat×AV))(o:Tu)(av:AV)(D D':List Nat)(l:List (List Nat×List Nat)):BQ lv P Hf T o av ((D,D')::l)=((AQ lv P ⟨T,Hf D⟩ o λa=>a=av)/\BQ lv P Hf T o av l):=by rw[BQ]
theorem agA(lv:Bool)(P:SI)(Hf:List Nat->List aa)(T:List (Nat×AV))(o:Tu)(av:AV):BE lv P Hf T o av []=True:=by rw[BE]
theorem agz(lv:Bool)(P:SI)(Hf:List Nat->List aa)(T:List (Nat×AV))(o:Tu)(av:AV)(D D':List Nat)(l:List (List Nat×List Nat)):BE lv P Hf T o av ((D,D')::l)=((j3 lv P (Hf D') ⟨T,Hf D⟩ o λa H'=>a=av/\H'=Hf D')/\BE lv P Hf T o av l):=by rw[BE]
theorem agw:type_of% @f_.eq_1:=by intros;rw[f_.eq_1]
theorem agx:type_of% @f_.eq_2:=by intros;rw[f_.eq_2]
theorem agv:type_of% @f_.eq_3:=by intros;rw[f_.eq_3]
theorem aeX:type_of% @j3.eq_1:=by intros;rw[j3.eq_1]
theorem ahT(G H:List aa)(k:AV->List aa->Prop)(n m sz:Nat)(elem:TypeId)(l l':List AV):qT G H k n m sz elem l l' .exact=j5 G[H.length]? (0<m/\k (.bp H.length 0 (n+m) 0) (H++[.own sz (l++l') elem])) (k (.sl (n+m) (l++l') (.opn H.length)) (H++[.tail (n+m) sz elem])) ⟨0⟩:=by rw[qT]
theorem aj5(X Y:Prop)(t:lY X Y):j5 none X Y t=Y:=by rw[j5];simp
theorem aj6(a:Nat)(b:List AV)(c:TypeId)(X Y:Prop)(t:lY X Y):j5 (some (.own a b c)) X Y t=X:=by rw[j5]
theorem aj4(b:List AV)(c:TypeId)(X Y:Prop)(t:lY X Y):j5 (some (.cells b c)) X Y t=Y:=by rw[j5];simp
theorem aj9(a b:Nat)(c:TypeId)(X Y:Prop)(t:lY X Y):j5 (some (.tail a b c)) X Y t=Y:=by rw[j5];simp
theorem aj3(b:Obj)(X Y:Prop)(t:lY X Y):j5 (some (.obj b)) X Y t=Y:=by rw[j5];simp
theorem aj8(a:Nat)(b:List AV)(c:TypeId)(X Y:Prop)(t:lY X Y):j5 (some (.part a b c)) X Y t=Y:=by rw[j5];simp
@[congr] theorem aug {x x' : Option aa} {X Y : Prop} {t : lY X Y} (h : x = x') : j5 x X Y t = j5 x' X Y t := by rw [h]
theorem ahU(G H:List aa)(k:AV->List aa->Prop)(n m sz:Nat)(elem:TypeId)(l l':List AV)(i:Nat):qT G H k n m sz elem l l' (.opn i)=((match H[i]?with
   |some (.tail n' ez gX)=>n'=n/\ez=sz/\gX=elem
   |_=>False)/\(∀a∈l',a.leaf=true)/\k (.sl (n+m) (l++l') (.opn i)) (H.set i (.tail (n+m) sz elem))):=by first|(rw[qT];done)|(rw[qT];rfl)
section
variable {lv:Bool}{P:SI}{s s':AS}
@[congr] theorem atD {G G' : List aa} {o : Tu} {k : AV -> List aa -> Prop} (hG : G = G') (h : s = s') : j3 lv P G s o k = j3 lv P G' s' o k := by rw [hG, h]
@[congr] theorem at2 {Hf : List Nat -> List aa} {ops : Array Tu} {l l' : List qY} {K : AS -> Prop} {t : B4 K} (hl : l = l') (h : s = s') : f_ lv P Hf ops l s K t = f_ lv P Hf ops l' s' K t := by rw [hl, h]
@[congr] theorem at5 {Hf : List Nat -> List aa} {T T' : List (Nat × AV)} {o : Tu} {av mF : AV} {l l' : List (List Nat × List Nat)} (h1 : T = T') (h2 : av = mF) (h3 : l = l') : BQ lv P Hf T o av l = BQ lv P Hf T' o mF l' := by rw [h1, h2, h3]
@[congr] theorem at3 {Hf : List Nat -> List aa} {T T' : List (Nat × AV)} {o : Tu} {av mF : AV} {l l' : List (List Nat × List Nat)} (h1 : T = T') (h2 : av = mF) (h3 : l = l') : BE lv P Hf T o av l = BE lv P Hf T' o mF l' := by rw [h1, h2, h3]
@[congr] theorem aub {f f' : AV} {H H' : List aa} {aE uq : List AV} {k : AV -> List aa -> Prop} {t : B5 k} (h1 : f = f') (h2 : H = H') (h3 : aE = uq) : EX lv P f H aE k t = EX lv P f' H' uq k t := by rw [h1, h2, h3]
@[congr] theorem auc {f f' : AV} {name : String} {H H' : List aa} {aE uq : List AV} {k : AV -> List aa -> Prop} {t : B5 k} (h1 : f = f') (h2 : H = H') (h3 : aE = uq) : IU lv P f name H aE k t = IU lv P f' name H' uq k t := by rw [h1, h2, h3]
@[congr] theorem aua {G G' H H' : List aa} {k : AV -> List aa -> Prop} {n n' m m' sz : Nat} {elem : TypeId} {l l' x x' : List AV} {e e' : End} (hG : G = G') (h0 : H = H') (h1 : n = n') (h2 : m = m') (h3 : l = l') (h4 : x = x') (h5 : e = e') : qT G H k n m sz elem l x e = qT G' H' k n' m' sz elem l' x' e' := by rw [hG, h0, h1, h2, h3, h4, h5]
end
attribute [seval] amw amv ag5 ag4 agA agz agw agx agv aeX ahT ahU aj5 aj6 aj4 aj9 aj3 aj8 Bool.true_or Bool.false_or Bool.or_true Bool.or_false cond_true cond_false
def an.stay (Φ:an->AS->Prop):an->AS->Prop
 |.goto _,_=>False
 |e,s=>Φ e s
theorem arI(Φ:an->AS->Prop)(s:AS):an.stay Φ .normal s=Φ .normal s:=by rw[an.stay];simp
theorem arK(Φ:an->AS->Prop)(s:AS):an.stay Φ .ret s=Φ .ret s:=by rw[an.stay];simp
theorem arH(Φ:an->AS->Prop)(i:Nat)(s:AS):an.stay Φ (.exit i) s=Φ (.exit i) s:=by rw[an.stay];simp
theorem arJ(Φ:an->AS->Prop)(a:AV)(s:AS):an.stay Φ (.panic a) s=Φ (.panic a) s:=by rw[an.stay];simp
theorem PL{lv:Bool}{P:SI}{r:Option Nat}{s:AS}{nt:Nat}{c:T7}{Φ:an->AS->Prop}(h:aP lv P r nt c s (an.stay Φ)):aP lv P r nt (.scope c) s Φ:=by
 refine agj (λ_ _ _=>False) ⟨0,h.mono λe s hs=> ?_⟩ λ_ _ _ _ _ hf=>hf.elim;cases e<;>first|exact hs|exact hs.elim
@[congr] theorem auM {s s' : AS} {Φ : an -> AS -> Prop} {e e' : an} (he : e = e') (h : s = s') : an.stay Φ e s = an.stay Φ e' s' := by rw [he, h]
attribute [seval] arI arK arH arJ
theorem amt{α:Type}(n:Nat)(x:α):(if(n:Int)<0 then none else some x)=some x:=by rw[if_neg (by omega)]
theorem agZ:(XM==VL)=false:=by decide
theorem ag0:(VL==VL)=true:=by decide
theorem ash{α β:Type}(f:α->β)(xs:List α):(xs.map f).take xs.length=xs.map f:=SS (by simp)
theorem aoG(o:Wb):(o=o\/o=.neq)=True:=by simp
theorem aoH:(VL=.eql\/VL=.neq)=True:=by simp
theorem amA{α:Type}(a b:α):(if false=true then a else b)=b:=by simp
theorem amB{α:Type}(a b:α):(if true=true then a else b)=a:=by simp
theorem agV(s:AS):s.jd none=some none:=by rw[AS.jd]
theorem agW(s:AS)(x:Tj):s.jd (some x)=(s.ev x).bind λa=>a.vZ.map some:=by
 rw[AS.jd];cases s.ev x<;>rfl
theorem afW(j:TZ)(n:Int):AV.vZ (.val (.int j n))=some n:=by rw[AV.vZ]
theorem afc(P:SI)(t:TypeId)(id off:Nat)(l h m:Option Int)(k:AV->Prop):sE P t (.op id off) l h m k=ao (xB P t) λp=>sK id off p.1 p.1 p.2 l h m k:=by rw[sE]
theorem afd(P:SI)(t:TypeId)(id off n c:Nat)(l h m:Option Int)(k:AV->Prop):sE P t (.bp id off n c) l h m k=ao (kA P t) λp=>sK id off n c p.2 l h m k:=by rw[sE]
theorem afe(P:SI)(t:TypeId)(n:Nat)(li:List AV)(e:End)(l h m:Option Int)(k:AV->Prop):sE P t (.sl n li e) l h m k=ao (kA P t) λp=>xF n li e p.2 l h m k:=by rw[sE]
theorem aoO:type_of% @sK.eq_1:=by intros;rw[sK.eq_1]
theorem ari:type_of% @xF.eq_1:=by intros;rw[xF.eq_1]
@[congr] theorem auH {id oI off Ei n n' cap cap' sz ez : Nat} {lo D8 hi cC mx Eb : Option Int} {k : AV -> Prop} (h1 : id = oI) (h2 : off = Ei) (h3 : n = n') (h4 : cap = cap') (h5 : sz = ez) (h6 : lo = D8) (h7 : hi = cC) (h8 : mx = Eb) : sK id off n cap sz lo hi mx k = sK oI Ei n' cap' ez D8 cC Eb k := by rw [h1, h2, h3, h4, h5, h6, h7, h8]
@[congr] theorem auK {n n' sz ez : Nat} {l l' : List AV} {e e' : End} {lo D8 hi cC mx Eb : Option Int} {k : AV -> Prop} (h3 : n = n') (h1 : l = l') (h2 : e = e') (h5 : sz = ez) (h6 : lo = D8) (h7 : hi = cC) (h8 : mx = Eb) : xF n l e sz lo hi mx k = xF n' l' e' ez D8 cC Eb k := by rw [h1, h2, h3, h5, h6, h7, h8]
theorem aob:((1:Nat):Int)=1:=rfl
theorem aoc:((2:Nat):Int)=2:=rfl
theorem aod:((3:Nat):Int)=3:=rfl
theorem aoe:((4:Nat):Int)=4:=rfl
theorem aof:((5:Nat):Int)=5:=rfl
theorem aog:((6:Nat):Int)=6:=rfl
theorem asH(p:Prop):(True\/p)=True:=by simp
theorem aoL(p:Prop):(p\/True)=True:=by simp
attribute [seval] aob aoc aod aoe aof aog asH aoL Int.le_refl List.length_map
theorem afN(H L:List aa):(H++L)[H.length+1+1]?=L[2]?:=vX H L 2
theorem afO(H L:List aa):(H++L)[H.length+1+1+1]?=L[3]?:=vX H L 3
theorem afR(H L:List aa)(x:aa):(H++L).set (H.length+1+1) x=H++L.set 2 x:=vY H L 2 x
theorem afS(H L:List aa)(x:aa):(H++L).set (H.length+1+1+1) x=H++L.set 3 x:=vY H L 3 x
attribute [seval] afN afO afR afS
attribute [seval] agV agW afW afc afd afe aoO ari Option.getD_none Option.getD_some Int.toNat_zero Nat.sub_zero Option.bind_some Option.map_some Nat.zero_le Option.isSome_none Option.isSome_some Bool.false_eq_true false_implies
attribute [seval] amt agZ ag0 ash aoG aoH amA amB
section
variable {P:SI}{α β:Type}
theorem iK(a:α):cG P (pure a) a:=λw es=>by simp only[pure,VI]
theorem lw{x:Sem α}{f:α->Sem β}{a:α}{b:β}(h:cG P x a)(k:cG P (f a) b):cG P (x>>=f) b:=λw es=>by
 show (x.bind f).runT P w es=_;rw[Sem.runT_bind',h w es];exact k w es
theorem ar5{k:SI->Sem α}{a:α}(h:cG P (k P) a):cG P (.program k) a:=λw es=>by simp only[VI];exact h w es
theorem Ov{k:SI->Sem α}{a:α}(h:cG P (k P) a):cG P (program>>=k) a:=lw (a:=P) (ar5 (iK P)) h
theorem zv{t:TypeId}{d:TypeDesc}{k:TypeDesc->Sem α}{a:α}(h:P.underlying t=some d)(hk:cG P (k d) a):cG P (underlying t>>=k) a:=by
 unfold underlying;refine lw (a:=d) (Ov ?_) hk;rw[h];exact iK d
def zP:TypeDesc->Bool
 |.struct _|.array _ _=>true
 |_=>false
theorem adR{t:TypeId}{d:TypeDesc}{k:Bool->Sem α}{a:α}(h:P.underlying t=some d)(hk:cG P (k (zP d)) a):cG P (isAgg t>>=k) a:=by
 unfold isAgg;refine lw (zv (a:=zP d) h ?_) hk;cases d<;>exact iK _
theorem Ox{t:TypeId}{i:Wp}{k:Nat->Sem α}{a:α}(h:P.info? t=some i)(hk:cG P (k i.size) a):cG P (sizeOf t>>=k) a:=by
 unfold sizeOf typeInfo;refine lw (lw (a:=i) (Ov ?_) (iK _)) hk;rw[h];exact iK i
theorem EC{t:TypeId}{d:TypeDesc}{xs:Array SP}{off:Nat}{v:SP}{k:SP->Sem α}{a:α}(h:P.underlying t=some d)(hd:zP d=false)(hv:xs[off]?=some v)(hk:cG P (k v) a):cG P (part t xs off>>=k) a:=by
 unfold part;refine lw (a:=v) (adR h ?_) hk;rw[hd,hv];exact iK v
theorem adS{t:TypeId}{d:TypeDesc}{i:Wp}{xs:Array SP}{off:Nat}{k:SP->Sem α}{a:α}(h:P.underlying t=some d)(hd:zP d=true)(hi:P.info? t=some i)(hk:cG P (k (.agg (xs.extract off (off+i.size)))) a):cG P (part t xs off>>=k) a:=by
 unfold part;refine lw (adR h ?_) hk;rw[hd];exact Ox hi (iK _)
theorem adQ{t:TypeId}{k0 k:TZ}{d:Nat}{x y:Int}(h:P.underlying t=some (.int k0)):cG P (VC (d+1) t (.int k x) (.int k y)) (x==y):=by
 rw[VC];refine zv h ?_;dsimp only;rw[if_pos rfl];exact iK _
theorem adK{ι:Type}{body:ι->Option Bool×Unit->Sem (ForInStep (Option Bool×Unit))}{p:ι->Bool}:∀(l:List ι),(∀i∈l,cG P (body i (none,())) (if p i then .yield (none,())else .done (some false,())))->cG P (forIn l (none,()) body) (if l.all p then(none,())else(some false,()))
 |[],_=>by simpa using iK (none,())
 |i::l,h=>by
  rw[W6];refine lw (h i (TC ..)) ?_;by_cases hp:p i=true
  ·simp only[hp,if_true,ZT,Vx];exact adK l λj hj=>h j (Td _ hj)
  ·have AR:p i=false:=(by simpa using hp);simp only[AR,TP,if_false,ZT,YJ];exact iK _
theorem afF{α:Type}[BEq α][LawfulBEq α]{xs ys:List α}{n:Nat}(hx:xs.length=n)(hy:ys.length=n):((T9 0 n).all λi=>xs[i]?==ys[i]?)=(xs==ys):=by
 rw[U3,Tv,beq_iff_eq];constructor
 ·intro h;apply Yr;intro i;by_cases hi:i<n
  ·have:=h i (by simp[X0];omega);simpa using this
  ·rw[Ux (by omega),Ux (by omega)]
 ·rintro rfl i _;simp
theorem ar2{t e:TypeId}{k0 k:TZ}{n d:Nat}{i:Wp}{xs ys:List Int}(ht:P.underlying t=some (.array n e))(he:P.underlying e=some (.int k0))(hi:P.info? e=some i)(hs:i.size=1)(hx:xs.length=n)(hy:ys.length=n):
  cG P (VC (d+2) t (.agg (xs.map (SF k)).toArray) (.agg (ys.map (SF k)).toArray)) (xs==ys):=by
 rw[VC];refine zv ht ?_;dsimp only;refine Ox hi ?_;rw[hs];simp only[WB,Xw];refine lw (a:=if(xs==ys)then(none,())else(some false,())) ?_ (by cases xs==ys<;>exact iK _);have hn:(n-0+1-1)/1=n:=by simp
 rw[hn,<- afF hx hy];refine adK _ λj hj=> ?_;have py:j<n:=by simp[X0]at hj;omega
 have gx:xs[j]?=some (xs[j]'(by omega)):=SW _;have gy:ys[j]?=some (ys[j]'(by omega)):=SW _;rw[Ye];refine EC he rfl (v:=.int k (xs[j]'(by omega))) (by simp[gx]) ?_;refine EC he rfl (v:=.int k (ys[j]'(by omega))) (by simp[gy]) ?_;refine lw (adQ he) ?_;rw[gx,gy];by_cases h:xs[j]'(by omega)=ys[j]'(by omega)
 ·rw[h];simp;exact iK _
 ·have h1:(xs[j]'(by omega)==ys[j]'(by omega))=false:=by simpa using h
  have h2:(some (xs[j]'(by omega))==some (ys[j]'(by omega)))=false:=by simpa using h
  rw[h1,h2];exact iK _
theorem cG.uniq{x:Sem α}{a b:α}(h:cG P x a)(k:cG P x b):a=b:=by
 have e:=(h default #[]).symm.trans (k default #[]);have e1:=congrArg Prod.fst e;exact(ap' e1).1
theorem adN{t e:TypeId}{k0:TZ}{n:Nat}{i:Wp}{xs ys:List Int}(ht:P.underlying t=some (.array n e))(he:P.underlying e=some (.int k0))(hi:P.info? e=some i)(hs:i.size=1)(hx:xs.length=n)(hy:ys.length=n):
  cG P (WT t (.agg (xs.map (SF .i64)).toArray) (.agg (ys.map (SF .i64)).toArray)) (xs==ys):=ar2 (d:=9998) ht he hi hs hx hy
theorem vB(xs:List Int):AV.raw (.agg (xs.map iv))=some (.agg (xs.map (SF .i64)).toArray):=by
 have:∀l:List Int,(l.map iv).mapM AV.Br=some (l.map (SF .i64)):=by
  intro l;induction l with
  |nil=>rfl
  |cons x l ih=>simp only[UP,Ub,ih];rfl
 simp only[AV.raw,this];rfl
theorem apo{xs:List Int}{i:Nat}{y:Int}(h:i<xs.length):iJ (xs.map iv) i [iv y]=(xs.set i y).map iv:=by
 unfold iJ;rw[List.map_set,X8,if_pos (by simpa using h)];simp
theorem xi{xs:List Int}{i:Nat}{y:Int}(h:i<xs.length):(xs.map iv).take i++[iv y]++(xs.map iv).drop (i+1)=(xs.set i y).map iv:=apo h
theorem kT{xs:List Int}{i:Nat}{x:Int}(h:xs[i]?=some x):(xs.map iv).drop i=iv x::(xs.drop (i+1)).map iv:=by
 have h1:=eN h;rw[<- apT,TL h1,UP];rw[SW h1]at h;cases h;rfl
end
theorem abt(xs:List Int):(∀a∈xs.map iv,a.leaf=true)=True:=by
 simp only[Te,eq_iff_iff,iff_true]
 rintro a ⟨x,_,rfl⟩;rfl
attribute [seval] List.append_nil abt
def zE (lv:Bool)(P:SI)(g:TQ)(args:Array SP)(md:Vf)(V:View)(R:Vf->View->Prop):Prop:=
 ∀(main:Bool)(J:View->SG->Prop),Closed lv P main J->∀(fr:Uc)(cs:List Uc),fr.mode=md->(∀nQ V',R nQ V'->J V' (G {fr with mode:=nQ} cs))->J V (G (Frame.enter P g args .deferred) (fr::cs))
def ri:Vf->Vf
 |.panicking ({recovered:=true, .. }::ND)=>match ND.dropWhile (!·.goexit)with
  |[]=> .returning
  |rest=> .panicking rest
 |m=>m
theorem abu{lv:Bool}{P:SI}{main:Bool}{J:View->SG->Prop}(C:Closed lv P main J){fr c:Uc}{cs:List Uc}{f:TQ}{v:SP}{V:View}(h:Leaves P fr f .deferred (.ret v) V)(hJ:J V (G {c with mode:=ri c.mode} cs)):J V (G fr (c::cs)):=by
 obtain⟨rfl,hd,hk,fn,hf,hm,hr⟩:=h;refine C.step _ _ rfl λw hw=> ?_;obtain⟨es,w',V',h1,h2,h3⟩:=hr.runs hw;rcases h3 with⟨x,h3,rfl,rfl⟩|⟨_,_,h⟩
 ·refine⟨G {c with mode:=ri c.mode} cs,w',seen P fr.fn es,V',?_,h1.seen P fr.fn,hJ⟩;simp only[G,stepG,unwind,doReturn,hm,hd,hk,hf,TB,h3,h2,T6];cases GC:c.mode with
  |run=>simp[ri,<- GC]
  |returning=>simp[ri,<- GC]
  |panicking ch=>
   cases ch with
   |nil=>simp[ri,<- GC]
   |cons p ND=>
    obtain⟨v,rec,ge⟩:=p;cases rec with
    |false=>simp[ri,<- GC]
    |true=>
     simp only[ri];cases hdw:ND.dropWhile (!·.goexit)with
     |nil=>simp
     |cons x y=>simp
 ·exact h.elim
theorem QY{ρ:Tj->SP}{o:Tu}{cl:Xt}(ay:o.op=.call cl)(aW:cl.callee=.builtin .recover)(P:SI)(w:Tp)(es:Array Ut):(execOp ρ o).runT P w es=(.ok .recover w,es):=by
 unfold execOp;rw[ay];dsimp only;unfold resolve;rw[aW];rfl
theorem aqH{P:SI}{main:Bool}{b c:Uc}{a:Act}{k:List WZ}{cs:List Uc}{w:Tp}{ops:Array Tu}{i:Nat}{rest:List Nat}{o:Tu}{cl:Xt}{v:SP}(ho:ops[i]?=some o)(hg:o.guard=none)(ay:o.op=.call cl)(aW:cl.callee=.builtin .recover)(hb:b.kind=.deferred)(hr:b.roundOf=none)
  (hm:c.mode=.panicking [{v,recovered:=false}]):stepG P main (G (on b a (.inRegion ops (i::rest)::k)) (c::cs)) w=.go (G (on b (a.put o.dst v) (.inRegion ops rest::k)) ({c with mode:=.panicking [{v,recovered:=true}]}::cs)) w #[]:=by
 have dY:(on b a (.inRegion ops (i::rest)::k)).finish v=on b (a.put o.dst v) (.inRegion ops rest::k):=by
  rw[Bh,ho];rfl
 rw[s_op ho (by unfold Ti;rw[hg]) (.inl hr),<- dY];have jV:((on b a (.inRegion ops (i::rest)::k)).kind==Va)=false:=by simp[on,hb]
 simp only[stepG.apply,if_true,QY ay aW,jV,T6,TP,if_false];have h1:(on b a (.inRegion ops (i::rest)::k)).roundOf=none:=hr;have h2:(on b a (.inRegion ops (i::rest)::k)).kind=.deferred:=hb;rw[h1];simp only[tryRecover,h2,hm];simp[seen,G]
theorem aqI{P:SI}{main:Bool}{b c:Uc}{a:Act}{k:List WZ}{cs:List Uc}{w:Tp}{ops:Array Tu}{i:Nat}{rest:List Nat}{o:Tu}{cl:Xt}(ho:ops[i]?=some o)(hg:o.guard=none)(ay:o.op=.call cl)(aW:cl.callee=.builtin .recover)(hb:b.kind=.deferred)(hr:b.roundOf=none)
  (hm:c.mode=.returning):stepG P main (G (on b a (.inRegion ops (i::rest)::k)) (c::cs)) w=.go (G (on b (a.put o.dst .nilIface) (.inRegion ops rest::k)) (c::cs)) w #[]:=by
 have dY:(on b a (.inRegion ops (i::rest)::k)).finish .nilIface=on b (a.put o.dst .nilIface) (.inRegion ops rest::k):=by
  rw[Bh,ho];rfl
 rw[s_op ho (by unfold Ti;rw[hg]) (.inl hr),<- dY];have jV:((on b a (.inRegion ops (i::rest)::k)).kind==Va)=false:=by simp[on,hb]
 simp only[stepG.apply,if_true,QY ay aW,jV,T6,TP,if_false];have h1:(on b a (.inRegion ops (i::rest)::k)).roundOf=none:=hr;have h2:(on b a (.inRegion ops (i::rest)::k)).kind=.deferred:=hb;rw[h1];simp only[tryRecover,h2,hm];simp[seen,G]
def EY (P:SI)(fn:YH)(K:View->Prop):Ex->Act->View->Prop
 |.normal,a,V|.ret,a,V=>a.defers=[]/\∃v,aQ P V (results fn a.tmps) (λx V'=>x=v/\V'=V) (λ_ _=>False)/\K V
 |_,_,_=>False
theorem aht{lv:Bool}{P:SI}{g:TQ}{fn:YH}{id:Nat}{ops:Array Tu}{c2:T7}{o:Tu}{cl:Xt}{args:Array SP}{md:Vf}{v0:SP}{V:View}{R:Vf->View->Prop}
  (hf:P.funcs[g]?=some fn) (hb:fn.body=some (.seq (.region id ops false) c2)) (ho:ops[0]?=some o) (hg:o.guard=none) (ay:o.op=.call cl) (aW:cl.callee=.builtin .recover)
  (qw:md=.panicking [{v:=v0,recovered:=false}]\/(md=.returning/\v0=.nilIface))
  (h:dp lv P none ops (Ex.then (WP lv P none c2 (EY P fn (R .returning))) (EY P fn (R .returning))) (T9 1 (ops.size-1)) (({tmps:=args++TN (fn.ntmps-args.size) undef,defers:=[]}:Act).put o.dst v0) V):zE lv P g args md V R:=by
 intro main J C fr cs ma hR;let b:Uc:={(default:Uc)with fn:=g,kind:=.deferred,roundOf:=none};have uM:Frame.enter P g args .deferred=on b {tmps:=args++TN (fn.ntmps-args.size) undef,defers:=[]} [.code (.seq (.region id ops false) c2)]:=by
  simp[Frame.enter,on,hf,hb,b]
 rw[uM];have aV:0<ops.size:=(SR.1 ho).1;have Mh:SU ops.size=0::T9 1 (ops.size-1):=by
  rw[Vs];obtain⟨n,hn⟩:∃n,ops.size=n+1:=⟨ops.size-1,by omega⟩;rw[hn,VU];rfl
 refine C.idle rfl (λ_=>acY) (C.idle rfl (λ_=>acX) ?_);rw[Mh];have fin:∀(c:Uc),ri c.mode=.returning->{c with mode:=ri c.mode}={fr with mode:=.returning}->∀e a' V',EY P fn (R .returning) e a' V'->vT J b [] (c::cs) e a' V':=by
  intro c hc wC e a' V' q;cases e with
  |normal=>
   obtain⟨hd,v,hs,hr⟩:=q;refine C.idle rfl (λw=>Er rfl) (abu (f:=g) (v:=v) C ⟨rfl,hd,rfl,fn,hf,rfl,hs⟩ ?_);rw[wC];exact hR _ _ hr
  |ret=>
   obtain⟨hd,v,hs,hr⟩:=q;intro k;refine C.idle rfl (λw=>Es rfl) (abu (f:=g) (v:=v) C ⟨rfl,hd,rfl,fn,hf,rfl,hs⟩ ?_);rw[wC];exact hR _ _ hr
  |_=>exact q.elim
 have run:∀(c:Uc),ri c.mode=.returning->{c with mode:=ri c.mode}={fr with mode:=.returning}->J V (G (on b (({tmps:=args++TN (fn.ntmps-args.size) undef,defers:=[]}:Act).put o.dst v0) (.inRegion ops (T9 1 (ops.size-1))::[.code c2])) (c::cs)):=by
  intro c hc wC;refine wp_ops _ _ V h main J C b [.code c2] (c::cs) (by show YR≠Va;decide) rfl λe a' V' q=> ?_;cases e with
  |normal=>exact q main J C b [] (c::cs) (by show YR≠Va;decide) rfl λe cj aS q'=>fin c hc wC e cj aS q'
  |ret=>exact fin c hc wC .ret a' V' q
  |panic ch=>exact q.elim
  |exit i=>exact q.elim
  |goto i=>exact q.elim
 rcases qw with qw|⟨qw,hv⟩
 ·refine C.idle rfl (λw=>aqH ho hg ay aW rfl rfl (by rw[ma,qw])) ?_;exact run {fr with mode:=.panicking [{v:=v0,recovered:=true}]} rfl rfl
 ·refine C.idle rfl (λw=>aqI ho hg ay aW rfl rfl (by rw[ma,qw])) ?_;subst hv;have ji:fr.mode=.returning:=by rw[ma,qw]
  exact run fr (by rw[ji];rfl) (by rw[ji];rfl)
section
variable {lv:Bool}{P:SI}
theorem Od{g:TQ}{args:Array SP}{V:View}{K:Next->View->Prop}{Kp:SP->View->Prop}(hg:qR P g=true)(h:K (.enter g args) V):aQ P V (callFunc g args) K Kp:=by
 unfold callFunc;refine az (qK (cI ?_));unfold qR at hg;split at hg
 ·rename_i fn yq;simp only[Tl,T1]at hg;rw[yq];dsimp only;have tr:fn.body.isNone=false:=by
   have h1:=hg.1;cases hb:fn.body with
   |none=>rw[hb]at h1;cases h1
   |some _=>rfl
  rw[if_neg (by rw[hg.2];simp),if_neg (by rw[tr];simp)];exact au h
 ·cases hg
theorem Ct{E:Env}{V:View}{H:List aa}{args:List AV}{vs:Array SP}{nt:Nat}(hc:Conc E V H)(hd:cJ E args vs)(cM:args.length<=nt):At E V ⟨bt 0 args,H⟩ {tmps:=vs++TN (nt-vs.size) undef,defers:=[]} nt:=by
 have aV:(vs++TN (nt-vs.size) undef).size=nt:=by simp[hd.1];omega
 refine⟨hc,λq a e=> ?_,aV⟩;obtain⟨_,e⟩:=Nk args 0 q a e;simp only[Z1]at e;have hq:q<args.length:=(SL.1 e).1;have tL:q<vs.size:=by rw[hd.1];exact hq
 refine⟨by rw[aV];omega,?_⟩;have:=hd.2 q a e;rw[SH,Yd tL];rwa [SH]at this
def zD (E:Env)(c:AV×List AV)(d:U2):Prop:=∃f first cV fa ca vs,c.1=.fn (.func f) first cV/\d=⟨.fn (.func f) ca,fa++vs⟩/\cJ E first fa/\cJ E cV ca/\cJ E c.2 vs
theorem zD.mono{E E':Env}(h:E.Le E'){c:AV×List AV}{d:U2}(k:zD E c d):zD E' c d:=by
 obtain⟨f,first,cV,fa,ca,vs,h1,h2,h3,h4,h5⟩:=k;exact⟨f,first,cV,fa,ca,vs,h1,h2,h3.mono h,h4.mono h,h5.mono h⟩
def Pb (E:Env):Option AV->Vf->Prop
 |none,md=>md=.returning
 |some pv,md=>∃v,md=.panicking [{v,recovered:=false}]/\ap E pv v
def qS (lv:Bool)(P:SI)(c:AV×List AV)(H:List aa)(m:Option AV)(kr kp:List aa->Prop):Prop:=
 ∀(E:Env)(V:View)(d:U2)(md:Vf),Conc E V H->zD E c d->Pb E m md->aQ P V (invoke d.target d.args) (λnx V'=>∃g args,nx=.enter g args/\zE lv P g args md V' λnQ aS=>∃E' H',E.Le E'/\aS.role=V.role/\aS.deaf=V.deaf/\Conc E' aS H'/\((nQ=.returning/\kr H')\/(nQ=md/\m.isSome=true/\kp H'))) (λ_ _=>False)
def BZ (n0:Nat)(kr:List aa->Prop):an->AS->Prop
 |.normal,s|.ret,s=>kr s.H\/∃H' G,s.H=H'++G/\n0<=H'.length/\bH H'/\kr H'
 |_,_=>False
theorem BZ.out{n0:Nat}{E0 E:Env}{V':View}{H:List aa}{kr:List aa->Prop}(h:kr H\/∃H' G,H=H'++G/\n0<=H'.length/\bH H'/\kr H')(hc:Conc E V' H)(hle:E0.Le E)(hn:E0.n=n0):∃E' H',E0.Le E'/\Conc E' V' H'/\kr H':=by
 rcases h with h|⟨H',G,rfl,h1,h2,h3⟩
 ·exact⟨E,H,hle,hc,h⟩
 ·exact⟨{E with n:=H'.length},H',EH h1 (by rw[hc.n];simp) hle hn,hc.trim h2,h3⟩
theorem results_none{fn:YH}{tmps:Array SP}{V:View}(hr:fn.results=#[]):aQ P V (results fn tmps) (λx V'=>x=.tuple #[]/\V'=V) (λ_ _=>False):=by
 unfold results;rw[show fn.results=([]:List UQ).toArray from hr,X2];refine az ?_;refine az ?_;rw[UE];refine au (au (au ⟨?_,rfl⟩));simp
theorem ahs{g:TQ}{fn:YH}{id nt:Nat}{ops:Array Tu}{c2:T7}{o:Tu}{cl:Xt}{first cV aE:List AV}{H:List aa}{m:Option AV}{kr kp:List aa->Prop}
  (hg:qR P g=true) (hf:P.funcs[g]?=some fn) (hb:fn.body=some (.seq (.region id ops false) c2)) (hr:fn.results=#[]) (hn:fn.ntmps=nt) (ho:ops[0]?=some o) (tC:o.guard=none) (ay:o.op=.call cl) (aW:cl.callee=.builtin .recover) (dt:jT nt ops=true) (cM:(first++aE++cV).length<=nt)
  (h:iC lv P ops (ops.toList.drop 1) ((⟨bt 0 (first++aE++cV),H⟩:AS).put o.dst (m.getD (.val .nilIface))) (λs'=>aP lv P none nt c2 s' (BZ H.length kr)) (λ_ _=>False)):qS lv P (.fn (.func g) first cV,aE) H m kr kp:=by
 intro E V d md hc hd qw;obtain⟨f,aud,at7,fa,ca,vs,h1,rfl,h3,h4,h5⟩:=hd;cases h1;unfold invoke;dsimp only;refine Od hg ⟨g,_,rfl,?_⟩;obtain⟨v0,hv,alr⟩:∃v0,ap E (m.getD (.val .nilIface)) v0/\(md=.panicking [{v:=v0,recovered:=false}]\/(md=.returning/\v0=.nilIface)):=by
  cases m with
  |none=>exact⟨.nilIface,.val _,.inr ⟨qw,rfl⟩⟩
  |some pv=>obtain⟨v,e,hv⟩:=qw;exact⟨v,hv,.inl e⟩
 refine aht hf hb ho tC ay aW alr ?_;have ah:=Ct (nt:=nt) hc (CE (CE h3 h5) h4) cM;rw[hn];have aV:0<ops.size:=(SR.1 ho).1;have fF:o∈ops:=W8 ho;have aT:At E V ((⟨bt 0 (first++aE++cV),H⟩:AS).put o.dst (m.getD (.val .nilIface))) (({tmps:=fa++vs++ca++TN (nt-(fa++vs++ca).size) undef,defers:=[]}:Act).put o.dst v0) nt:=
  ⟨by rw[fb];exact ah.bu,ah.tok.h_ (λd e=>by rw[ah.size];exact(jT.out dt fF).1 d e) hv,(dX _ _ _).trans ah.size⟩
 refine Bi (r:=none) (Φ:=λe s'=>match e with
  |.normal=>aP lv P none nt c2 s' (BZ H.length kr)
  |_=>False) (λo ho d e=>(jT.out dt ho).1 d e) (λ_ _=> .inl rfl) (ops.size-1) 1 _ (by omega) h E V _ _ aT λae e E' V' a' s' hk aky he hΦ=> ?_
 cases ae<;>cases e<;>first
  |exact he.elim
  |exact hΦ.elim
  |skip
 refine hΦ E' V' a' _ aky λae e bS aS cj dn aI dj kg tS=> ?_;have fin:(kr dn.H\/∃H' G,dn.H=H'++G/\H.length<=H'.length/\bH H'/\kr H')->EY P fn (λaS=>∃E' H',E.Le E'/\aS.role=V.role/\aS.deaf=V.deaf/\Conc E' aS H'/\((Yu=.returning/\kr H')\/(Yu=md/\m.isSome=true/\kp H'))) .ret cj aS:=λtS=>by
  obtain⟨E3,H',q1,q2,q3⟩:=BZ.out (E0:=E) tS dj.bu (hk.le.trans aI.le) hc.n;have bA:cj.defers=[]:=by rw[aI.defers,hk.defers];exact put_defers _ _ _
  exact⟨bA,_,results_none hr,E3,H',q1,aI.role.trans hk.role,aI.deaf.trans hk.deaf,q2,.inl ⟨rfl,q3⟩⟩
 cases ae<;>cases e<;>first
  |exact kg.elim
  |exact tS.elim
  |exact fin tS
theorem Qo{g:TQ}{fn:YH}{id nt:Nat}{ops:Array Tu}{c2:T7}{o:Tu}{l:List Tu}{d0:Option Nat}{cl:Xt}{first cV aE:List AV}{H:List aa}{m:Option AV}{kr kp:List aa->Prop}
  (hg:qR P g=true) (hf:P.funcs[g]?=some fn) (hb:fn.body=some (.seq (.region id ops false) c2)) (hr:fn.results=#[]) (hn:fn.ntmps=nt) (hl:ops.toList=o::l) (tC:o.guard=none) (aX:o.dst=d0) (ay:o.op=.call cl) (aW:cl.callee=.builtin .recover) (dt:jT nt ops=true) (cM:(first++aE++cV).length<=nt)
  (h:iC lv P ops l ((⟨bt 0 (first++aE++cV),H⟩:AS).put d0 (m.getD (.val .nilIface))) (λs'=>aP lv P none nt c2 s' (BZ H.length kr)) (λ_ _=>False)):qS lv P (.fn (.func g) first cV,aE) H m kr kp:=by
 subst aX;refine ahs hg hf hb hr hn (o:=o) (cl:=cl) ?_ tC ay aW dt cM (by rw[hl];simpa using h);have:ops.toList[0]?=some o:=by rw[hl];rfl
 simpa using this
end
section
variable {lv:Bool}{P:SI}{r:Option Nat}{s:AS}
theorem HK{nt:Nat}{all:Array Tu}{Φ:an->AS->Prop}(dt:∀o∈all,∀d,o.dst=some d->d<nt)(ny:r=none):∀(n k:Nat)(s:AS),k+n<=all.size->iC lv P all ((all.toList.drop k).take n) s (Φ .normal) (λpv s=>Φ (.panic pv) s)->
  ∀(E:Env)(V:View)(a:Act)(Q:Ex->Act->View->Prop),At E V s a nt->(∀ae e E' V' a' s',Kept E E' V V' a a'->At E' V' s' a' nt->pV E' ae e->Φ ae s'->Q e a' V')->dp lv P r all Q (T9 k n) a V
 |0,k,s,hk,h,E,V,a,Q,ah,hQ=>by
  rw[al']at h;exact hQ .normal .normal E V a s (Kept.refl E V a) ah trivial h
 |n+1,k,s,hk,h,E,V,a,Q,ah,hQ=>by
  have hlt:k<all.size:=by omega
  have hd:all.toList.drop k=all[k]::all.toList.drop (k+1):=by
   rw[TL (by simpa using hlt)];simp
  rw[hd,VT]at h;have fF:all[k]∈all:=XX hlt;have ho:all[k]?=some all[k]:=SJ hlt;simp only[VU,dp,ho];have go:∀s:AS,At E V s a nt->my lv P s all[k] (λs'=>iC lv P all ((all.toList.drop (k+1)).take n) s' (Φ .normal) (λpv s=>Φ (.panic pv) s)) (λpv s=>Φ (.panic pv) s)->xD lv P r all[k] a V (dp lv P r all Q (T9 (k+1) n)) Q:=λs ah h=>by
   refine h.sound (lv:=lv) (r:=r) E V a _ Q ah.bu ah.tok (λd e=>by rw[ah.size];exact dt _ fF d e) (.inl ny) (λE' V' a' s' aI bi mf hn=> ?_) (λE' V' s' pv v aI bi mf bk hb=> ?_)
   ·exact HK dt ny n (k+1) s' (by omega) hn E' V' a' Q ⟨bi,mf,aI.size.trans ah.size⟩ (λae e bS aS cj dn fV dj he hΦ=>hQ ae e bS aS cj dn (aI.trans fV) dj he hΦ)
   ·exact hQ (.panic pv) (.panic _) E' V' a s' aI ⟨bi,mf,ah.size⟩ ⟨v,rfl,bk⟩ hb
  simp only[iC]at h;split at h
  ·rename_i hg;have hw:Ti all[k] (yielded all a.tmps)=true:=(by unfold Ti;rw[hg]);rw[if_pos hw];exact .inl (go s ah h)
  ·rename_i j b8 hg;obtain⟨d,gr,h⟩:=h.out;obtain⟨av,h1,h⟩:=h.out;obtain⟨b,rfl,h2,h3⟩:=Cr h;have hv:=(ah.tok d _ h1).2;have hy:yielded all a.tmps j=some b:=by
    obtain⟨oj,kG,jh⟩:=Tg.1 gr;generalize hx:a.tmps.getD d undef=x at hv;cases hv;have mc:d<a.tmps.size:=(ah.tok d _ h1).1;rw[SH,SJ mc]at hx;simp only[S0]at hx;simp[yielded,kG,jh,SJ mc,hx]
   have se:∀b',b=b'->At E V ⟨(d,.val (.bool b'))::s.T,s.H⟩ a nt:=λb' dI=>by
    subst dI;refine⟨ah.bu,λt x e=> ?_,ah.size⟩;simp only[look]at e;split at e
    ·rename_i e';subst e';cases e;exact ah.tok d _ h1
    ·exact ah.tok t x e
   by_cases hb:b=b8
   ·have hw:Ti all[k] (yielded all a.tmps)=true:=(by unfold Ti;rw[hg];simp[hy,hb]);rw[if_pos hw];exact .inl (go _ (se b8 hb) (h2 hb))
   ·have hw:¬Ti all[k] (yielded all a.tmps)=true:=(by unfold Ti;rw[hg];simp[hy,hb]);rw[if_neg hw];have dI:b= !b8:=(by cases b<;>cases b8<;>simp_all);have wn:=h3 dI;have ah:=se _ dI;exact HK dt ny n (k+1) ((⟨(d,.val (.bool !b8))::s.T,s.H⟩:AS).put all[k].dst (.val undef)) (by omega) wn E V (a.put all[k].dst undef) Q
     ⟨by rw[fb];exact ah.bu,ah.tok.h_ (λd e=>by rw[ah.size];exact dt _ fF d e) (.val undef),by rw[dX];exact ah.size⟩
     (λae e bS aS cj dn fV dj he hΦ=>hQ ae e bS aS cj dn ⟨fV.le,fV.size.trans (dX _ _ _),fV.defers.trans (put_defers _ _ _),fV.role,fV.deaf⟩ dj he hΦ)
theorem mD.mono{o:Tu}{a:Act}{N N':Act->View->Prop}{Q Q':Ex->Act->View->Prop}(hN:∀a V,N a V->N' a V)(hQ:∀ch a V,Q (.panic ch) a V->Q' (.panic ch) a V){nx:Next}{V:View}(h:mD lv P r o a N Q nx V):mD lv P r o a N' Q' nx V:=by
 cases nx with
 |value v=>exact hN _ _ h
 |skip=>exact hN _ _ h
 | «defer» d => exact ⟨h.1, hN _ _ h.2⟩
 |enter f args=>
  refine Body.mono (R:=fun
   |.ret v,V'=>N (a.put o.dst v) V'
   |.panic ch,V'=>Q (.panic ch) a V') (R':=fun
   |.ret v,V'=>N' (a.put o.dst v) V'
   |.panic ch,V'=>Q' (.panic ch) a V') h λot V' h=> ?_
  cases ot
  ·exact hN _ _ h
  ·exact hQ _ _ _ h
 |round l f tmps aE b=>
  refine mY.mono (R:=fun
   |.ret v,V'=>N (a.put o.dst v) V'
   |.panic ch,V'=>Q (.panic ch) a V') (R':=fun
   |.ret v,V'=>N' (a.put o.dst v) V'
   |.panic ch,V'=>Q' (.panic ch) a V') h λot V' h=> ?_
  cases ot
  ·exact hN _ _ h
  ·exact hQ _ _ _ h
 |_=>exact h.elim
theorem BP{ops:Array Tu}{Q:Ex->Act->View->Prop}{l2:List Nat}:∀(l1:List Nat)(a:Act)(V:View),dp lv P r ops (Ex.then (dp lv P r ops Q l2) Q) l1 a V->dp lv P r ops Q (l1++l2) a V
 |[],a,V,h=>h
 |i::l1,a,V,h=>by
  simp only[Vm,dp]at h⊢;cases ho:ops[i]?with
  |none=>rw[ho]at h;exact BP l1 a V h
  |some o=>
   rw[ho]at h;dsimp only at h⊢;split at h
   ·rename_i hw;rw[if_pos hw];rcases h with h|h
    rotate_left
    ·exact .inr (h.mono λa V h=>BP l1 a V h)
    obtain⟨h1,h2⟩:=h;exact .inl ⟨h1,h2.mono (λnx V' h=>mD.mono (λa V h=>BP l1 a V h) (λ_ _ _ h=>h) h) λ_ _ h=>h⟩
   ·rename_i hw;rw[if_neg hw];exact BP l1 _ V h
def xy (E:Env):List (AV×List AV)->List U2->Prop
 |[],[]=>True
 |c::ds,d::l=>zD E c d/\xy E ds l
 |_,_=>False
theorem xy.mono{E E':Env}(h:E.Le E'):∀{ds:List (AV×List AV)}{l:List U2},xy E ds l->xy E' ds l
 |[],[],_=>trivial
 |_::_,_::_,k=>⟨k.1.mono h,xy.mono h k.2⟩
 |[],_::_,k=>k.elim
 |_::_,[],k=>k.elim
structure qW (E E':Env)(V V':View)(a a':Act):Prop where
 le:E.Le E'
 size:a'.tmps.size=a.tmps.size
 role:V'.role=V.role
 deaf:V'.deaf=V.deaf
theorem qW.trans{E E' bS:Env}{V V' aS:View}{a a' cj:Act}(h:qW E E' V V' a a')(k:qW E' bS V' aS a' cj):qW E bS V aS a cj:=⟨h.le.trans k.le,k.size.trans h.size,k.role.trans h.role,k.deaf.trans h.deaf⟩
theorem Kept.d{E E':Env}{V V':View}{a a':Act}(h:Kept E E' V V' a a'):qW E E' V V' a a':=⟨h.le,h.size,h.role,h.deaf⟩
def BU (lv:Bool)(P:SI)(nt:Nat)(c:T7)(s:AS)(ds:List (AV×List AV))(Φ:an->AS->List (AV×List AV)->Prop):Prop:=
 ∀(E:Env)(V:View)(a:Act)(Q:Ex->Act->View->Prop),At E V s a nt->xy E ds a.defers->(∀ae e E' V' a' s' ni,qW E E' V V' a a'->At E' V' s' a' nt->xy E' ni a'.defers->pV E' ae e->Φ ae s' ni->Q e a' V')->WP lv P none c Q a V
def an.xo (next:AS->List (AV×List AV)->Prop)(Φ:an->AS->List (AV×List AV)->Prop):an->AS->List (AV×List AV)->Prop
 |.normal,s,ds=>next s ds
 |e,s,ds=>Φ e s ds
theorem ago{nt id n:Nat}{ops:Array Tu}{o:Tu}{c:Xt}{x:Tj}{ds:List (AV×List AV)}{Φ:an->AS->List (AV×List AV)->Prop}(hn:ops.size=n+1)(ho:ops[n]?=some o)(hg:o.guard=none)(ay:o.op=.defer c)(aW:c.callee=.value x)
  (dt:(ops.all λo=>o.dst.all (·<nt))=true)
  (h:iC lv P ops (ops.toList.take n) s (λs'=>ao (s'.ev x) λf=>ao (eZ s' c.args.toList) λaE=>(∃g first cV,f=.fn (.func g) first cV)/\Φ .normal (s'.put o.dst (.val undef)) ((f,aE)::ds)) (λpv s'=>Φ (.panic pv) s' ds)):BU lv P nt (.region id ops false) s ds Φ:=by
 intro E V a Q ah hd hQ;refine wp_region ?_;have hr:SU ops.size=T9 0 n++[n]:=by
  have:=Y' (s:=0) (m:=n) (n:=1);rw[Vs,hn,<- this];simp
 rw[hr];have aad:∀o∈ops,∀d,o.dst=some d->d<nt:=λo ho d e=>by
  have:=(UM.1 dt) o ho;rw[e]at this;simpa using this
 refine BP _ _ _ (HK (r:=none) (Φ:=λe s'=>match e with
  |.normal=>ao (s'.ev x) λf=>ao (eZ s' c.args.toList) λaE=>(∃g first cV,f=.fn (.func g) first cV)/\Φ .normal (s'.put o.dst (.val undef)) ((f,aE)::ds)
  |e=>Φ e s' ds) aad rfl n 0 s (by omega) (by simpa using h) E V a _ ah λae e E' V' a' s' hk aT he hΦ=> ?_)
 cases ae<;>cases e<;>first
  |exact he.elim
  |exact hQ _ _ E' V' a' s' ds hk.d aT (by rw[hk.defers];exact hd.mono hk.le) he hΦ
  |skip
 obtain⟨f,h1,hA⟩:=ao.out hΦ;obtain⟨aE,h2,⟨g,first,cV,rfl⟩,hB⟩:=hA.out;simp only[Ex.then,dp,ho];rw[if_pos (by unfold Ti;rw[hg])];refine .inl ⟨.inl rfl,?_⟩;unfold execOp;rw[ay];dsimp only;unfold resolve;rw[aW];dsimp only;have bA:=ap.ev aT.tok h1;generalize cr:a'.eval x=cv at bA;cases bA with
 |fn dL fX q1 q2=>
  rename_i fa ca;unfold U9;refine az (au (au ?_));refine⟨rfl,?_⟩;have fF:o∈ops:=W8 ho;have e:c.args.map a'.eval=(c.args.toList.map a'.eval).toArray:=by apply VG;simp
  refine hQ .normal .normal E' V' _ (s'.put o.dst (.val undef)) ((.fn (.func g) first cV,aE)::ds) ⟨hk.le,(dX _ _ _).trans hk.size,hk.role,hk.deaf⟩ ⟨by rw[fb];exact aT.bu,aT.tok.h_ (a:={a' with defers:=⟨.fn (.func g) ca,fa++c.args.map a'.eval⟩::a'.defers}) (λd e=>by rw[aT.size];exact aad o fF d e) (.val _),(dX _ _ _).trans aT.size⟩ ?_ trivial hB;rw[put_defers];refine⟨⟨g,first,cV,fa,ca,_,rfl,rfl,⟨dL,q1⟩,⟨fX,q2⟩,?_⟩,by rw[hk.defers];exact hd.mono hk.le⟩;rw[e];exact Ag aT.tok h2
theorem PO{nt id n:Nat}{ops:Array Tu}{o:Tu}{c:Xt}{x:Tj}{ds:List (AV×List AV)}{Φ:an->AS->List (AV×List AV)->Prop}(hn:ops.size=n+1)(ho:ops[n]?=some o)(hg:o.guard=none)(aX:o.dst=none)(ay:o.op=.defer c)(aW:c.callee=.value x)
  (dt:(ops.all λo=>o.dst.all (·<nt))=true)
  (h:iC lv P ops (ops.toList.take n) s (λs'=>ao (s'.ev x) λf=>ao (eZ s' c.args.toList) λaE=>(∃g first cV,f=.fn (.func g) first cV)/\Φ .normal s' ((f,aE)::ds)) (λpv s'=>Φ (.panic pv) s' ds)):BU lv P nt (.region id ops false) s ds Φ:=by
 refine ago hn ho hg ay aW dt ?_;rw[aX];exact h
end
section
variable {lv:Bool}{P:SI}
theorem acQ{rs:List UQ}{fn:YH}{n nt:Nat}{k kp:AV->List aa->Prop}{E E':Env}{V V':View}{s':AS}{a':Act}(hr:fn.results=rs.toArray)(ah:At E' V' s' a' nt)(hle:E.Le E')(hn:E.n=n)(ce:V'.role=V.role)(eT:V'.deaf=V.deaf)(hΦ:ao (ie P s' rs) λl=>cF n s'.H (i_ l) k):
  ∃v,aQ P V' (results fn a'.tmps) (λx aS=>x=v/\aS=V') (λ_ _=>False)/\gW E V k kp (.ret v) V':=by
 obtain⟨l,h1,h2⟩:=hΦ.out;have gA:∃v,ap E' (i_ l) v/\aQ P V' (results fn a'.tmps) (λx aS=>x=v/\aS=V') (λ_ _=>False):=by
  obtain⟨vs,hl,lQ,yD⟩:=H2 ah rs l h1;refine⟨if h:vs.length=1 then vs[0]else .tuple vs.toArray,?_,?_⟩
  ·match l,vs,hl,lQ with
   |[x],[v],_,lQ=>exact lQ 0 x rfl
   |[],[],_,lQ=>exact .aN rfl (by simp)
   |x::y::l,v::w::vs,hl,lQ=>exact .aN (by simpa using hl) (λi z hz=>by simpa[SH,SE]using lQ i z hz)
  ·unfold results;rw[hr,X2];refine az ?_;refine az (yD ?_);refine au (au ⟨?_,rfl⟩);simp
 obtain⟨v,bk,qA⟩:=gA;obtain⟨b,bS,H',q1,q2,q3,q4⟩:=xX h2 ah.bu bk hle hn;exact⟨v,qA,b,bS,H',q1,ce,eT,q2,q3,q4⟩
def zI (lv:Bool)(P:SI)(rs:List UQ)(n:Nat)(k kp:AV->List aa->Prop):an->AS->List (AV×List AV)->Prop
 |.normal,s,[]|.ret,s,[]=>ao (ie P s rs) λl=>cF n s.H (i_ l) k
 |.panic pv,s,[]=>cF n s.H pv kp
 |.normal,s,[c]|.ret,s,[c]=>qS lv P c s.H none (λH'=>ao (ie P ⟨s.T,H'⟩ rs) λl=>cF n H' (i_ l) k) (λ_=>False)
 |.panic pv,s,[c]=>qS lv P c s.H (some pv) (λH'=>ao (ie P ⟨s.T,H'⟩ rs) λl=>cF n H' (i_ l) k) (λH'=>cF n H' pv kp)
 |_,_,_=>False
theorem zE.mono{g:TQ}{args:Array SP}{md:Vf}{V:View}{R R':Vf->View->Prop}(h:zE lv P g args md V R)(hr:∀m V,R m V->R' m V):zE lv P g args md V R':=λmain J C fr cs hm hR=>h main J C fr cs hm λnQ V' r=>hR nQ V' (hr _ _ r)
@[congr] theorem atZ {nt : Nat} {c : T7} {s s' : AS} {ds ni : List (AV × List AV)} {Φ : an -> AS -> List (AV × List AV) -> Prop} (h : s = s') (hd : ds = ni) : BU lv P nt c s ds Φ = BU lv P nt c s' ni Φ := by rw [h, hd]
theorem asi(K:AS->List (AV×List AV)->Prop)(Φ:an->AS->List (AV×List AV)->Prop)(s:AS)(ds:List (AV×List AV)):an.xo K Φ .normal s ds=K s ds:=by rw[an.xo]
theorem asl(K:AS->List (AV×List AV)->Prop)(Φ:an->AS->List (AV×List AV)->Prop)(s:AS)(ds:List (AV×List AV)):an.xo K Φ .ret s ds=Φ .ret s ds:=by rw[an.xo];simp
theorem asj(K:AS->List (AV×List AV)->Prop)(Φ:an->AS->List (AV×List AV)->Prop)(a:AV)(s:AS)(ds:List (AV×List AV)):an.xo K Φ (.panic a) s ds=Φ (.panic a) s ds:=by rw[an.xo];simp
@[congr] theorem auN {K : AS -> List (AV × List AV) -> Prop} {Φ : an -> AS -> List (AV × List AV) -> Prop} {e e' : an} {s s' : AS} {ds ni : List (AV × List AV)} (he : e = e') (h : s = s') (hd : ds = ni) : an.xo K Φ e s ds = an.xo K Φ e' s' ni := by rw [he, h, hd]
@[congr] theorem aue {rs : List UQ} {n : Nat} {k kp : AV -> List aa -> Prop} {e e' : an} {s s' : AS} {ds ni : List (AV × List AV)} (he : e = e') (h : s = s') (hd : ds = ni) : zI lv P rs n k kp e s ds = zI lv P rs n k kp e' s' ni := by rw [he, h, hd]
theorem ajM(rs:List UQ)(n:Nat)(k kp:AV->List aa->Prop)(s:AS):zI lv P rs n k kp .ret s []=ao (ie P s rs) λl=>cF n s.H (i_ l) k:=by rw[zI]
theorem ajL(rs:List UQ)(n:Nat)(k kp:AV->List aa->Prop)(s:AS)(pv:AV):zI lv P rs n k kp (.panic pv) s []=cF n s.H pv kp:=by rw[zI]
attribute [seval] asi asl asj ajM ajL
end
section
variable {P:SI}
theorem adM{ι:Type}{body:ι->PUnit->Sem (ForInStep PUnit)}:∀(l:List ι),(∀i∈l,cG P (body i ⟨⟩) (.yield ⟨⟩))->cG P (forIn l ⟨⟩ body) ⟨⟩
 |[],_=>by simpa using iK PUnit.unit
 |i::l,h=>by
  rw[W6];exact lw (h i (TC ..)) (adM l λj hj=>h j (Td _ hj))
theorem ar3{t:TypeId}{k0 k:TZ}{d:Nat}{b:Bool}{x:Int}(h:P.underlying t=some (.int k0)):cG P (Vj b (d+1) t (.int k x)) ():=by
 rw[Vj];exact zv h (iK _)
theorem adL{t e:TypeId}{k0 k:TZ}{n d:Nat}{i:Wp}{b:Bool}{xs:List Int}(ht:P.underlying t=some (.array n e))(he:P.underlying e=some (.int k0))(hi:P.info? e=some i)(hs:i.size=1)(hx:xs.length=n):
  cG P (Vj b (d+2) t (.agg (xs.map (SF k)).toArray)) ():=by
 rw[Vj];refine zv ht ?_;dsimp only;simp only[WB,Xw];refine lw (a:=⟨⟩) ?_ (iK _);refine adM _ λj hj=> ?_;have hn:(n-0+1-1)/1=n:=by simp
 have py:j<n:=by rw[hn]at hj;simp[X0]at hj;omega
 have gx:xs[j]?=some (xs[j]'(by omega)):=SW _;refine Ox hi ?_;rw[hs,Ye];refine EC he rfl (v:=.int k (xs[j]'(by omega))) (by simp[gx]) ?_;exact lw (ar3 he) (iK _)
def ey (x:List Int×Nat):Wq:={key:=.agg (x.1.map (SF .i64)).toArray,val:=.bool true,born:=x.2}
def qb (x:List Int):List (List Int×Nat)->Nat->Option (Nat×SP)
 |[],_=>none
 |y::ts,i=>if x==y.1 then some (i,.bool true)else qb x ts (i+1)
theorem adO{t e:TypeId}{k0:TZ}{n:Nat}{i:Wp}{x:List Int}(ht:P.underlying t=some (.array n e))(he:P.underlying e=some (.int k0))(hi:P.info? e=some i)(hs:i.size=1)(hx:x.length=n):∀(ts:List (List Int×Nat))(j:Nat),(∀y∈ts,y.1.length=n)->
  cG P (XK t (.agg (x.map (SF .i64)).toArray) (ts.map ey) j) (qb x ts j)
 |[],j,_=>by rw[List.map_nil,XK,qb];exact iK _
 |y::ts,j,h=>by
  rw[UP,XK,qb];refine lw (adN ht he hi hs hx (h y (TC ..))) ?_;by_cases wZ:(x==y.1)=true
  ·rw[if_pos wZ,if_pos wZ];exact iK _
  ·rw[if_neg wZ,if_neg wZ];exact adO ht he hi hs hx ts (j+1) λz hz=>h z (Td _ hz)
theorem adP{t e:TypeId}{k0:TZ}{n:Nat}{i:Wp}{x:List Int}(ht:P.underlying t=some (.array n e))(he:P.underlying e=some (.int k0))(hi:P.info? e=some i)(hs:i.size=1)(hx:x.length=n){ts:List (List Int×Nat)}(h:∀y∈ts,y.1.length=n):
  cG P (VP t (.agg (x.map (SF .i64)).toArray) (ts.map ey)) (qb x ts 0):=by
 unfold VP;refine zv ht ?_;cases ts with
 |nil=>exact iK _
 |cons y ts=>
  have e1:Instr.findNow (.array n e) (.agg (x.map (SF .i64)).toArray) ((y::ts).map ey) 0=none:=rfl;rw[e1];exact adO ht he hi hs hx (y::ts) 0 h
theorem Rf{x:List Int}:∀{ts:List (List Int×Nat)}{j i:Nat}{v:SP},qb x ts j=some (i,v)->∃b,j<=i/\ts[i-j]?=some (x,b)/\v=.bool true
 |y::ts,j,i,v,h=>by
  rw[qb]at h;split at h
  ·rename_i wZ;cases h;obtain⟨y1,b⟩:=y;have:x=y1:=(by simpa using wZ);subst this;exact⟨b,SO _,by simp,rfl⟩
  ·obtain⟨b,h1,h2,h3⟩:=Rf h;refine⟨b,by omega,?_,h3⟩;have:i-j=(i-(j+1))+1:=(by omega);rw[this,UN];exact h2
theorem Re{x:List Int}:∀{ts:List (List Int×Nat)}{j:Nat},qb x ts j=none->∀y∈ts,y.1≠x
 |y::ts,j,h,z,hz=>by
  rw[qb]at h;split at h
  ·cases h
  ·rename_i wZ;rcases SK.1 hz with rfl|hz
   ·intro e;exact wZ (by simp[e])
   ·exact Re h z hz
end
theorem aqN(xs:List Int):WG 10000 (.agg (xs.map (SF .i64)).toArray) (.agg (xs.map (SF .i64)).toArray)=true:=by
 show WG (9999+1) _ _=true;rw[WG];simp only[beq_self_eq_true,Vx,Tv]
 rintro⟨a,b⟩ h
 have:a=b/\a∈xs.map (SF .i64):=by
  have key:∀l:List SP,(a,b)∈l.zip l->a=b/\a∈l:=by
   intro l;induction l with
   |nil=>intro h;cases h
   |cons x l ih=>
    intro h;rw[List.zip_cons_cons]at h;rcases SK.1 h with h|h
    ·cases h;exact⟨rfl,TC ..⟩
    ·exact⟨(ih h).1,Td _ (ih h).2⟩
  exact key _ h
 obtain⟨rfl,hm⟩:=this;obtain⟨x,_,rfl⟩:=Te.1 hm;simp[WG]
theorem acH(ts:List (List Int×Nat))(ck:Nat)(x:List Int):xh (ts.map ey).toArray ck (.agg (x.map (SF .i64)).toArray) (.bool true) none=.map ((ts++[(x,ck)]).map ey).toArray (ck+1):=by
 simp[xh,ey]
theorem apt{ts:List (List Int×Nat)}{ck i b:Nat}{x:List Int}{v:SP}(h:ts[i]?=some (x,b)):xh (ts.map ey).toArray ck (.agg (x.map (SF .i64)).toArray) (.bool true) (some (i,v))=.map (ts.map ey).toArray ck:=by
 simp only[xh];congr 1;apply Array.ext_getElem?;intro j;rw[Wo];by_cases hj:i=j
 ·subst hj;rw[if_pos rfl];simp[h,ey]
 ·rw[if_neg hj]
theorem aoA(xs:List Int):AV.of (.agg (xs.map (SF .i64)).toArray)=.agg (xs.map iv):=by
 simp only[AV.of,WM];congr 1
theorem P3(ts:List (List Int×Nat))(ck:Nat)(h:∀y∈ts,y.2<ck):((ts.map ey).toArray.all (λe=>decide (e.born>=ck))=false\/(ts.map ey).toArray.isEmpty=true):=by
 cases ts with
 |nil=>right;rfl
 |cons y ts=>
  left;have:=h y (TC ..);simp[ey];omega
theorem Ee{α β:Type}(f:α->β):∀{l:List α},(l.map f).Nodup->l.Nodup
 |[],_=>WS
 |x::l,h=>by
  rw[UP,VW]at h;exact VW.2 ⟨λhm=>h.1 (Te.2 ⟨x,hm,rfl⟩),Ee f h.2⟩
theorem ac2{ts vs:List (List Int×Nat)}(hv:(vs.map (·.2)).Nodup)(ht:(ts.map (·.2)).Nodup)(lN:∀y∈vs,y∈ts)(fD:∀y∈ts,y.2∈vs.map (·.2)):vs.Perm ts:=by
 have yK:vs.Nodup:=Ee _ hv;have mf:ts.Nodup:=Ee _ ht;refine(List.perm_ext_iff_of_nodup yK mf).2 λy=>⟨lN y,λhy=> ?_⟩;obtain⟨z,hz,e⟩:=Te.1 (fD y hy);have MG:=lN z hz;have:∀(l:List (List Int×Nat)),(l.map (·.2)).Nodup->z∈l->y∈l->z=y:=by
  intro l;induction l with
  |nil=>intro _ h;cases h
  |cons x l ih=>
   intro hn h1 h2;rw[UP,VW]at hn;rcases SK.1 h1 with e1|KA
   ·rcases SK.1 h2 with e2|Ar
    ·rw[e1,e2]
    ·exact absurd (show x.2∈l.map (·.2)from Te.2 ⟨y,Ar,by rw[<- e1];exact e.symm⟩) hn.1
   ·rcases SK.1 h2 with e2|Ar
    ·exact absurd (show x.2∈l.map (·.2)from Te.2 ⟨z,KA,by rw[<- e2];exact e⟩) hn.1
    ·exact ih hn.2 KA Ar
 rw[<- this ts ht MG hy];exact hz
theorem Rh{y:List Int×Nat}:∀{ts:List (List Int×Nat)},(ts.map (·.2)).Nodup->y∈ts->(ts.map ey).toArray.find? (λe=>e.born==y.2)=some (ey y):=by
 intro ts hn hy;rw[List.find?_toArray];induction ts with
 |nil=>cases hy
 |cons z ts ih=>
  rw[UP,VW]at hn;rw[UP];by_cases h:z.2=y.2
  ·rw[List.find?_cons_of_pos (by simp[ey,h])];rcases SK.1 hy with e|pJ
   ·rw[e]
   ·exact absurd (show z.2∈ts.map (·.2)from Te.2 ⟨y,pJ,h.symm⟩) hn.1
  ·rw[List.find?_cons_of_neg (by simp[ey,h])];rcases SK.1 hy with e|pJ
   ·exact absurd (by rw[e]) h
   ·exact ih hn.2 pJ
theorem ach(y:List Int×Nat):AV.of (ey y).key=.agg (y.1.map iv):=aoA y.1
section
variable {lv:Bool}{P:SI}
theorem aqS{l:Nat}{r:asg}{V:View}(ho:V.own l=some (.loop r))(hs:r.state=.ready)(hc:V.role.chan≠some l):aQ P V (do XL l;pure Next.skip) (λnx V'=>nx=.skip/\V'=V.upd l (.loop {r with state:=.busy})) (λ_ _=>False):=by
 unfold XL WN;refine az (az (az ?_));unfold getObj;refine nU ho rfl rfl hc (cI ?_);dsimp only;refine au ?_;refine az ?_;unfold setObj;refine zm ho rfl rfl hc (cI ?_);rw[hs];exact au (au ⟨rfl,rfl⟩)
theorem aqW{l:Nat}{r:asg}{V:View}(pK:Option T7)(ho:V.own l=some (.loop r))(hc:V.role.chan≠some l):aQ P V (W_ l pK) (λv V'=>v=.bool pK.isNone/\V'=V.upd l (.loop {r with state:=if pK.isNone then .ready else .done,pending:=pK})) (λ_ _=>False):=by
 unfold W_ WN;refine az (az ?_);unfold getObj;refine nU ho rfl rfl hc (cI ?_);dsimp only;refine au ?_;refine az ?_;unfold setObj;refine zm ho rfl rfl hc (cI ?_);exact au ⟨rfl,rfl⟩
theorem aqV{l:Nat}{r:asg}{V:View}(ho:V.own l=some (.loop r))(hs:r.state≠ .busy)(hc:V.role.chan≠some l):aQ P V (ZP l) (λv V'=>v=r.pending/\V'=V.upd l (.loop {r with state:=.exhausted})) (λ_ _=>False):=by
 unfold ZP WN;refine az (az ?_);unfold getObj;refine nU ho rfl rfl hc (cI ?_);dsimp only;refine au ?_;have:(r.state==ar')=false:=by simpa using hs
 rw[if_neg (by rw[this];simp)];refine az ?_;unfold setObj;refine zm ho rfl rfl hc (cI ?_);exact au ⟨rfl,rfl⟩
theorem aqX{fn:TQ}{tmps:Array SP}{ps:Array Tmp}{bM body:T7}{V:View}:aQ P V (W3 fn tmps ps bM body none) (λx V1=>∃d l,V.fresh d/\(V.upd d (.deferred (some []))).fresh l/\x=(l,[{target:=.collected d,args:=#[]}])/\
  V1=(V.upd d (.deferred (some []))).upd l (.loop {state:=.ready,pending:=none,fn,tmps,params:=ps,assign:=bM,body,defers:=d})) (λ_ _=>False):=by
 unfold W3;dsimp only;refine az ?_;unfold newObj;refine oQ λd hd=>cI ?_;refine az (au ?_);dsimp only;refine az (oQ λl hl=>cI (au ?_));exact⟨d,l,hd,hl,rfl,rfl⟩
theorem Oh{d:Nat}{V:View}(ho:V.own d=some (.deferred (some [])))(hc:V.role.chan≠some d):aQ P V (Y8 d) (λv V'=>v=[]/\V'=V.upd d (.deferred none)) (λ_ _=>False):=by
 unfold Y8;refine az ?_;unfold getObj;refine nU ho rfl rfl hc (cI ?_);dsimp only;refine az ?_;unfold setObj;refine zm ho rfl rfl hc (cI ?_);exact au ⟨rfl,rfl⟩
def aeJ (l:Nat)(R:Out->View->Prop):Ex->Act->View->Prop
 |.normal,_,V=>∃r,V.own l=some (.loop r)/\V.role.chan≠some l/\R (.ret (.bool true)) (V.upd l (.loop {r with state:=.ready,pending:=none}))
 |.ret,_,V=>∃r,V.own l=some (.loop r)/\V.role.chan≠some l/\R (.ret (.bool false)) (V.upd l (.loop {r with state:=.done,pending:=some .ret}))
 |.exit i,_,V=>∃r,V.own l=some (.loop r)/\V.role.chan≠some l/\R (.ret (.bool false)) (V.upd l (.loop {r with state:=.done,pending:=some (.exit i)}))
 |.goto i,_,V=>∃r,V.own l=some (.loop r)/\V.role.chan≠some l/\R (.ret (.bool false)) (V.upd l (.loop {r with state:=.done,pending:=some (.goto i)}))
 |.panic ch,a,V=>a.defers=[]/\R (.panic ch) V
def aeH (lv:Bool)(P:SI)(l:Nat)(body:T7)(R:Out->View->Prop):Ex->Act->View->Prop
 |.normal,a,V=>∃r,V.own l=some (.loop r)/\V.role.chan≠some l/\r.state=.ready/\WP lv P (some l) body (aeJ l R) a (V.upd l (.loop {r with state:=.busy}))
 |_,_,_=>False
theorem aqy{l f:Nat}{tmps:Array SP}{bM body:T7}{V:View}{R:Out->View->Prop}(h:WP lv P (some l) bM (aeH lv P l body R) {tmps,defers:=[]} V):mY lv P (Xd l f tmps bM body .normal) V R:=by
 intro main J C c cs h1 h2;let b:Uc:={(default:Uc)with fn:=f,kind:=.normal,roundOf:=some l};have al9:Xd l f tmps bM body .normal=on b {tmps,defers:=[]} [.code bM,.beginRound,.code body]:=rfl;rw[al9];have leave:∀(a:Act)(V':View)(r:asg)(pK:Option T7)(todo:List WZ),V'.own l=some (.loop r)->V'.role.chan≠some l->R (.ret (.bool pK.isNone)) (V'.upd l (.loop {r with state:=if pK.isNone then .ready else .done,pending:=pK}))->
   (∀w,stepG P main (G (on b a todo) (c::cs)) w=T6 (seen P b.fn ((W_ l pK).runT P w #[]).2) (match((W_ l pK).runT P w #[]).1 with
    |.ok v w=>doReturn P main (on b a todo) (c::cs) none v w
    | .halt _ w => .ended (.stuck "range over a function: no such loop" ((on b a todo).pos P)) w)) -> J V' (G (on b a todo) (c :: cs)) := by
  intro a V' r pK todo ho eS hR aR;refine C.step _ _ rfl λw fw=> ?_;obtain⟨es,w',aS,k1,k2,k3⟩:=(aqW (P:=P) pK ho eS).runs fw;rcases k3 with⟨v,k3,rfl,rfl⟩|⟨_,_,hx⟩
  ·refine⟨G (c.finish (.bool pK.isNone)) cs,w',seen P b.fn es,_,?_,k1.seen P b.fn,h1 _ _ hR⟩;rw[aR w];simp[TB,k3,k2,doReturn,T6,on,b,G]
  ·exact hx.elim
 refine h main J C b [.beginRound,.code body] (c::cs) (by show Y_≠Va;decide) rfl λe a' V' q=> ?_;cases e with
 |normal=>
  obtain⟨r,ho,eS,hs,hw⟩:=q;refine C.step _ _ rfl λw fw=> ?_;obtain⟨es,w',aS,k1,k2,k3⟩:=(aqS (P:=P) ho hs eS).runs fw;rcases k3 with⟨nx,k3,rfl,rfl⟩|⟨_,_,hx⟩
  ·refine⟨G (on b a' [.code body]) (c::cs),w',seen P b.fn es,_,?_,k1.seen P b.fn,?_⟩
   ·have:stepG P main (G (on b a' [.beginRound,.code body]) (c::cs)) w=stepG.apply P true (on b a' [.beginRound,.code body]) (c::cs) none (do XL l;pure Next.skip) w:=by
     simp[G,stepG,Ug,on,b]
    rw[this];have jV:((on b a' [.beginRound,.code body]).kind==Va)=false:=(by simp[on,b]);simp only[stepG.apply,TB,if_true,k3,k2,jV,T6];rfl
   ·refine hw main J C b [] (c::cs) (by show Y_≠Va;decide) rfl λe cj aS q=> ?_;cases e with
    |normal=>
     obtain⟨r',ba,nw,hR⟩:=q;refine leave cj aS r' none [] ba nw hR λw=> ?_;simp[G,stepG,Ug,on,b];rfl
    |ret=>
     obtain⟨r',ba,nw,hR⟩:=q;intro k;refine leave cj aS r' (some .ret) _ ba nw hR λw=> ?_;simp[G,stepG,Ug,on,b];rfl
    |exit i=>
     obtain⟨r',ba,nw,hR⟩:=q;refine .inr ⟨rfl,λk2 cH=> ?_⟩;refine leave cj aS r' (some (.exit i)) _ ba nw hR λw=> ?_;simp[G,stepG,Ug,on,b,cH];rfl
    |goto i=>
     obtain⟨r',ba,nw,hR⟩:=q;refine .inr ⟨rfl,λk2 cH=> ?_⟩;refine leave cj aS r' (some (.goto i)) _ ba nw hR λw=> ?_;simp[G,stepG,Ug,on,b,cH];rfl
    |panic ch=>
     obtain⟨hd,hR⟩:=q;intro todo amm;refine C.idle rfl (λw=> ?_) (h2 _ _ hR);have akG:ZX P {on b cj todo with mode:=.panicking ch}=false:=by
      unfold ZX
      match todo,amm with
      |.call .. ::_,h=>cases h
      |[],_=>split<;>simp_all[on]
      |x::k,_=>cases x<;>(split<;>simp_all[on,abX])
     have bA:({on b cj todo with mode:=.panicking ch}:Uc).defers=[]:=hd;simp only[G,stepG,unwind,bA,akG];simp
  ·exact hx.elim
 |_=>exact q.elim
def mark (a:Act)(d:Nat):Act:={a with defers:={target:=.collected d,args:=#[]}::a.defers}
def xE (l:Nat)(Q:Ex->Act->View->Prop)(a:Act):Out->View->Prop
 |.ret _,V=>∃r,V.own l=some (.loop r)/\V.role.chan≠some l/\r.state≠ .busy/\(match r.pending with
  |none=>Q .normal a (V.upd l (.loop {r with state:=.exhausted}))
  |some .ret=>Q .ret a (V.upd l (.loop {r with state:=.exhausted}))
  |some (.exit i)=>Q (.exit i) a (V.upd l (.loop {r with state:=.exhausted}))
  |some (.goto i)=>Q (.goto i) a (V.upd l (.loop {r with state:=.exhausted}))
  |_=>False)
 |.panic ch,V=>Q (.panic ch) a V
abbrev Fh (l d:Nat)(Q:Ex->Act->View->Prop)(a:Act):Out->View->Prop:=xE l Q (mark a d)
theorem acN{rr:Option Nat}{f:Tj}{ps:Array Tmp}{bM body:T7}{Q:Ex->Act->View->Prop}{a a1:Act}{V1:View}{l:Nat}{main:Bool}{J:View->SG->Prop}(C:Closed lv P main J){b:Uc}{k:List WZ}{cs:List Uc}(hb:b.kind≠ .early)(hr:b.roundOf=rr)(hL:∀e a' V',Q e a' V'->vT J b k cs e a' V'){w w1:Tp}{es:Array Ut}{V:View}
  (h:aQ P V1 (do let dd<- U9 (a.eval f) #[.func (.yield l) #[] #[]];invoke dd.target dd.args) (λnx V'=>Nx lv P (xE l Q a1) nx V') (λv V'=>xE l Q a1 (.panic [{v,recovered:=false}]) V'))
  (s1:dh V w V1 w1 (fH es)) (aR:stepG P main (G (on b a (.code (.rangeFunc f ps bM body)::k)) cs) w=T6 (seen P b.fn es) (stepG.apply P true (on b a1 (.inRangeFunc l::k)) cs none (do let dd<- U9 (a.eval f) #[.func (.yield l) #[] #[]];invoke dd.target dd.args) w1)):
  ∃g' w' es V',stepG P main (G (on b a (.code (.rangeFunc f ps bM body)::k)) cs) w=.go g' w' es/\dh V w V' w' es/\J V' g':=by
 have fin:∀(v:SP)(V':View),xE l Q a1 (.ret v) V'->J V' (G (on b a1 (.endRangeFunc l::k)) cs):=by
  intro v V' ⟨r,ho,eS,hs,hq⟩;refine C.step _ _ rfl λw fw=> ?_;obtain⟨es,w',aS,k1,k2,k3⟩:=(aqV (P:=P) ho hs eS).runs fw;rcases k3 with⟨x,k3,rfl,rfl⟩|⟨_,_,hx⟩
  ·refine⟨G (on b a1 ((r.pending.map Item.code).toList++k)) cs,w',seen P b.fn es,_,?_,k1.seen P b.fn,?_⟩
   ·simp[G,stepG,Ug,on,TB,k3,k2,T6]
   ·generalize r.pending=pe at hq⊢
    match pe,hq with
    |none,hq=>exact hL _ _ _ hq
    |some .ret,hq=>exact hL _ _ _ hq _
    |some (.exit i),hq=>exact abi C (hL _ _ _ hq)
    |some (.goto i),hq=>exact amI C (hL _ _ _ hq)
  ·exact hx.elim
 obtain⟨nj,w2,V2,t1,t2,t3⟩:=h.runs s1.sat;have jV:((on b a1 (.inRangeFunc l::k)).kind==Va)=false:=by simpa[on]using hb
 rw[aR];rcases t3 with⟨nx,t3,hU⟩|⟨v,t3,hU⟩
 ·cases nx with
  |value v=>exact⟨_,w2,seen P b.fn es++seen P b.fn nj,V2,by simp only[stepG.apply,TB,if_true,t3,t2,jV,T6];rfl,(s1.seen P _).trans (t1.seen P _),fin v _ hU⟩
  |skip=>exact⟨_,w2,seen P b.fn es++seen P b.fn nj,V2,by simp only[stepG.apply,TB,if_true,t3,t2,jV,T6];rfl,(s1.seen P _).trans (t1.seen P _),fin undef _ hU⟩
  |enter g args=>
   refine⟨G (Frame.enter P g args .normal) (on b a1 (.inRangeFunc l::k)::cs),w2,seen P b.fn es++seen P b.fn nj,V2,by simp only[stepG.apply,TB,if_true,t3,t2,jV,T6];rfl,(s1.seen P _).trans (t1.seen P _),?_⟩;refine Body.runs hU main J C _ cs (λv aS hR=> ?_) (λch aS hR=> ?_)
   ·exact fin v _ hR
   ·exact hL _ _ _ hR _ rfl
  |round l2 f2 asy as2 b2=>
   refine⟨G (Xd l2 f2 asy as2 b2 .normal) (on b a1 (.inRangeFunc l::k)::cs),w2,seen P b.fn es++seen P b.fn nj,V2,by simp only[stepG.apply,TB,if_true,t3,t2,jV,T6];rfl,(s1.seen P _).trans (t1.seen P _),?_⟩;refine hU main J C _ cs (λv aS hR=> ?_) (λch aS hR=> ?_)
   ·exact fin v _ hR
   ·exact hL _ _ _ hR _ rfl
  |_=>exact hU.elim
 ·exact⟨_,w2,seen P b.fn es++seen P b.fn nj,V2,by simp only[stepG.apply,TB,if_true,t3,t2,jV,T6];rfl,(s1.seen P _).trans (t1.seen P _),hL _ _ _ hU _ rfl⟩
theorem aes{f:Tj}{ps:Array Tmp}{bM body:T7}{Q:Ex->Act->View->Prop}{a:Act}{V:View}
  (h:∀(fn d l:Nat),V.fresh d->(V.upd d (.deferred (some []))).fresh l->aQ P ((V.upd d (.deferred (some []))).upd l (.loop {state:=.ready,pending:=none,fn,tmps:=a.tmps,params:=ps,assign:=bM,body,defers:=d}))
   (do let dd<- U9 (a.eval f) #[.func (.yield l) #[] #[]];invoke dd.target dd.args) (λnx V'=>Nx lv P (Fh l d Q a) nx V') (λv V'=>Fh l d Q a (.panic [{v,recovered:=false}]) V')):WP lv P none (.rangeFunc f ps bM body) Q a V:=by
 intro main J C b k cs hb hr hL;refine C.step _ _ rfl λw fw=> ?_;obtain⟨es,w1,V1,s1,s2,s3⟩:=(aqX (P:=P) (fn:=b.fn) (tmps:=a.tmps) (ps:=ps) (bM:=bM) (body:=body)).runs fw;rcases s3 with⟨x,s3,d,l,hd,hl,rfl,rfl⟩|⟨_,_,hx⟩
 ·refine acN C hb hr hL (h b.fn d l hd hl) s1 ?_;have cr:∀(todo:List WZ)(x:Tj),(on b (mark a d) todo).eval x=a.eval x:=λtodo x=>by rw[HJ];cases x<;>rfl
  have e:=cr (.inRangeFunc l::k) f;have e2:=cr (.inRangeFunc l::k) (.const (.func (.yield l) #[] #[]));simp only[on,mark]at e e2;simp[G,stepG,Ug,on,TB,s3,s2,hr,mark,resolve];rw[hr]at e;rw[e];rfl
 ·exact hx.elim
theorem aqY{fn:TQ}{tmps:Array SP}{ps:Array Tmp}{bM body:T7}{V:View}{l0:Nat}{r0:asg}(ho:V.own l0=some (.loop r0))(hc:V.role.chan≠some l0):aQ P V (W3 fn tmps ps bM body (some l0)) (λx V1=>∃l,V.fresh l/\x=(l,[])/\
  V1=V.upd l (.loop {state:=.ready,pending:=none,fn,tmps,params:=ps,assign:=bM,body,defers:=r0.defers})) (λ_ _=>False):=by
 unfold W3 WN;dsimp only;refine az (az ?_);unfold getObj;refine nU ho rfl rfl hc (cI ?_);dsimp only;refine au (az (au ?_));dsimp only;refine az ?_;unfold newObj;refine oQ λl hl=>cI (au ?_);exact⟨l,hl,rfl,rfl⟩
theorem ate{f:Tj}{ps:Array Tmp}{bM body:T7}{Q:Ex->Act->View->Prop}{a:Act}{V:View}{l0:Nat}{r0:asg}(ho:V.own l0=some (.loop r0))(hc:V.role.chan≠some l0)
  (h:∀(fn l:Nat),V.fresh l->aQ P (V.upd l (.loop {state:=.ready,pending:=none,fn,tmps:=a.tmps,params:=ps,assign:=bM,body,defers:=r0.defers}))
   (do let dd<- U9 (a.eval f) #[.func (.yield l) #[] #[]];invoke dd.target dd.args) (λnx V'=>Nx lv P (xE l Q a) nx V') (λv V'=>xE l Q a (.panic [{v,recovered:=false}]) V')):WP lv P (some l0) (.rangeFunc f ps bM body) Q a V:=by
 intro main J C b k cs hb hr hL;refine C.step _ _ rfl λw fw=> ?_;obtain⟨es,w1,V1,s1,s2,s3⟩:=(aqY (P:=P) (fn:=b.fn) (tmps:=a.tmps) (ps:=ps) (bM:=bM) (body:=body) ho hc).runs fw;rcases s3 with⟨x,s3,l,hl,rfl,rfl⟩|⟨_,_,hx⟩
 ·refine acN C hb hr hL (h b.fn l hl) s1 ?_;have e:=HJ b a (.inRangeFunc l::k) f;simp only[on]at e;simp[G,stepG,Ug,on,TB,s3,s2,hr,resolve];rw[hr]at e;rw[e];rfl
 ·exact hx.elim
theorem Conc.zq{E:Env}{V:View}{H:List aa}(hc:Conc E V H){id r fn nt df:Nat}{st:aa'}{pe:Option T7}{T:List (Nat×AV)}{ps:Array Tmp}{bM body:T7}(hk:H[id]?=some (.loop r st pe fn T nt ps bM body df)):
  E.blk id=r/\V.role.chan≠some r/\∃tmps,V.own r=some (.loop {state:=st,pending:=pe,fn,tmps,params:=ps,assign:=bM,body,defers:=E.blk df})/\tmps.size=nt/\cg E T tmps/\
   ∀st' xg,Conc E (V.upd r (.loop {state:=st',pending:=xg,fn,tmps,params:=ps,assign:=bM,body,defers:=E.blk df})) (H.set id (.loop r st' xg fn T nt ps bM body df)):=by
 obtain⟨⟨tmps,p1,p2,p3⟩,p4,p5,p6⟩:=hc.obj id _ hk;have eS:=(hc.jm hk (b:=E.blk id) rfl).2;subst p6;refine⟨rfl,eS,tmps,p1,p2,p3,λst' xg=> ?_⟩;refine hc.iN id (.loop (E.blk id) st' xg fn T nt ps bM body df) (Env.Le.refl E) hc.I (by simpa using hc.n) ln rfl (λ_ _ _=>rfl) (λb z hb hz=>⟨?_,λ_=>rfl⟩) ⟨⟨tmps,by simp[View.upd],p2,p3⟩,p4,p5,rfl⟩ (λb h=> .inl ⟨_,hk,h⟩);have:b≠E.blk id:=λe=>hb _ hk (by rw[e];rfl);simpa[View.upd,this]using hz
theorem Conc.Ev{E:Env}{V:View}{H:List aa}(hc:Conc E V H){id:Nat}(x:aa)(hk:H[id]?=some x)(y:Obj){b:Nat}(hb:bO E id x=some b):Conc E (V.upd b y) (H.set id .gone):=by
 refine hc.iN id .gone (Env.Le.refl E) hc.I (by simpa using hc.n) ln rfl (λ_ _ _=>rfl) (λb' z dI hz=>⟨?_,λ_=>rfl⟩) trivial (λb h=>by cases h);have:b'≠b:=λe=>dI _ hk (by rw[e];exact hb);simpa[View.upd,this]using hz
def sC:List Nat->List AV->List (Nat×AV)->List (Nat×AV)
 |t::ts,a::aE,T=>sC ts aE ((t,a)::T)
 |_,_,T=>T
theorem aex{E:Env}{nt:Nat}:∀(ts:List Nat)(aE:List AV)(vs:List SP)(T:List (Nat×AV))(tmps:Array SP),vs.length=aE.length->(∀(i:Nat) a,aE[i]?=some a->ap E a (vs.getD i undef))->(∀t∈ts,t<nt)->tmps.size=nt->cg E T tmps->
  cg E (sC ts aE T) ((ts.zip vs).foldl (λtmps (x:Nat×SP)=>tmps.setIfInBounds x.1 x.2) tmps)/\((ts.zip vs).foldl (λtmps (x:Nat×SP)=>tmps.setIfInBounds x.1 x.2) tmps).size=nt
 |[],aE,vs,T,tmps,_,_,_,hs,hT=>by cases aE<;>cases vs<;>exact⟨hT,hs⟩
 |t::ts,[],[],T,tmps,_,_,_,hs,hT=>⟨hT,hs⟩
 |t::ts,[],_::_,T,tmps,h,_,_,hs,hT=>by cases h
 |t::ts,_::_,[],T,tmps,h,_,_,hs,hT=>by cases h
 |t::ts,a::aE,v::vs,T,tmps,hl,hd,ht,hs,hT=>by
  have h0:ap E a v:=by simpa using hd 0 a rfl
  have h1:t<tmps.size:=by rw[hs];exact ht t (by simp)
  exact aex ts aE vs ((t,a)::T) (tmps.setIfInBounds t v) (by simpa using hl) (λi x hx=>by simpa using hd (i+1) x (by simpa using hx)) (λx hx=>ht x (by simp[hx])) (by simpa using hs) (hT.put h1 h0)
def oZ (id n:Nat)(k:AV->List aa->Prop)(st':aa')(xg:Option T7)(b:Bool)(s:AS):Prop:=∃r st pe fn T nt ps bM body df,s.H[id]?=some (.loop r st pe fn T nt ps bM body df)/\cF n (s.H.set id (.loop r st' xg fn T nt ps bM body df)) (.val (.bool b)) k
def aeI (id n:Nat)(k kp:AV->List aa->Prop):an->AS->Prop
 |.normal,s=>oZ id n k .ready none true s
 |.ret,s=>oZ id n k .done (some .ret) false s
 |.exit i,s=>oZ id n k .done (some (.exit i)) false s
 |.goto i,s=>oZ id n k .done (some (.goto i)) false s
 |.panic pv,s=>cF n s.H pv kp
def un (lv:Bool)(P:SI)(l nt id n:Nat)(body:T7)(k kp:AV->List aa->Prop):an->AS->Prop
 |.normal,s=>∃pe fn T jn ps bM fh df,s.H[id]?=some (.loop l .ready pe fn T jn ps bM fh df)/\aP lv P (some l) nt body ⟨s.T,s.H.set id (.loop l .busy pe fn T jn ps bM fh df)⟩ (aeI id n k kp)
 |_,_=>False
theorem wc{l id fn nt df:Nat}{pe:Option T7}{T:List (Nat×AV)}{ps:Array Tmp}{bM body:T7}{H:List aa}{args:List AV}{k kp:AV->List aa->Prop}(bX:H[id]?=some (.loop l .ready pe fn T nt ps bM body df))(hlen:args.length=ps.size)(pD:ps.all (·<nt)=true)
  (h:bH H->(∀a∈args,Lt H.length a)->aP lv P (some l) nt bM ⟨sC ps.toList args T,H⟩ (un lv P l nt id H.length body k kp)):jb lv P (.fn (.yield l) [] []) H args k kp:=by
 intro E V cv vs hc hd pt;cases hd with
 |fn dL fX h1 h2=>
  rename_i fa ca;have e1:fa=#[]:=by apply VG;simpa using dL
  subst e1;have hlt:∀a∈args,Lt H.length a:=λa ha=>by
   obtain⟨i,hi⟩:=pM ha;rw[<- hc.n];exact(pt.2 i a hi).lt
  obtain⟨hb,eS,tmps,ho,aV,hT,_⟩:=hc.zq bX;unfold U9;refine az (au ?_);unfold invoke;dsimp only;unfold Instr.yield WN;refine az (az ?_);unfold getObj;refine nU ho rfl rfl eS (cI ?_);dsimp only;refine au ?_;have lQ:(#[]++vs).size=ps.size:=by simp[pt.1,hlen]
  rw[if_neg (by simp[pt.1,hlen])];refine au ?_;show mY lv P _ V (gW E V k kp);have hz:=aex (nt:=nt) ps.toList args vs.toList T tmps (by simpa using pt.1) (λi a e=>by
   have:=pt.2 i a e;simpa[SH,SE]using this) (λt ht=>by
    have:=(UM.1 pD) t (by simpa using ht);simpa using this) aV hT
  have ahV:(ps.zip (#[]++vs)).foldl (λtmps (x:Nat×SP)=>tmps.setIfInBounds x.1 x.2) tmps=(ps.toList.zip vs.toList).foldl (λtmps (x:Nat×SP)=>tmps.setIfInBounds x.1 x.2) tmps:=by
   rw[<- Array.foldl_toList,Array.toList_zip];simp
  have ahW:Array.foldl (λtmps x=>match x with|(t,a)=>tmps.setIfInBounds t a) tmps (ps.zip (#[]++vs))=(ps.toList.zip vs.toList).foldl (λtmps (x:Nat×SP)=>tmps.setIfInBounds x.1 x.2) tmps:=ahV;rw[ahW];refine aqy ?_;refine h hc.aq hlt E V _ _ ⟨hc,hz.1,hz.2⟩ λae e E' V' a' s' hk aT he hΦ=> ?_;cases ae<;>cases e<;>first
   |exact he.elim
   |exact hΦ.elim
   |skip
  obtain⟨xg,fA,T',jn,gC,gh,fh,gn,ald,hw⟩:=hΦ;obtain⟨dI,nw,qO,ba,Mp,th,tN⟩:=aT.bu.zq ald;refine⟨_,ba,nw,rfl,?_⟩;refine hw E' _ a' _ ⟨tN .busy xg,aT.tok,aT.size⟩ λae e bS aS cj dn cH dj Dh Hc=> ?_;have fin:∀(st':aa')(HT:Option T7)(b:Bool),(∃r st pe fn T nt ps bM body df,dn.H[id]?=some (.loop r st pe fn T nt ps bM body df)/\cF H.length (dn.H.set id (.loop r st' HT fn T nt ps bM body df)) (.val (.bool b)) k)->
    ∃r,aS.own l=some (.loop r)/\aS.role.chan≠some l/\gW E V k kp (.ret (.bool b)) (aS.upd l (.loop {r with state:=st',pending:=HT})):=by
   intro st' HT b ⟨r,st,pe3,fn3,T3,nt3,N5,atV,at4,df3,ale,tz⟩;obtain⟨Gh,akK,auR,L3,auA,hT3,amd⟩:=dj.bu.zq ale;have hlt:id<E.n:=(by rw[hc.n];exact(SL.1 bX).1);have hle:E.Le bS:=hk.le.trans cH.le;have hr:r=l:=(by rw[<- Gh,<- hb];exact hle.blk id hlt);subst hr;obtain⟨x,E4,H4,q1,q2,q3,q4⟩:=xX tz (amd st' HT) (.val _) hle hc.n;exact⟨_,L3,akK,x,E4,H4,q1,cH.role.trans hk.role,cH.deaf.trans hk.deaf,q2,q3,q4⟩
  cases ae<;>cases e<;>first
   |exact Dh.elim
   |exact fin .ready none true Hc
   |exact fin .done (some .ret) false Hc
   |(have e:_=_:=Dh
     subst e;exact fin .done _ false Hc)
   |skip
  obtain⟨v,akJ,bk⟩:=Dh;subst akJ;obtain⟨x,E4,H4,q1,q2,q3,q4⟩:=xX Hc dj.bu bk (hk.le.trans cH.le) hc.n;refine⟨by rw[cH.defers,hk.defers],x,v,E4,H4,rfl,q1,cH.role.trans hk.role,cH.deaf.trans hk.deaf,q2,q3,q4⟩
def Marks (E:Env)(ms:List Nat)(l:List U2):Prop:=l=ms.map (λi=>({target:=.collected (E.blk i),args:=#[]}:U2))/\∀i∈ms,i<E.n
theorem Marks.mono{E E':Env}(h:E.Le E'){ms:List Nat}{l:List U2}(k:Marks E ms l):Marks E' ms l:=
 ⟨by rw[k.1];exact Vg λi hi=>by rw[h.blk i (k.2 i hi)],λi hi=>Tf (k.2 i hi) h.n⟩
def mz (lv:Bool)(P:SI)(nt:Nat)(c:T7)(s:AS)(ms:List Nat)(Φ:an->AS->List Nat->Prop):Prop:=
 ∀(E:Env)(V:View)(a:Act)(Q:Ex->Act->View->Prop),At E V s a nt->Marks E ms a.defers->(∀ae e E' V' a' s' cD,qW E E' V V' a a'->At E' V' s' a' nt->Marks E' cD a'.defers->pV E' ae e->Φ ae s' cD->Q e a' V')->WP lv P none c Q a V
variable {s:AS}{ms:List Nat}{nt:Nat}
theorem Jg{c:T7}{Φ:an->AS->List Nat->Prop}(h:aP lv P none nt c s λe s'=>Φ e s' ms):mz lv P nt c s ms Φ:=λE V a Q ah hd hQ=>
 h E V a Q ah λae e E' V' a' s' hk aT he hΦ=>hQ ae e E' V' a' s' ms hk.d aT (by rw[hk.defers];exact hd.mono hk.le) he hΦ
def an.sw (next:AS->List Nat->Prop)(Φ:an->AS->List Nat->Prop):an->AS->List Nat->Prop
 |.normal,s,ms=>next s ms
 |e,s,ms=>Φ e s ms
theorem Jh{x y:T7}{Φ:an->AS->List Nat->Prop}(h:mz lv P nt x s ms (an.sw (λs' cD=>mz lv P nt y s' cD Φ) Φ)):mz lv P nt (.seq x y) s ms Φ:=by
 intro E V a Q ah hd hQ;refine wp_seq (h E V a _ ah hd λae e E' V' a' s' cD hk aT cz he hΦ=> ?_);cases ae<;>cases e<;>first
  |exact he.elim
  |exact hΦ E' V' a' Q aT cz λae e bS aS cj dn Ea aI dj AF kg tS=>hQ ae e bS aS cj dn Ea (hk.trans aI) dj AF kg tS
  |exact hQ _ _ E' V' a' s' cD hk aT cz he hΦ
theorem nc{x y:T7}{Φ:an->AS->List Nat->Prop}(h:aP lv P none nt x s (an.then (λs'=>mz lv P nt y s' ms Φ) λe s'=>Φ e s' ms)):mz lv P nt (.seq x y) s ms Φ:=by
 refine Jh (Jg (h.mono λe s' hs=> ?_));cases e<;>exact hs
def sL (Φ:an->AS->List Nat->Prop)(s:AS)(ms:List Nat):Option T7->Prop
 |none=>Φ .normal s ms
 |some .ret=>Φ .ret s ms
 |some (.exit i)=>Φ (.exit i) s ms
 |some (.goto i)=>Φ (.goto i) s ms
 |_=>False
theorem agq{f:Tj}{ps:Array Tmp}{bM body:T7}{fv:AV}{Φ:an->AS->List Nat->Prop}(hf:s.ev f=some fv)
  (h:∀l fn:Nat,jb lv P fv (s.H++[.obj (.deferred (some [])),.loop l .ready none fn s.T nt ps bM body s.H.length]) [.fn (.yield l) [] []]
   (λ_ H'=>∃st pe fA T' jn gC gh fh gn,H'[s.H.length+1]?=some (.loop l st pe fA T' jn gC gh fh gn)/\st≠ .busy/\sL Φ ⟨s.T,H'.set (s.H.length+1) .gone⟩ (s.H.length::ms) pe)
   (λpv H'=>Φ (.panic pv) ⟨s.T,H'⟩ (s.H.length::ms))):mz lv P nt (.rangeFunc f ps bM body) s ms Φ:=by
 intro E V a Q ah hm hQ;refine aes λfn d l hd hl=> ?_;have hc:=ah.bu;have dq:Conc (E.add d V.ab) (V.upd d (.deferred (some []))) (s.H++[.obj (.deferred (some []))]):=by
  refine hc.add hd _ ⟨?_,rfl,rfl,λo=> ?_⟩ (λb e=> ?_)
  ·rw[Env.dM];simp[View.upd]
  ·rw[Env.dM];exact hd.2 o
  ·simp only[bO,Env.dM,Tm]at e;exact e.symm
 have Dp:E.Le (E.add d V.ab):=E.qF d (λb o v h=>by rw[<- hc.I];exact h);have C_:(E.add d V.ab).blk s.H.length=d:=by rw[<- hc.n];exact E.dM d _
 let E1:=E.add d V.ab;let V1:=V.upd d (.deferred (some []));have pB:E1.n=s.H.length+1:=by rw[dq.n];simp
 have qu:E1.Le (E1.add l V1.ab):=E1.qF l (λb o v h=>by rw[<- dq.I];exact h);have cO:Conc (E1.add l V1.ab) (V1.upd l (.loop {state:=.ready,pending:=none,fn,tmps:=a.tmps,params:=ps,assign:=bM,body,defers:=d})) ((s.H++[.obj (.deferred (some []))])++[.loop l .ready none fn s.T nt ps bM body s.H.length]):=by
  refine dq.add hl _ ⟨⟨a.tmps,?_,ah.size,(ah.tok.mono Dp).mono qu⟩,?_,λo=> ?_,?_⟩ (λb e=> ?_)
  ·have e:(E1.add l V1.ab).blk s.H.length=d:=(by rw[qu.blk s.H.length (by rw[pB];omega)];exact C_);rw[e,Env.dM];simp[View.upd]
  ·show s.H.length<E1.n+1;omega
  ·rw[Env.dM];exact hl.2 o
  ·exact Env.dM _ _ _
  ·simp only[bO,Env.dM,Tm]at e;exact e.symm
 have hle:E.Le (E1.add l V1.ab):=Dp.trans qu;have cN:(E1.add l V1.ab).blk (s.H.length+1)=l:=by rw[<- pB];exact E1.dM l _
 have K4:(E1.add l V1.ab).blk s.H.length=d:=by rw[qu.blk s.H.length (by rw[pB];omega)];exact C_
 rw[SC]at cO;have rM:∀E',(E1.add l V1.ab).Le E'->Marks E' (s.H.length::ms) (mark a d).defers:=λE' hE=>by
  refine Marks.mono hE ⟨?_,λi hi=> ?_⟩
  ·have:=(hm.mono hle).1;simp only[mark,UP,K4];rw[<- this]
  ·rcases SK.1 hi with rfl|hi
   ·show _<E1.n+1;omega
   ·exact Tf (hm.2 i hi) hle.n
 have bA:=ap.ev ah.tok hf;have Db:=h l fn (E1.add l V1.ab) (V1.upd l (.loop {state:=.ready,pending:=none,fn,tmps:=a.tmps,params:=ps,assign:=bM,body,defers:=d})) (a.eval f) #[.func (.yield l) #[] #[]] cO (bA.mono hle) ⟨rfl,λi x hx=>by
  match i,hx with
  |0,hx=>cases hx;exact .fn rfl rfl (by simp) (by simp)⟩
 have key:∀o V',gW (E1.add l V1.ab) (V1.upd l (.loop {state:=.ready,pending:=none,fn,tmps:=a.tmps,params:=ps,assign:=bM,body,defers:=d}))
   (λ_ H'=>∃st pe fA T' jn gC gh fh gn,H'[s.H.length+1]?=some (.loop l st pe fA T' jn gC gh fh gn)/\st≠ .busy/\sL Φ ⟨s.T,H'.set (s.H.length+1) .gone⟩ (s.H.length::ms) pe)
   (λpv H'=>Φ (.panic pv) ⟨s.T,H'⟩ (s.H.length::ms)) o V'->Fh l d Q a o V':=by
  intro o V' hr;cases o with
  |ret v=>
   obtain⟨av,E',H',hE,ce,eT,_,bi,st,pe,fA,T',jn,gC,gh,fh,gn,bX,aR,hp⟩:=hr;obtain⟨dI,nw,qO,ba,Mp,th,tN⟩:=bi.zq bX;refine⟨_,ba,nw,aR,?_⟩;have hg:Conc E' (V'.upd l (.loop {state:=.exhausted,pending:=pe,fn:=fA,tmps:=qO,params:=gC,assign:=gh,body:=fh,defers:=E'.blk gn})) (H'.set (s.H.length+1) .gone):=bi.Ev _ bX _ (by simp only[bO,dI]);have aT:At E' (V'.upd l (.loop {state:=.exhausted,pending:=pe,fn:=fA,tmps:=qO,params:=gC,assign:=gh,body:=fh,defers:=E'.blk gn})) ⟨s.T,H'.set (s.H.length+1) .gone⟩ (mark a d) nt:=⟨hg,ah.tok.mono (hle.trans hE),ah.size⟩;have ep:qW E E' V (V'.upd l (.loop {state:=.exhausted,pending:=pe,fn:=fA,tmps:=qO,params:=gC,assign:=gh,body:=fh,defers:=E'.blk gn})) a (mark a d):=⟨hle.trans hE,rfl,ce,eT⟩;dsimp only
   match pe,hp,aT,ep with
   |none,hp,aT,ep=>exact hQ .normal .normal E' _ _ _ _ ep aT (rM E' hE) trivial hp
   |some .ret,hp,aT,ep=>exact hQ .ret .ret E' _ _ _ _ ep aT (rM E' hE) trivial hp
   |some (.exit i),hp,aT,ep=>exact hQ (.exit i) (.exit i) E' _ _ _ _ ep aT (rM E' hE) rfl hp
   |some (.goto i),hp,aT,ep=>exact hQ (.goto i) (.goto i) E' _ _ _ _ ep aT (rM E' hE) rfl hp
  |panic ch=>
   obtain⟨pv,v,E',H',rfl,hE,ce,eT,bk,bi,hp⟩:=hr;exact hQ (.panic pv) (.panic _) E' V' (mark a d) ⟨s.T,H'⟩ _ ⟨hle.trans hE,rfl,ce,eT⟩ ⟨bi,ah.tok.mono (hle.trans hE),ah.size⟩ (rM E' hE) ⟨v,rfl,bk⟩ hp
 exact Db.mono (λnx V' hn=>Nx.mono key hn) (λv V' hr=>key _ _ hr)
def um (Φ:an->AS->Prop)(s:AS):Option T7->Prop
 |none=>Φ .normal s
 |some .ret=>Φ .ret s
 |some (.exit i)=>Φ (.exit i) s
 |some (.goto i)=>Φ (.goto i) s
 |_=>False
theorem agf{f:Tj}{ps:Array Tmp}{bM body:T7}{fv:AV}{Φ:an->AS->Prop}{l0 He Ku Nw df:Nat}{Oo:aa'}{NL:Option T7}{T0:List (Nat×AV)}{N4:Array Tmp}{Jb Jn:T7}(hf:s.ev f=some fv)(h0:s.H[He]?=some (.loop l0 Oo NL Ku T0 Nw N4 Jb Jn df))
  (h:∀l fn:Nat,jb lv P fv (s.H++[.loop l .ready none fn s.T nt ps bM body df]) [.fn (.yield l) [] []]
   (λ_ H'=>∃st pe fA T' jn gC gh fh gn,H'[s.H.length]?=some (.loop l st pe fA T' jn gC gh fh gn)/\st≠ .busy/\um Φ ⟨s.T,H'.set s.H.length .gone⟩ pe)
   (λpv H'=>Φ (.panic pv) ⟨s.T,H'⟩)):aP lv P (some l0) nt (.rangeFunc f ps bM body) s Φ:=by
 intro E V a Q ah hQ;have hc:=ah.bu;obtain⟨tp,akI,auQ,ho0,Mq,hT0,_⟩:=hc.zq h0;obtain⟨_,bA,_⟩:=hc.obj He _ h0;refine ate ho0 akI λfn l hl=> ?_;have hle:E.Le (E.add l V.ab):=E.qF l (λb o v h=>by rw[<- hc.I];exact h);have cN:(E.add l V.ab).blk s.H.length=l:=by rw[<- hc.n];exact E.dM l _
 have cO:Conc (E.add l V.ab) (V.upd l (.loop {state:=.ready,pending:=none,fn,tmps:=a.tmps,params:=ps,assign:=bM,body,defers:=E.blk df})) (s.H++[.loop l .ready none fn s.T nt ps bM body df]):=by
  refine hc.add hl _ ⟨⟨a.tmps,?_,ah.size,ah.tok.mono hle⟩,?_,λo=> ?_,?_⟩ (λb e=> ?_)
  ·rw[Env.dM,hle.blk df bA];simp[View.upd]
  ·show df<E.n+1;omega
  ·rw[Env.dM];exact hl.2 o
  ·exact Env.dM _ _ _
  ·simp only[bO,Env.dM,Tm]at e;exact e.symm
 have ak1:=ap.ev ah.tok hf;have Db:=h l fn (E.add l V.ab) (V.upd l (.loop {state:=.ready,pending:=none,fn,tmps:=a.tmps,params:=ps,assign:=bM,body,defers:=E.blk df})) (a.eval f) #[.func (.yield l) #[] #[]] cO (ak1.mono hle) ⟨rfl,λi x hx=>by
  match i,hx with
  |0,hx=>cases hx;exact .fn rfl rfl (by simp) (by simp)⟩
 have key:∀o V',gW (E.add l V.ab) (V.upd l (.loop {state:=.ready,pending:=none,fn,tmps:=a.tmps,params:=ps,assign:=bM,body,defers:=E.blk df}))
   (λ_ H'=>∃st pe fA T' jn gC gh fh gn,H'[s.H.length]?=some (.loop l st pe fA T' jn gC gh fh gn)/\st≠ .busy/\um Φ ⟨s.T,H'.set s.H.length .gone⟩ pe)
   (λpv H'=>Φ (.panic pv) ⟨s.T,H'⟩) o V'->xE l Q a o V':=by
  intro o V' hr;cases o with
  |ret v=>
   obtain⟨av,E',H',hE,ce,eT,_,bi,st,pe,fA,T',jn,gC,gh,fh,gn,bX,aR,hp⟩:=hr;obtain⟨dI,nw,qO,ba,Mp,th,tN⟩:=bi.zq bX;refine⟨_,ba,nw,aR,?_⟩;have hg:Conc E' (V'.upd l (.loop {state:=.exhausted,pending:=pe,fn:=fA,tmps:=qO,params:=gC,assign:=gh,body:=fh,defers:=E'.blk gn})) (H'.set s.H.length .gone):=bi.Ev _ bX _ (by simp only[bO,dI]);have aT:At E' (V'.upd l (.loop {state:=.exhausted,pending:=pe,fn:=fA,tmps:=qO,params:=gC,assign:=gh,body:=fh,defers:=E'.blk gn})) ⟨s.T,H'.set s.H.length .gone⟩ a nt:=⟨hg,ah.tok.mono (hle.trans hE),ah.size⟩;have ep:Kept E E' V (V'.upd l (.loop {state:=.exhausted,pending:=pe,fn:=fA,tmps:=qO,params:=gC,assign:=gh,body:=fh,defers:=E'.blk gn})) a a:=⟨hle.trans hE,rfl,rfl,ce,eT⟩;dsimp only
   match pe,hp,aT,ep with
   |none,hp,aT,ep=>exact hQ .normal .normal E' _ _ _ ep aT trivial hp
   |some .ret,hp,aT,ep=>exact hQ .ret .ret E' _ _ _ ep aT trivial hp
   |some (.exit i),hp,aT,ep=>exact hQ (.exit i) (.exit i) E' _ _ _ ep aT rfl hp
   |some (.goto i),hp,aT,ep=>exact hQ (.goto i) (.goto i) E' _ _ _ ep aT rfl hp
  |panic ch=>
   obtain⟨pv,v,E',H',rfl,hE,ce,eT,bk,bi,hp⟩:=hr;exact hQ (.panic pv) (.panic _) E' V' a ⟨s.T,H'⟩ ⟨hle.trans hE,rfl,rfl,ce,eT⟩ ⟨bi,ah.tok.mono (hle.trans hE),ah.size⟩ ⟨v,rfl,bk⟩ hp
 exact Db.mono (λnx V' hn=>Nx.mono key hn) (λv V' hr=>key _ _ hr)
def xJ (P:SI)(fn:YH)(R:Out->View->Prop):List U2->Vf->Array SP->View->Prop
 |[],.returning,tmps,V=>∃v,aQ P V (results fn tmps) (λx V'=>x=v/\V'=V) (λ_ _=>False)/\R (.ret v) V
 |[],.panicking ch,_,V=>R (.panic ch) V
 |d::ds,md,tmps,V=>(md matches .run)=false/\∃b,d={target:=.collected b,args:=#[]}/\V.own b=some (.deferred (some []))/\V.role.chan≠some b/\xJ P fn R ds md tmps (V.upd b (.deferred none))
 |[],.run,_,_=>False
theorem Ix{f:TQ}{fn:YH}{kd:Xi}{R:Out->View->Prop}(hf:P.funcs[f]?=some fn){main:Bool}{J:View->SG->Prop}(C:Closed lv P main J){cs:List Uc}(hR:∀o V' CK,R o V'->Leaves P CK f kd o V'->J V' (G CK cs)):∀(ds:List U2)(md:Vf)(V:View)(fr:Uc),fr.fn=f->fr.kind=kd->fr.mode=md->fr.defers=ds->xJ P fn R ds md fr.tmps V->J V (G fr cs)
 |[],.returning,V,fr,h1,h2,h3,h4,h=>by
  obtain⟨v,hs,hr⟩:=h;exact hR _ _ _ hr ⟨h1,h4,h2,fn,hf,h3,hs⟩
 |[],.panicking ch,V,fr,h1,h2,h3,h4,h=>hR _ _ _ h ⟨h1,h4,h2,fn,hf,h3⟩
 |[],.run,_,_,_,_,_,_,h=>h.elim
 |d::ds,md,V,fr,h1,h2,h3,h4,h=>by
  obtain⟨hm,b,rfl,ho,eS,hu⟩:=h;refine C.step _ _ rfl λw hw=> ?_;obtain⟨es,w',V',k1,k2,k3⟩:=(Oh (P:=P) ho eS).runs hw;rcases k3 with⟨x,k3,rfl,rfl⟩|⟨_,_,hx⟩
  ·refine⟨G {fr with defers:=ds} cs,w',seen P fr.fn es,_,?_,k1.seen P fr.fn,?_⟩
   ·have e:∀main,stepG P main (G fr cs) w=unwind P main fr cs none w:=λmain=>by
     cases md with
     |run=>cases hm
     |returning=>simp[G,stepG,h3]
     |panicking ch=>simp[G,stepG,h3]
    rw[e];simp only[unwind,h4];simp[TB,k3,k2,T6,G]
   ·exact Ix hf C hR ds md _ {fr with defers:=ds} h1 h2 h3 rfl hu
  ·exact hx.elim
def aeC (P:SI)(fn:YH)(R:Out->View->Prop):Ex->Act->View->Prop
 |.normal,a,V|.ret,a,V=>xJ P fn R a.defers .returning a.tmps V
 |.panic ch,a,V=>xJ P fn R a.defers (.panicking ch) a.tmps V
 |_,_,_=>False
theorem agX{f:TQ}{fn:YH}{c:T7}{args:Array SP}{kd:Xi}{V:View}{R:Out->View->Prop}(hk:kd≠ .early)(hf:P.funcs[f]?=some fn)(hb:fn.body=some c)
  (h:WP lv P none c (aeC P fn R) {tmps:=args++TN (fn.ntmps-args.size) undef,defers:=[]} V):Body lv P f args kd V R:=by
 intro main J C cs hR;let b:Uc:={(default:Uc)with fn:=f,kind:=kd,roundOf:=none};have uM:Frame.enter P f args kd=on b {tmps:=args++TN (fn.ntmps-args.size) undef,defers:=[]} [.code c]:=by
  simp[Frame.enter,on,hf,hb,b]
 rw[uM];refine h main J C b [] cs hk rfl λe a' V' q=> ?_;cases e with
 |normal=>exact C.idle rfl (λw=>Er rfl) (Ix hf C hR _ _ _ _ rfl rfl rfl rfl q)
 |ret=>intro k;exact C.idle rfl (λw=>Es rfl) (Ix hf C hR _ _ _ _ rfl rfl rfl rfl q)
 |panic ch=>intro todo _;exact Ix hf C hR _ _ _ _ rfl rfl rfl rfl q
 |exit id=>exact q.elim
 |goto l=>exact q.elim
def iP:List Nat->List aa->Option (List aa)
 |[],H=>some H
 |i::ms,H=>match H[i]?with
  |some (.obj (.deferred (some [])))=>iP ms (H.set i .gone)
  |_=>none
def sH (P:SI)(rs:List UQ)(n:Nat)(k kp:AV->List aa->Prop):an->AS->List Nat->Prop
 |.normal,s,ms|.ret,s,ms=>ao (iP ms s.H) λH'=>ao (ie P ⟨s.T,H'⟩ rs) λl=>cF n H' (i_ l) k
 |.panic pv,s,ms=>ao (iP ms s.H) λH'=>cF n H' pv kp
 |_,_,_=>False
theorem OH{fn:YH}{R:Out->View->Prop}{tmps:Array SP}{md:Vf}(hm:(md matches .run)=false):∀(ms:List Nat)(H H':List aa)(E:Env)(V:View)(l:List U2),iP ms H=some H'->Conc E V H->Marks E ms l->(∀V',V'.role=V.role->V'.deaf=V.deaf->Conc E V' H'->xJ P fn R [] md tmps V')->xJ P fn R l md tmps V
 |[],H,H',E,V,l,hg,hc,nC,hk=>by
  cases hg;have:l=[]:=nC.1;subst this;exact hk V rfl rfl hc
 |i::ms,H,H',E,V,l,hg,hc,nC,hk=>by
  simp only[iP]at hg;split at hg
  ·rename_i hi;obtain⟨e,hlt⟩:=nC;simp only[UP]at e;subst e;obtain⟨p1,p2,p3,p4⟩:=hc.obj i _ hi;exact⟨hm,_,rfl,p1,(hc.jm hi rfl).2,OH hm ms _ H' E _ _ hg (hc.Ev _ hi _ rfl) ⟨rfl,λj hj=>hlt j (by simp[hj])⟩ λV' h1 h2 h3=>hk V' h1 h2 h3⟩
  ·cases hg
theorem Rn{f:TQ}{fn:YH}{c:T7}{rs:List UQ}{nt:Nat}{H:List aa}{args:List AV}{k kp:AV->List aa->Prop}(hf:P.funcs[f]?=some fn)(hb:fn.body=some c)(hr:fn.results=rs.toArray)(hn:fn.ntmps=nt)(cM:args.length<=nt)
  (h:bH H->(∀a∈args,Lt H.length a)->mz lv P nt c ⟨bt 0 args,H⟩ [] (sH P rs H.length k kp)):bf lv P f H args k kp:=by
 intro E V vs hc hd;have hlt:∀a∈args,Lt H.length a:=λa ha=>by
  obtain⟨i,hi⟩:=pM ha;rw[<- hc.n];exact(hd.2 i a hi).lt
 have ah:=Ct (nt:=nt) hc hd cM;refine agX (by simp) hf hb ?_;rw[hn];refine h hc.aq hlt E V _ _ ah ⟨rfl,by simp⟩ λae e E' V' a' s' cD hk aT fW he hΦ=> ?_;have fin:sH P rs H.length k kp .ret s' cD->xJ P fn (gW E V k kp) a'.defers .returning a'.tmps V':=λhΦ=>by
  obtain⟨H',hg,hΦ⟩:=ao.out hΦ;exact OH rfl cD _ H' E' V' _ hg aT.bu fW λaS h1 h2 h3=>acQ (s':=⟨s'.T,H'⟩) (a':=a') hr ⟨h3,aT.tok,aT.size⟩ hk.le hc.n (h1.trans hk.role) (h2.trans hk.deaf) hΦ
 cases ae<;>cases e<;>first
  |exact he.elim
  |exact fin hΦ
  |exact hΦ.elim
  |skip
 rename_i pv ch;obtain⟨v,eS,bk⟩:∃v,ch=[{v,recovered:=false}]/\ap E' pv v:=he;subst eS;obtain⟨H',hg,hΦ⟩:=ao.out hΦ;refine OH rfl cD _ H' E' V' _ hg aT.bu fW λaS h1 h2 h3=> ?_;obtain⟨b,bS,ui,r1,r2,r3,r4⟩:=xX hΦ h3 bk hk.le hc.n;exact⟨b,v,bS,ui,rfl,r1,h1.trans hk.role,h2.trans hk.deaf,r2,r3,r4⟩
end
def Env.frame (E:Env)(f:Nat->Option Obj):Env:={E with fr:=f}
theorem ap.frame{E:Env}{a:AV}{v:SP}(h:ap E a v)(f:Nat->Option Obj):ap (E.frame f) a v:=by
 induction h with
 |val x=>exact .val x
 |agg hs _ ih=>exact .agg hs ih
 |aN hs _ ih=>exact .aN hs ih
 |sl b o cap g hc he h1 _ ih=>exact .sl b o cap g hc (by cases kg:‹End›<;>(subst kg;exact he)) h1 ih
 |nil he=>exact .nil (by cases kg:‹End›<;>(subst kg;exact he))
 |bp hi dR=>exact .bp (E:=E.frame f) hi dR
 |rp b o g h1 _ ih=>exact .rp b o g h1 ih
 |op hi=>exact .op (E:=E.frame f) hi
 |fn dL fX _ _ mN lm=>exact .fn dL fX mN lm
 |da _ ih=>exact .da ih
 |mp hi=>exact .mp (E:=E.frame f) hi
theorem cJ.frame{E:Env}{l:List AV}{cs:Array SP}(h:cJ E l cs)(f:Nat->Option Obj):cJ (E.frame f) l cs:=⟨h.1,λi a e=>(h.2 i a e).frame f⟩
theorem j4.frame{E:Env}{l:List AV}{cs:Array SP}(h:j4 E l cs)(f:Nat->Option Obj):j4 (E.frame f) l cs:=⟨h.1,λi a e=>(h.2 i a e).frame f⟩
theorem cg.frame{E:Env}{T:List (Nat×AV)}{tmps:Array SP}(h:cg E T tmps)(f:Nat->Option Obj):cg (E.frame f) T tmps:=λt a e=>⟨(h t a e).1,(h t a e).2.frame f⟩
theorem v7(E:Env)(f:Nat->Option Obj)(k:Nat)(x:aa):bO (E.frame f) k x=bO E k x:=by cases x<;>rfl
theorem fN.frame{E:Env}{V:View}{k:Nat}{x:aa}(h:fN E V k x)(f:Nat->Option Obj):fN (E.frame f) V k x:=by
 cases x with
 |cells l el=>obtain⟨⟨cs,h1,h2⟩,h3⟩:=h;exact⟨⟨cs,h1,h2.frame f⟩,h3⟩
 |part p l el=>obtain⟨⟨cs,h1,h2,h4⟩,h3⟩:=h;exact⟨⟨cs,h1,h2.frame f,h4⟩,h3⟩
 |own sz l el=>obtain⟨⟨cs,h1,h2,h4⟩,h3⟩:=h;exact⟨⟨cs,h1,h2.frame f,h4⟩,h3⟩
 |tail n sz el=>exact h
 |obj x=>exact h
 |iter=>exact h
 |loop=>obtain⟨⟨tmps,h1,h2,h3⟩,h4,h5⟩:=h;exact⟨⟨tmps,h1,h2,h3.frame f⟩,h4,h5⟩
 |gone=>trivial
 |main=>exact h
theorem Conc.zi{E:Env}{V V':View}{H:List aa}(h:Conc E V H)(f:Nat->Option Obj)(hI:V'.ab=V.ab)
  (ho:∀b x k y,H[k]?=some y->bO E k y=some b->V.own b=some x->V'.own b=some x)
  (hg:∀g,V'.role.group=some g->V'.own g≠none/\(∀o,V'.ab g o=none)/\∀(k:Nat) x,H[k]?=some x->bO E k x≠some g)
  (hc:∀g,V'.role.chan=some g->V'.own g≠none/\(∀o,V'.ab g o=none)/\∀(k:Nat) x,H[k]?=some x->bO E k x≠some g)
  (ht:E.main=true->V'.role=.plain/\V'.deaf=0) (hf:∀b y,f b=some y->V'.own b=some y/\(∀o,V'.ab b o=none)/\∀(k:Nat) x,H[k]?=some x->bO E k x≠some b):Conc (E.frame f) V' H:=by
 have hlt:∀(k:Nat) y,H[k]?=some y->k<E.n:=λk y e=>by rw[h.n];exact(SL.1 e).1
 refine⟨by rw[hI];exact h.I,h.n,λk x e=>fN.frame ((h.obj k x e).mono (Env.Le.refl E) (hlt k x e) rfl (λb y hb hy=>ho b y k x e hb hy) (λb _ o=>by rw[hI])) f,λi j x y b h1 h2 h3 h4=> ?_,λg e=> ?_,λg e=> ?_,ht,λb y e=> ?_⟩
 ·rw[v7]at h3 h4;exact h.inj i j x y b h1 h2 h3 h4
 ·obtain⟨a,b,c⟩:=hg g e;exact⟨a,b,λk x e=>by rw[v7];exact c k x e⟩
 ·obtain⟨a,b,c⟩:=hc g e;exact⟨a,b,λk x e=>by rw[v7];exact c k x e⟩
 ·obtain⟨a,b',c⟩:=hf b y e;exact⟨a,b',λk x e=>by rw[v7];exact c k x e⟩
theorem Conc.Ef{E:Env}{V:View}{H:List aa}(h:Conc E V H){b:Nat}{x:Obj}(hb:E.fr b=some x){k:Nat}{y:aa}(hk:H[k]?=some y){b':Nat}(dI:bO E k y=some b'):b'≠b:=λe=>by subst e;exact(h.fr _ x hb).2.2 k y hk dI
theorem Conc.aj1{E:Env}{V:View}{H:List aa}(h:Conc E V H){b:Nat}{x:Obj}(hb:E.fr b=some x)(y:Obj):Conc (E.frame λb'=>if b'=b then some y else E.fr b') (V.upd b y) H:=by
 obtain⟨p1,p2,p3⟩:=h.fr b x hb;refine h.zi _ rfl (λb' z k w hk kE hz=> ?_) (λg hg=> ?_) (λg hg=> ?_) h.top (λb' z hz=> ?_)
 ·have:b'≠b:=h.Ef hb hk kE;simpa[View.upd,this]using hz
 ·obtain⟨q1,q2,q3⟩:=h.group g hg;refine⟨?_,q2,q3⟩;simp only[View.upd];split
  ·simp
  ·exact q1
 ·obtain⟨q1,q2,q3⟩:=h.chan g hg;refine⟨?_,q2,q3⟩;simp only[View.upd];split
  ·simp
  ·exact q1
 ·by_cases e:b'=b
  ·subst e;rw[if_pos rfl]at hz;cases hz;exact⟨by simp[View.upd],p2,p3⟩
  ·rw[if_neg e]at hz;obtain⟨q1,q2,q3⟩:=h.fr b' z hz;exact⟨by simpa[View.upd,e]using q1,q2,q3⟩
theorem Conc.ajZ{E:Env}{V:View}{H:List aa}(h:Conc E V H){b:Nat}(hb:V.fresh b)(y:Obj):Conc (E.frame λb'=>if b'=b then some y else E.fr b') (V.upd b y) H:=by
 have aF:∀(k:Nat) x,H[k]?=some x->bO E k x≠some b:=λk x hk e=>by
  obtain⟨z,hz⟩:=(h.obj k x hk).Cw e;rw[hb.1]at hz;cases hz
 refine h.zi _ rfl (λb' z k w hk kE hz=> ?_) (λg hg=> ?_) (λg hg=> ?_) h.top (λb' z hz=> ?_)
 ·have:b'≠b:=λe=>by subst e;exact aF k w hk kE
  simpa[View.upd,this]using hz
 ·obtain⟨q1,q2,q3⟩:=h.group g hg;refine⟨?_,q2,q3⟩;simp only[View.upd];split
  ·simp
  ·exact q1
 ·obtain⟨q1,q2,q3⟩:=h.chan g hg;refine⟨?_,q2,q3⟩;simp only[View.upd];split
  ·simp
  ·exact q1
 ·by_cases e:b'=b
  ·subst e;rw[if_pos rfl]at hz;cases hz;exact⟨by simp[View.upd],hb.2,aF⟩
  ·rw[if_neg e]at hz;obtain⟨q1,q2,q3⟩:=h.fr b' z hz;exact⟨by simpa[View.upd,e]using q1,q2,q3⟩
theorem Conc.aj0{E:Env}{V:View}{H:List aa}(h:Conc E V H){id:Nat}{l:List AV}{el:TypeId}(hk:H[id]?=some (.cells l el)):∃cs,cJ E l cs/\V.own (E.blk id)=some (.cells cs el (0,0))/\(∀o,V.ab (E.blk id) o=none)/\
  Conc (E.frame λb'=>if b'=E.blk id then some (.cells cs el (0,0))else E.fr b') V (H.set id .gone):=by
 obtain⟨⟨cs,h1,h2⟩,h3⟩:=h.obj id _ hk;refine⟨cs,h2,h1,h3,?_⟩;have hg:Conc E V (H.set id .gone):=by
  refine h.iN id .gone (Env.Le.refl E) h.I (by simpa using h.n) ln rfl (λ_ _ _=>rfl) (λb y _ hy=>⟨hy,λ_=>rfl⟩) trivial (λb e=>by cases e)
 have aF:∀(k:Nat) x,(H.set id .gone)[k]?=some x->bO E k x≠some (E.blk id):=λk x hx e=>by
  rcases ln k x hx with⟨rfl,rfl⟩|⟨aF,hx⟩
  ·cases e
  ·exact aF (h.inj k id x _ _ hx hk e rfl)
 refine hg.zi _ rfl (λ_ _ _ _ _ _ hz=>hz) hg.group hg.chan h.top (λb' z hz=> ?_);by_cases e:b'=E.blk id
 ·subst e;rw[if_pos rfl]at hz;cases hz;exact⟨h1,h3,aF⟩
 ·rw[if_neg e]at hz;exact hg.fr b' z hz
theorem Conc.HX{E:Env}{V:View}{H:List aa}(h:Conc E V H){id:Nat}{l:List AV}{el:TypeId}(hk:H[id]?=some (.cells l el))(p:Nat)(hp:p<=l.length):∃V',dU V V'/\V'.own=V.own/\V'.role=V.role/\V'.deaf=V.deaf/\E.Le {E with I:=V'.ab}/\Conc {E with I:=V'.ab} V' (H.set id (.part p l el))/\
  ap {E with I:=V'.ab} (.rp (l.take p)) (.pointer (some ⟨E.blk id,0,none⟩)):=by
 obtain⟨⟨cs,h1,h2⟩,h3⟩:=h.obj id _ hk;let V':=V.eI (E.blk id) cs λo=>decide (o<p);have k_:∀b o,b≠E.blk id->V'.ab b o=V.ab b o:=λb o hb=>by simp[V',View.eI,hb]
 have cK:∀o,o<p->V'.ab (E.blk id) o=cs[o]?:=λo ho=>by simp[V',View.eI,ho]
 have alI:∀o,p<=o->V'.ab (E.blk id) o=none:=λo ho=>by simp[V',View.eI,Nat.not_lt.2 ho,h3]
 have hle:E.Le {E with I:=V'.ab}:=⟨λb o v e=>by
  rw[h.I]at e;have hb:b≠E.blk id:=λhb=>by subst hb;rw[h3]at e;cases e
  show V'.ab b o=some v;rw[k_ b o hb];exact e,SO _,λ_ _=>rfl,λ_ _=>SO _,λ_ _ _ _=>rfl,rfl,rfl⟩
 refine⟨V',yb h1 (λo _=>h3 o),rfl,rfl,rfl,hle,?_,?_⟩
 ·refine h.iN (E':={E with I:=V'.ab}) id (.part p l el) hle rfl (by simpa using h.n) ln rfl (λ_ _ _=>rfl) (λb y hb hy=>⟨hy,λo=>k_ b o λe=>hb _ hk (by rw[e];rfl)⟩) ⟨⟨cs,h1,(h2.mono hle).p,cK⟩,alI⟩ (λb e=> .inl ⟨_,hk,e⟩)
 ·refine .rp (E.blk id) 0 (λi=>cs.getD i undef) (λi hi=> ?_) λi x hx=> ?_
  ·have cC:i<p:=(by simp at hi;omega);rw[Wx];show V'.ab (E.blk id) i=_;rw[cK i cC];have:i<cs.size:=(by have:=h2.1;omega);simp[SH,SJ this]
  ·rw[Uf]at hx;split at hx
   ·exact(h2.2 i x hx).mono hle
   ·cases hx
theorem Conc.anm{E:Env}{V V':View}{H:List aa}(h:Conc E V H)(ho:V'.own=V.own)(k_:∀b o v,V.ab b o=some v->V'.ab b o=some v)(ew:∀b o,V.own b≠none->V.ab b o=none->V'.ab b o=none)
  (hg:V'.role.group=none) (hc:V'.role.chan=none) (ht:E.main=true->V'.role=.plain/\V'.deaf=0):E.Le {E with I:=V'.ab}/\Conc {E with I:=V'.ab} V' H:=by
 have hle:E.Le {E with I:=V'.ab}:=⟨λb o v e=>by rw[h.I]at e;exact k_ b o v e,SO _,λ_ _=>rfl,λ_ _=>SO _,λ_ _ _ _=>rfl,rfl,rfl⟩;have hlt:∀(k:Nat) y,H[k]?=some y->k<E.n:=λk y e=>by rw[h.n];exact(SL.1 e).1
 have key:∀b o,V.own b≠none->V'.ab b o=V.ab b o:=λb o hb=>by
  cases e:V.ab b o with
  |none=>exact ew b o hb e
  |some v=>exact k_ b o v e
 refine⟨hle,rfl,h.n,λk x e=>(h.obj k x e).mono hle (hlt k x e) rfl (λb y _ hy=>by rw[ho];exact hy) (λb hb o=> ?_),h.inj,λg e=>(by rw[hg]at e;cases e),λg e=>(by rw[hc]at e;cases e),ht,λb y e=> ?_⟩
 ·obtain⟨y,hy⟩:=(h.obj k x e).Cw hb;exact key b o (by rw[hy];simp)
 ·obtain⟨q1,q2,q3⟩:=h.fr b y e;exact⟨by rw[ho];exact q1,λo=>by rw[key b o (by rw[q1];simp)];exact q2 o,q3⟩
section
variable {lv:Bool}{P:SI}{nt id:Nat}{ops:Array Tu}{s:AS}{E:Env}{V:View}{a:Act}{Q:Ex->Act->View->Prop}{K:AS->Prop}
theorem IC(n m:Nat)(hn:ops.size=n+m)(dt:jT nt ops=true)(ah:At E V s a nt)(h:iC lv P ops (ops.toList.take n) s K (λ_ _=>False))
  (hk:∀E' V' a' s',Kept E E' V V' a a'->At E' V' s' a' nt->K s'->dp lv P none ops Q (T9 n m) a' V'):WP lv P none (.region id ops false) Q a V:=by
 refine wp_region ?_;have hr:SU ops.size=T9 0 n++T9 n m:=by
  have:=Y' (s:=0) (m:=n) (n:=m);rw[Vs,hn,<- this];simp
 rw[hr];refine BP _ _ _ (HK (r:=none) (Φ:=λe s'=>match e with
  |.normal=>K s'
  |_=>False) (λo ho d e=>(jT.out dt ho).1 d e) rfl n 0 s (by omega) (by simpa using h) E V a _ ah λae e E' V' a' s' aI aT he hΦ=> ?_)
 cases ae<;>cases e<;>first
  |exact he.elim
  |exact hΦ.elim
  |exact hk E' V' a' s' aI aT hΦ
theorem OX{n:Nat}{o:Tu}(ho:ops[n]?=some o)(hg:o.guard=none)(h:vV lv P o a V λa' V'=>Q .normal a' V'):dp lv P none ops Q (T9 n 1) a V:=by
 simp only[List.range'_one,dp,ho];rw[if_pos (by unfold Ti;rw[hg])];exact .inr h
end
section
variable {lv main:Bool}{P:SI}{J:View->SG->Prop}
theorem aeh(C:Closed lv P main J){V:View}{fr:Uc}{cs:List Uc}{g:TQ}{ca aE:Array SP}{ds:List U2}(hd:fr.defers=⟨.fn (.func g) ca,aE⟩::ds)(hm:(fr.mode matches .run)=false)(hg:qR P g=true)
  (h:J V (G (Frame.enter P g (aE++ca) .deferred) ({fr with defers:=ds}::cs))):J V (G fr cs):=by
 refine C.step _ _ rfl λw hw=> ?_;have hs:aQ P V (invoke (.fn (.func g) ca) aE) (λnx V'=>nx=.enter g (aE++ca)/\V'=V) (λ_ _=>False):=by
  unfold invoke;exact Od hg ⟨rfl,rfl⟩
 obtain⟨es,w',V',k1,k2,k3⟩:=hs.runs hw;rcases k3 with⟨nx,k3,rfl,rfl⟩|⟨_,_,h⟩
 ·refine⟨G (Frame.enter P g (aE++ca) .deferred) ({fr with defers:=ds}::cs),w',seen P fr.fn es,V',?_,k1.seen P fr.fn,h⟩;have e:stepG P main (G fr cs) w=unwind P main fr cs none w:=by
   obtain⟨fn,tmps,todo,defers,mode,kind,ro⟩:=fr;cases mode with
   |run=>cases hm
   |returning=>simp[G,stepG]
   |panicking ch=>simp[G,stepG]
  rw[e];simp only[unwind,hd];simp[callDeferred,TB,k3,k2,T6,G]
 ·exact h.elim
theorem ah2(C:Closed lv P main J){f:TQ}{fn:YH}{c:T7}{args:Array SP}{kd:Xi}{V:View}{cs:List Uc}{Q:Act->View->Prop}(hk:kd≠ .early)(hf:P.funcs[f]?=some fn)(hb:fn.body=some c)
  (h:WP lv P none c (λe a V=>(match e with|.normal|.ret=>True|_=>False)/\Q a V) {tmps:=args++TN (fn.ntmps-args.size) undef,defers:=[]} V)
  (hQ:∀a V todo,Q a V->J V (G {fn:=f,tmps:=a.tmps,todo,defers:=a.defers,mode:=.returning,kind:=kd,roundOf:=none} cs)):J V (G (Frame.enter P f args kd) cs):=by
 let b:Uc:={(default:Uc)with fn:=f,kind:=kd,roundOf:=none};have uM:Frame.enter P f args kd=on b {tmps:=args++TN (fn.ntmps-args.size) undef,defers:=[]} [.code c]:=by
  simp[Frame.enter,on,hf,hb,b]
 rw[uM];refine h main J C b [] cs hk rfl λe a' V' q=> ?_;cases e with
 |normal=>exact C.idle rfl (λw=>Er rfl) (hQ a' V' [] q.2)
 |ret=>intro k;exact C.idle rfl (λw=>Es rfl) (hQ a' V' (.code .ret::k) q.2)
 |panic ch=>exact q.1.elim
 |exit id=>exact q.1.elim
 |goto l=>exact q.1.elim
end
def Env.fe (E:Env)(m:Bool):Env:={E with main:=m}
theorem ap.fe{E:Env}{a:AV}{v:SP}(h:ap E a v)(m:Bool):ap (E.fe m) a v:=by
 induction h with
 |val x=>exact .val x
 |agg hs _ ih=>exact .agg hs ih
 |aN hs _ ih=>exact .aN hs ih
 |sl b o cap g hc he h1 _ ih=>exact .sl b o cap g hc (by cases kg:‹End›<;>(subst kg;exact he)) h1 ih
 |nil he=>exact .nil (by cases kg:‹End›<;>(subst kg;exact he))
 |bp hi dR=>exact .bp (E:=E.fe m) hi dR
 |rp b o g h1 _ ih=>exact .rp b o g h1 ih
 |op hi=>exact .op (E:=E.fe m) hi
 |fn dL fX _ _ mN lm=>exact .fn dL fX mN lm
 |da _ ih=>exact .da ih
 |mp hi=>exact .mp (E:=E.fe m) hi
theorem cJ.fe{E:Env}{l:List AV}{cs:Array SP}(h:cJ E l cs)(m:Bool):cJ (E.fe m) l cs:=⟨h.1,λi a e=>(h.2 i a e).fe m⟩
theorem j4.fe{E:Env}{l:List AV}{cs:Array SP}(h:j4 E l cs)(m:Bool):j4 (E.fe m) l cs:=⟨h.1,λi a e=>(h.2 i a e).fe m⟩
theorem cg.fe{E:Env}{T:List (Nat×AV)}{tmps:Array SP}(h:cg E T tmps)(m:Bool):cg (E.fe m) T tmps:=λt a e=>⟨(h t a e).1,(h t a e).2.fe m⟩
theorem v8(E:Env)(m:Bool)(k:Nat)(x:aa):bO (E.fe m) k x=bO E k x:=by cases x<;>rfl
theorem fN.fe{E:Env}{V:View}{k:Nat}{x:aa}(h:fN E V k x)(m:Bool)(hm:x=.main->m=true):fN (E.fe m) V k x:=by
 cases x with
 |cells l el=>obtain⟨⟨cs,h1,h2⟩,h3⟩:=h;exact⟨⟨cs,h1,h2.fe m⟩,h3⟩
 |part p l el=>obtain⟨⟨cs,h1,h2,h4⟩,h3⟩:=h;exact⟨⟨cs,h1,h2.fe m,h4⟩,h3⟩
 |own sz l el=>obtain⟨⟨cs,h1,h2,h4⟩,h3⟩:=h;exact⟨⟨cs,h1,h2.fe m,h4⟩,h3⟩
 |tail n sz el=>exact h
 |obj x=>exact h
 |iter=>exact h
 |loop=>obtain⟨⟨tmps,h1,h2,h3⟩,h4,h5⟩:=h;exact⟨⟨tmps,h1,h2,h3.fe m⟩,h4,h5⟩
 |gone=>trivial
 |main=>exact hm rfl
def strip:aa->aa
 |.main=> .gone
 |x=>x
theorem us(E:Env)(k:Nat)(x:aa):bO E k (strip x)=bO E k x:=by cases x<;>rfl
theorem Conc.ahu{E:Env}{V:View}{H:List aa}(h:Conc E V H):Conc (E.fe false) V (H.map strip):=by
 have get:∀(k:Nat) y,(H.map strip)[k]?=some y->∃x,H[k]?=some x/\strip x=y:=λk y e=>by
  rw[To]at e;obtain⟨x,e1,e2⟩:=Tq.1 e;exact⟨x,e1,e2⟩
 refine⟨h.I,by rw[S9];exact h.n,λk y e=> ?_,λi j x y b h1 h2 h3 h4=> ?_,λg hg=> ?_,λg hg=> ?_,(λe=>by cases e),λb y e=> ?_⟩
 ·obtain⟨x,hx,rfl⟩:=get k y e;have lJ:=h.obj k x hx;cases x<;>first
   |exact fN.fe lJ false (λe=>by cases e)
   |exact True.intro
 ·obtain⟨x',hx,rfl⟩:=get i x h1;obtain⟨y',hy,rfl⟩:=get j y h2;rw[v8,us]at h3 h4;exact h.inj i j x' y' b hx hy h3 h4
 ·obtain⟨a,b,c⟩:=h.group g hg;exact⟨a,b,λk y e=>by obtain⟨x,hx,rfl⟩:=get k y e;rw[v8,us];exact c k x hx⟩
 ·obtain⟨a,b,c⟩:=h.chan g hg;exact⟨a,b,λk y e=>by obtain⟨x,hx,rfl⟩:=get k y e;rw[v8,us];exact c k x hx⟩
 ·obtain⟨a,b',c⟩:=h.fr b y e;exact⟨a,b',λk y e=>by obtain⟨x,hx,rfl⟩:=get k y e;rw[v8,us];exact c k x hx⟩
theorem Conc.aqf{E:Env}{V:View}{H:List aa}(h:Conc E V (H.map strip))(m:Bool)(f:Nat->Option Obj)(hm:∀(k:Nat),H[k]?=some aa.main->m=true)(ht:m=true->V.role=.plain/\V.deaf=0)(hf:∀b y,f b=some y->E.fr b=some y):Conc ((E.fe m).frame f) V H:=by
 have get:∀(k:Nat) x,H[k]?=some x->(H.map strip)[k]?=some (strip x):=λk x e=>by rw[To,e];rfl
 refine⟨h.I,h.n.trans (by rw[S9]),λk x e=>fN.frame ?_ f,λi j x y b h1 h2 h3 h4=> ?_,λg hg=> ?_,λg hg=> ?_,ht,λb y e=> ?_⟩
 ·have lJ:=h.obj k _ (get k x e);cases x<;>first
   |exact fN.fe lJ m (λe=>by cases e)
   |exact hm k e
 ·rw[v7,v8]at h3 h4;exact h.inj i j _ _ b (get i x h1) (get j y h2) (by rw[us];exact h3) (by rw[us];exact h4)
 ·obtain⟨a,b,c⟩:=h.group g hg;exact⟨a,b,λk x e=>by rw[v7,v8,<- us];exact c k _ (get k x e)⟩
 ·obtain⟨a,b,c⟩:=h.chan g hg;exact⟨a,b,λk x e=>by rw[v7,v8,<- us];exact c k _ (get k x e)⟩
 ·obtain⟨a,b',c⟩:=h.fr b y (hf b y e);exact⟨a,b',λk x e=>by rw[v7,v8,<- us];exact c k _ (get k x e)⟩
section
variable {lv:Bool}{P:SI}{nt id:Nat}{ops:Array Tu}{s:AS}{E:Env}{V:View}{a:Act}{Q:Ex->Act->View->Prop}{N:Act->View->Prop}{o:Tu}
theorem aet(ho:ops[0]?=some o)(hg:o.guard=none)(h:B_ lv P none o a V (dp lv P none ops Q (T9 1 (ops.size-1))) Q):WP lv P none (.region id ops false) Q a V:=by
 refine wp_region ?_;have aV:0<ops.size:=(SR.1 ho).1;have Mh:SU ops.size=0::T9 1 (ops.size-1):=by
  rw[Vs];obtain⟨n,hn⟩:∃n,ops.size=n+1:=⟨ops.size-1,by omega⟩;rw[hn,VU];rfl
 rw[Mh];simp only[dp,ho];rw[if_pos (by unfold Ti;rw[hg])];exact h
theorem atg{k n:Nat}(ho:ops[k]?=some o)(hg:o.guard=none)(h:B_ lv P none o a V (dp lv P none ops Q (T9 (k+1) n)) Q):dp lv P none ops Q (T9 k (n+1)) a V:=by
 rw[VU];simp only[dp,ho];rw[if_pos (by unfold Ti;rw[hg])];exact h
theorem ath{k:Nat}(h:Q .normal a V):dp lv P none ops Q (T9 k 0) a V:=h
theorem OY{k n:Nat}(s3:AS)(hk:k+n=ops.size)(dt:jT nt ops=true)(ah:At E V s a nt)(h:iC lv P ops (ops.toList.drop k) s (λs'=>s'.Sub s3) (λ_ _=>False))(hQ:∀E' V' a',Kept E E' V V' a a'->At E' V' s3 a' nt->Q .normal a' V'):dp lv P none ops Q (T9 k n) a V:=by
 refine Bi (r:=none) (Φ:=λe s'=>match e with
  |.normal=>s'.Sub s3
  |_=>False) (λo ho d e=>(jT.out dt ho).1 d e) (λ_ _=> .inl rfl) n k s hk h E V a Q ah λae e E' V' a' s' aI aT he hΦ=> ?_
 cases ae<;>cases e<;>first
  |exact he.elim
  |exact hΦ.elim
  |exact hQ E' V' a' aI (aT.sub hΦ)
theorem aoI{c:Xt}{f:TQ}(ay:o.op=.call c)(aW:c.callee=.value (.func f))(hf:qR P f=true)(h:Body lv P f (c.args.map a.eval) .normal V (fun
  |.ret v,V'=>N (a.put o.dst v) V'
  |.panic _,_=>False)):B_ lv P none o a V N Q:=by
 refine .inl ⟨.inl rfl,?_⟩;unfold execOp;rw[ay];dsimp only;unfold resolve;rw[aW];dsimp only;have e:a.eval (.func f)=.func (.func f) #[] #[]:=rfl;rw[e];unfold U9;refine az (au ?_);unfold invoke;dsimp only;refine Od hf ?_;have e2:#[]++c.args.map a.eval++#[]=c.args.map a.eval:=by simp
 rw[e2];exact h.mono λo V' hx=>by
  cases o with
  |ret v=>exact hx
  |panic ch=>exact hx.elim
theorem aoJ{t el:TypeId}{d:ChanDir}{i:Wp}(ay:o.op=.makeChan t (.const (.int .i64 0)))(h1:P.underlying t=some (.chan d el))(h2:P.info? el=some i)(h:∀c,V.fresh c->N (a.put o.dst (.chan (some c))) (V.upd c (.chan 0 #[] false 0 0 false))):B_ lv P none o a V N Q:=by
 refine .inl ⟨.inl rfl,?_⟩;unfold execOp;rw[ay];dsimp only;have e:a.eval (.const (.int .i64 0))=.int .i64 0:=rfl;rw[e];unfold Instr.makeChan;refine az (az ?_);unfold asInt;refine au ?_;refine ee h1 ?_;dsimp only;refine zn h2 ?_;rw[if_neg (by simp[IntKind.max,auZ,auY])];refine az ?_;unfold newObj;exact oQ λc hf=>cI (au (au (h c hf)))
end
theorem atf{lv:Bool}{P:SI}{r:Option Nat}{code:T7}{Q:Ex->Act->View->Prop}{a:Act}{V:View}{c Wg:Nat}(tF:lv=true)(hr:V.role=.plain)(aF:c≠Wg)(hc:V.own c=some (.chan 0 #[] false 0 0 false)) (hW:V.own Wg≠none) (oy:∀o,V.ab Wg o=none)
  (h:WP lv P r code Q a {V with role:=.fork c Wg []}):WP lv P r code Q a V:=λmain J C b k cs hb ce hL=>
 (C.more tF).start _ _ c Wg hr aF hc hW oy (h main J C b k cs hb ce hL)
structure Env.Lo (E E':Env):Prop where
 I:∀b o v,E.I b o=some v->E'.I b o=some v
 n:E.n<=E'.n
 blk:∀k,k<E.n->E'.blk k=E.blk k
 fz:∀k,k<E.n->E.fz k<=E'.fz k
 room:∀k v,k<E.n->v<=E.fz k->E'.room k v=E.room k v
theorem Env.Le.lo{E E':Env}(h:E.Le E'):E.Lo E':=⟨h.I,h.n,h.blk,h.fz,h.room⟩
theorem Env.Lo.refl(E:Env):E.Lo E:=(Env.Le.refl E).lo
theorem Env.Lo.trans{E E' bS:Env}(h:E.Lo E')(k:E'.Lo bS):E.Lo bS:=
 ⟨λb o v e=>k.I b o v (h.I b o v e),UH h.n k.n,λi hi=>(k.blk i (Tf hi h.n)).trans (h.blk i hi),λi hi=>UH (h.fz i hi) (k.fz i (Tf hi h.n)),
  λi v hi hv=>(k.room i v (Tf hi h.n) (UH hv (h.fz i hi))).trans (h.room i v hi hv)⟩
theorem Env.Lo.le{E E':Env}(h:E.Lo E'):E.Le ((E'.fe E.main).frame E.fr):=⟨h.I,h.n,h.blk,h.fz,h.room,rfl,rfl⟩
theorem ap.lo{E E':Env}(h:E.Lo E'){a:AV}{v:SP}(d:ap E a v):ap E' a v:=by
 have:=((d.mono h.le).fe E'.main).frame E'.fr;exact this
theorem Env.Hu(E:Env)(f:Nat->Option Obj):E.Lo (E.frame f):=⟨λ_ _ _ h=>h,SO _,λ_ _=>rfl,λ_ _=>SO _,λ_ _ _ _=>rfl⟩
theorem Env.anE(E:Env)(m:Bool):E.Lo (E.fe m):=⟨λ_ _ _ h=>h,SO _,λ_ _=>rfl,λ_ _=>SO _,λ_ _ _ _=>rfl⟩
theorem Env.Lo.cut{E E':Env}(h:E.Lo E'){n:Nat}(hn:E.n<=n):E.Lo {E' with n:=n}:=⟨h.I,hn,h.blk,h.fz,h.room⟩
def Env.bare (E:Env):Env:=((({E with n:=0}:Env).fe false).frame λ_=>none)
theorem ap.bare{E:Env}{a:AV}{v:SP}(h:ap E a v)(hl:Lt 0 a):ap E.bare a v:=((h.trim hl).fe false).frame _
theorem ahk{E:Env}{I:cx}{ro:mX}(hI:E.I=I)(hg:ro.group=none)(hc:ro.chan=none):Conc E.bare {ab:=I,own:=λ_=>none,deaf:=0,role:=ro} []:=
 ⟨hI,rfl,λk x e=>(by cases e),λi j x y b h1=>(by cases h1),λg e=>(by rw[hg]at e;cases e),λg e=>(by rw[hc]at e;cases e),λe=>(by cases e),λb y e=>(by cases e)⟩
theorem At.as4{E:Env}{V:View}{s:AS}{a:Act}{nt t id off:Nat}(h:At E V s a nt)(hl:look s.T t=some (.op id off)):a.eval (.tmp t)=.pointer (some ⟨E.blk id,off,none⟩):=by
 have hd:=(h.tok t _ hl).2;show a.tmps.getD t undef=_;generalize a.tmps.getD t undef=v at hd;cases hd;rfl
section
variable {lv:Bool}{P:SI}{s:AS}{ms:List Nat}{nt:Nat}
def an.p_ (id:Nat)(Φ:an->AS->List Nat->Prop):an->AS->List Nat->Prop
 |.exit i,s,ms=>if i=id then Φ .normal s ms else Φ (.exit i) s ms
 |e,s,ms=>Φ e s ms
theorem agp{id:Nat}{c:T7}{Φ:an->AS->List Nat->Prop}(h:mz lv P nt c s ms (an.p_ id Φ)):mz lv P nt (.block id c) s ms Φ:=by
 intro E V a Q ah hd hQ;refine wp_block (h E V a _ ah hd λae e E' V' a' s' cD hk aT cz he hΦ=> ?_);cases ae<;>cases e<;>first
  |exact he.elim
  |skip
 ·exact hQ .normal .normal E' V' a' s' cD hk aT cz trivial hΦ
 ·rename_i i j;have e:i=j:=he;subst e;by_cases bX:i=id
  ·simp only[Ex.inBlock,bX,if_true];simp only[an.p_,bX,if_true]at hΦ;exact hQ .normal _ E' V' a' s' cD hk aT cz trivial hΦ
  ·simp only[Ex.inBlock,bX,if_false];simp only[an.p_,bX,if_false]at hΦ;exact hQ (.exit i) _ E' V' a' s' cD hk aT cz rfl hΦ
 ·exact hQ _ _ E' V' a' s' cD hk aT cz he hΦ
 ·exact hQ _ _ E' V' a' s' cD hk aT cz he hΦ
 ·exact hQ _ _ E' V' a' s' cD hk aT cz he hΦ
def an.vI (Φ:an->AS->List Nat->Prop):an->AS->List Nat->Prop
 |.goto _,_,_=>False
 |e,s,ms=>Φ e s ms
theorem ags{c:T7}{Φ:an->AS->List Nat->Prop}(h:mz lv P nt c s ms (an.vI Φ)):mz lv P nt (.scope c) s ms Φ:=by
 intro E V a Q ah hd hQ;refine aeu (λ_ _ _ _=>False) ⟨0,h E V a _ ah hd λae e E' V' a' s' cD hk aT cz he hΦ=> ?_⟩ λ_ _ _ _ _ _ hf=>hf.elim;cases ae<;>cases e<;>first
  |exact he.elim
  |exact hΦ.elim
  |exact hQ _ _ E' V' a' s' cD hk aT cz he hΦ
theorem agL(id:Nat)(Φ:an->AS->List Nat->Prop)(s:AS)(ms:List Nat):an.p_ id Φ .normal s ms=Φ .normal s ms:=by rw[an.p_];simp
theorem arE(Φ:an->AS->List Nat->Prop)(s:AS)(ms:List Nat):an.vI Φ .normal s ms=Φ .normal s ms:=by rw[an.vI];simp
theorem arG(Φ:an->AS->List Nat->Prop)(s:AS)(ms:List Nat):an.vI Φ .ret s ms=Φ .ret s ms:=by rw[an.vI];simp
theorem asm(K:AS->List Nat->Prop)(Φ:an->AS->List Nat->Prop)(s:AS)(ms:List Nat):an.sw K Φ .normal s ms=K s ms:=by rw[an.sw]
theorem aso(K:AS->List Nat->Prop)(Φ:an->AS->List Nat->Prop)(s:AS)(ms:List Nat):an.sw K Φ .ret s ms=Φ .ret s ms:=by rw[an.sw];simp
@[congr] theorem at0 {c : T7} {s s' : AS} {ms cD : List Nat} {Φ : an -> AS -> List Nat -> Prop} (h : s = s') (hd : ms = cD) : mz lv P nt c s ms Φ = mz lv P nt c s' cD Φ := by rw [h, hd]
@[congr] theorem auO {K : AS -> List Nat -> Prop} {Φ : an -> AS -> List Nat -> Prop} {e e' : an} {s s' : AS} {ms cD : List Nat} (he : e = e') (h : s = s') (hd : ms = cD) : an.sw K Φ e s ms = an.sw K Φ e' s' cD := by rw [he, h, hd]
@[congr] theorem auL {Φ : an -> AS -> List Nat -> Prop} {e e' : an} {s s' : AS} {ms cD : List Nat} (he : e = e') (h : s = s') (hd : ms = cD) : an.vI Φ e s ms = an.vI Φ e' s' cD := by rw [he, h, hd]
@[congr] theorem auf {rs : List UQ} {n : Nat} {k kp : AV -> List aa -> Prop} {e e' : an} {s s' : AS} {ms cD : List Nat} (he : e = e') (h : s = s') (hd : ms = cD) : sH P rs n k kp e s ms = sH P rs n k kp e' s' cD := by rw [he, h, hd]
theorem ajP(rs:List UQ)(n:Nat)(k kp:AV->List aa->Prop)(s:AS)(ms:List Nat):sH P rs n k kp .ret s ms=ao (iP ms s.H) λH'=>ao (ie P ⟨s.T,H'⟩ rs) λl=>cF n H' (i_ l) k:=by rw[sH]
theorem Aq(H:List aa):iP [] H=some H:=by rw[iP]
theorem Ap{i:Nat}{ms:List Nat}{H:List aa}(h:H[i]?=some (.obj (.deferred (some [])))):iP (i::ms) H=iP ms (H.set i .gone):=by rw[iP];rw[h]
attribute [seval] agL arE arG asm aso ajP Aq
end
section
variable {lv:Bool}{P:SI}{r:Option Nat}{s:AS}
theorem Qv{E:Env}{I:cx}(hI:∀b o v,E.I b o=some v->I b o=some v){n:Nat}{l:List AV}{v:SP}(h:ap E (.sl n l .exact) v):∃a,ap (E.tok I (a,n) n) (.sl n l (.opn E.n)) v:=by
 cases h with
 |sl b o cap f dR he q1 q2=>
  have Gk:cap=n:=he;subst Gk;refine⟨some ⟨b,o,none⟩,?_⟩;have hle:=E.Nd (I:=I) hI (some ⟨b,o,none⟩,cap) cap;exact .sl b o cap f dR ⟨by simp[Env.tok],by simp[Env.tok],by simp[Env.tok]⟩ (λi hi=>hle.I _ _ _ (q1 i hi)) (λi x hx=>(q2 i x hx).mono hle)
 |nil he=>exact⟨_,.nil ⟨by simp[Env.tok],by simp[Env.tok],by simp[Env.tok];rfl⟩⟩
theorem v5{nt t n sz:Nat}{c:T7}{l:List AV}{el:TypeId}{Φ:an->AS->Prop}(ht:look s.T t=some (.sl n l .exact))(h:aP lv P r nt c ⟨(t,.sl n l (.opn s.H.length))::s.T,s.H++[.tail n sz el]⟩ Φ):aP lv P r nt c s Φ:=λE V a Q ah hQ=>by
 obtain⟨hlt,hd⟩:=ah.tok t _ ht;obtain⟨ad,cz⟩:=Qv (I:=V.ab) (λb o v h=>by rw[<- ah.bu.I];exact h) hd;obtain⟨hc,hle⟩:=ah.bu.OA (n:=n) sz el ad;refine h _ V a Q ⟨hc,λt' x hx=> ?_,ah.size⟩ λae e E' V' a' s' hk=>hQ ae e E' V' a' s' ((⟨hle,rfl,rfl,rfl,rfl⟩:Kept E _ V V a a).trans hk);simp only[look]at hx;split at hx
 ·rename_i e;subst e;cases hx;rw[<- ah.bu.n];exact⟨hlt,cz⟩
 ·exact⟨(ah.tok t' x hx).1,(ah.tok t' x hx).2.mono hle⟩
theorem Qw{E:Env}{l:List AV}{cs:Array SP}{j:Nat}{a b:AV}(h:cJ E l cs)(hj:l[j]?=some a)(hb:∀v,ap E a v->ap E b v):cJ E (l.set j b) cs:=by
 refine⟨by rw[TF];exact h.1,λi x hx=> ?_⟩;by_cases e:i=j
 ·subst e;rw[Xc (SL.1 hj).1]at hx;cases hx;exact hb _ (h.2 i a hj)
 ·rw[Ua (Ne.symm e)]at hx;exact h.2 i x hx
theorem agl{nt id j n sz:Nat}{c:T7}{l l':List AV}{el gX:TypeId}{Φ:an->AS->Prop}(bX:s.H[id]?=some (.cells l el))(hj:l[j]?=some (.sl n l' .exact))(h:aP lv P r nt c ⟨s.T,s.H.set id (.cells (l.set j (.sl n l' (.opn s.H.length))) el)++[aa.tail n sz gX]⟩ Φ):aP lv P r nt c s Φ:=λE V a Q ah hQ=>by
 have hc:=ah.bu;obtain⟨⟨cs,ew,hd⟩,k_⟩:=hc.obj id _ bX;obtain⟨ad,cz⟩:=Qv (I:=V.ab) (λb o v h=>by rw[<- hc.I];exact h) (hd.2 j _ hj);obtain⟨bi,hle⟩:=hc.OA (n:=n) sz gX ad;have hlt:=(SL.1 bX).1;have hn:(E.tok V.ab (ad,n) n).n=s.H.length+1:=by simp[Env.tok,hc.n]
 have e:s.H.set id (.cells (l.set j (.sl n l' (.opn s.H.length))) el)++[aa.tail n sz gX]=(s.H++[aa.tail n sz gX]).set id (.cells (l.set j (.sl n l' (.opn s.H.length))) el):=(UX _ _ hlt).symm;rw[e]at h;have Gp:cJ (E.tok V.ab (ad,n) n) (l.set j (.sl n l' (.opn s.H.length))) cs:=by
  have h0:=hd.mono hle;refine⟨by rw[TF];exact h0.1,λi x hx=> ?_⟩;by_cases ei:i=j
  ·subst ei;rw[Xc (SL.1 hj).1]at hx;cases hx;rw[<- hc.n];exact cz
  ·rw[Ua (Ne.symm ei)]at hx;exact h0.2 i x hx
 have hb:(E.tok V.ab (ad,n) n).blk id=E.blk id:=hle.blk id (by rw[hc.n];exact hlt);have cO:Conc (E.tok V.ab (ad,n) n) V ((s.H++[aa.tail n sz gX]).set id (.cells (l.set j (.sl n l' (.opn s.H.length))) el)):=by
  have c_:(s.H++[aa.tail n sz gX])[id]?=some (.cells l el):=by rw[SX hlt];exact bX
  refine bi.iN id _ (Env.Le.refl _) bi.I (by rw[bi.n,TF]) ln rfl (λ_ _ _=>rfl) (λb y _ hy=>⟨hy,λ_=>rfl⟩) ⟨⟨cs,by rw[hb];exact ew,Gp⟩,λo=>by rw[hb];exact k_ o⟩ (λb dI=> .inl ⟨_,c_,dI⟩)
 refine h _ V a Q ⟨cO,ah.tok.mono hle,ah.size⟩ λae e E' V' a' s' hk=>hQ ae e E' V' a' s' ((⟨hle,rfl,rfl,rfl,rfl⟩:Kept E _ V V a a).trans hk)
theorem agn{nt id j:Nat}{c:T7}{l:List AV}{x y:AV}{el:TypeId}{Φ:an->AS->Prop}(bX:s.H[id]?=some (.cells l el))(hj:l[j]?=some x)(hw:Wk x y)(h:aP lv P r nt c ⟨s.T,s.H.set id (.cells (l.set j y) el)⟩ Φ):aP lv P r nt c s Φ:=λE V a Q ah hQ=>by
 have hc:=ah.bu;obtain⟨⟨cs,ew,hd⟩,k_⟩:=hc.obj id _ bX;have cO:Conc E V (s.H.set id (.cells (l.set j y) el)):=
  hc.iN id _ (Env.Le.refl _) hc.I (by rw[hc.n,TF]) ln rfl (λ_ _ _=>rfl) (λb y _ hy=>⟨hy,λ_=>rfl⟩) ⟨⟨cs,ew,Qw hd hj (hw E)⟩,k_⟩ (λb dI=> .inl ⟨_,bX,dI⟩)
 exact h E V a Q ⟨cO,ah.tok,ah.size⟩ hQ
end
structure xC (X Y Z:Prop):Type where
 n:Nat
def UG (a:AV)(b8:Bool)(X Y Z:Prop)(_t:xC X Y Z):Prop:=(∃b,a=.val (.bool b)/\(b=b8->X)/\(b= !b8->Y))\/(a=.val undef/\Z)
theorem Iw{b b8:Bool}{X Y Z:Prop}{t:xC X Y Z}:UG (.val (.bool b)) b8 X Y Z t=((b=b8->X)/\(b= !b8->Y)):=by
 unfold UG;refine propext ⟨λh=> ?_,λh=> .inl ⟨b,rfl,h⟩⟩;rcases h with⟨b',e,h⟩|⟨e,_⟩
 ·cases e;exact h
 ·cases e
theorem asV(X Y Z:Prop)(t:xC X Y Z):UG (.val (.bool true)) true X Y Z t=X:=by rw[Iw];simp
theorem asU(X Y Z:Prop)(t:xC X Y Z):UG (.val (.bool true)) false X Y Z t=Y:=by rw[Iw];simp
theorem asT(X Y Z:Prop)(t:xC X Y Z):UG (.val (.bool false)) true X Y Z t=Y:=by rw[Iw];simp
theorem asS(X Y Z:Prop)(t:xC X Y Z):UG (.val (.bool false)) false X Y Z t=X:=by rw[Iw];simp
theorem asW(b8:Bool)(X Y Z:Prop)(t:xC X Y Z):UG (.val undef) b8 X Y Z t=Z:=by
 unfold UG;refine propext ⟨λh=> ?_,λh=> .inr ⟨rfl,h⟩⟩;rcases h with⟨b',e,_⟩|⟨_,h⟩
 ·cases e
 ·exact h
section
variable (lv:Bool)(P:SI)
def n_ (all:Array Tu):List Tu->AS->(AS->Prop)->(AV->AS->Prop)->Prop
 |[],s,next,_=>next s
 |o::rest,s,next,bad=>match o.guard with
  |none=>my lv P s o (λs'=>n_ all rest s' next bad) bad
  |some (j,b8)=>ao ((all[j]?).bind (·.dst)) λd=>ao (look s.T d) λa=>UG a b8 (my lv P ⟨(d,.val (.bool b8))::s.T,s.H⟩ o (λs'=>n_ all rest s' next bad) bad) (n_ all rest ((⟨(d,.val (.bool !b8))::s.T,s.H⟩:AS).put o.dst (.val undef)) next bad) (n_ all rest (s.put o.dst (.val undef)) next bad) ⟨0⟩
end
theorem asR:type_of% @n_.eq_1:=by intros;rw[n_.eq_1]
theorem asQ:type_of% @n_.eq_2:=by intros;rw[n_.eq_2]
@[congr] theorem auS {lv : Bool} {P : SI} {s s' : AS} {all : Array Tu} {l : List Tu} {next : AS -> Prop} {bad : AV -> AS -> Prop} (h : s = s') : n_ lv P all l s next bad = n_ lv P all l s' next bad := by rw [h]
attribute [seval] asR asQ asV asU asT asS asW
section
variable {lv:Bool}{P:SI}{r:Option Nat}{s:AS}
theorem Iy{nt:Nat}{all:Array Tu}{Φ:an->AS->Prop}(dt:∀o∈all,∀d,o.dst=some d->d<nt)(ny:∀o∈all,r=none\/mi o.op=false):∀(n k:Nat)(s:AS),k+n=all.size->n_ lv P all (all.toList.drop k) s (Φ .normal) (λpv s=>Φ (.panic pv) s)->
  ∀(E:Env)(V:View)(a:Act)(Q:Ex->Act->View->Prop),At E V s a nt->(∀ae e E' V' a' s',Kept E E' V V' a a'->At E' V' s' a' nt->pV E' ae e->Φ ae s'->Q e a' V')->dp lv P r all Q (T9 k n) a V
 |0,k,s,hk,h,E,V,a,Q,ah,hQ=>by
  have:all.toList.drop k=[]:=by simp;omega
  rw[this]at h;exact hQ .normal .normal E V a s (Kept.refl E V a) ah trivial h
 |n+1,k,s,hk,h,E,V,a,Q,ah,hQ=>by
  have hlt:k<all.size:=by omega
  have hd:all.toList.drop k=all[k]::all.toList.drop (k+1):=by
   rw[TL (by simpa using hlt)];simp
  rw[hd]at h;have fF:all[k]∈all:=XX hlt;have ho:all[k]?=some all[k]:=SJ hlt;simp only[VU,dp,ho];have go:∀s:AS,At E V s a nt->my lv P s all[k] (λs'=>n_ lv P all (all.toList.drop (k+1)) s' (Φ .normal) (λpv s=>Φ (.panic pv) s)) (λpv s=>Φ (.panic pv) s)->xD lv P r all[k] a V (dp lv P r all Q (T9 (k+1) n)) Q:=λs ah h=>by
   refine h.sound (lv:=lv) (r:=r) E V a _ Q ah.bu ah.tok (λd e=>by rw[ah.size];exact dt _ fF d e) (ny _ fF) (λE' V' a' s' aI bi mf hn=> ?_) (λE' V' s' pv v aI bi mf bk hb=> ?_)
   ·exact Iy dt ny n (k+1) s' (by omega) hn E' V' a' Q ⟨bi,mf,aI.size.trans ah.size⟩ (λae e bS aS cj dn fV dj he hΦ=>hQ ae e bS aS cj dn (aI.trans fV) dj he hΦ)
   ·exact hQ (.panic pv) (.panic _) E' V' a s' aI ⟨bi,mf,ah.size⟩ ⟨v,rfl,bk⟩ hb
  simp only[n_]at h;split at h
  ·rename_i hg;have hw:Ti all[k] (yielded all a.tmps)=true:=(by unfold Ti;rw[hg]);rw[if_pos hw];exact .inl (go s ah h)
  ·rename_i j b8 hg;obtain⟨d,gr,h⟩:=h.out;obtain⟨av,h1,h⟩:=h.out;rcases h with⟨b,rfl,h2,h3⟩|⟨rfl,h3⟩
   case inr=>
    have hv:=(ah.tok d _ h1).2;have hy:yielded all a.tmps j≠some b8:=by
     obtain⟨oj,kG,jh⟩:=Tg.1 gr;generalize hx:a.tmps.getD d undef=x at hv;cases hv;have mc:d<a.tmps.size:=(ah.tok d _ h1).1;rw[SH,SJ mc]at hx;simp only[S0]at hx;simp[yielded,kG,jh,SJ mc,hx,undef]
    have hw:¬Ti all[k] (yielded all a.tmps)=true:=by
     unfold Ti;rw[hg];intro h;exact hy (by simpa using h)
    rw[if_neg hw];exact Iy dt ny n (k+1) (s.put all[k].dst (.val undef)) (by omega) h3 E V (a.put all[k].dst undef) Q
     ⟨by rw[fb];exact ah.bu,ah.tok.h_ (λd e=>by rw[ah.size];exact dt _ fF d e) (.val undef),by rw[dX];exact ah.size⟩
     (λae e bS aS cj dn fV dj he hΦ=>hQ ae e bS aS cj dn ⟨fV.le,fV.size.trans (dX _ _ _),fV.defers.trans (put_defers _ _ _),fV.role,fV.deaf⟩ dj he hΦ)
   have hv:=(ah.tok d _ h1).2;have hy:yielded all a.tmps j=some b:=by
    obtain⟨oj,kG,jh⟩:=Tg.1 gr;generalize hx:a.tmps.getD d undef=x at hv;cases hv;have mc:d<a.tmps.size:=(ah.tok d _ h1).1;rw[SH,SJ mc]at hx;simp only[S0]at hx;simp[yielded,kG,jh,SJ mc,hx]
   have se:∀b',b=b'->At E V ⟨(d,.val (.bool b'))::s.T,s.H⟩ a nt:=λb' dI=>by
    subst dI;refine⟨ah.bu,λt x e=> ?_,ah.size⟩;simp only[look]at e;split at e
    ·rename_i e';subst e';cases e;exact ah.tok d _ h1
    ·exact ah.tok t x e
   by_cases hb:b=b8
   ·have hw:Ti all[k] (yielded all a.tmps)=true:=(by unfold Ti;rw[hg];simp[hy,hb]);rw[if_pos hw];exact .inl (go _ (se b8 hb) (h2 hb))
   ·have hw:¬Ti all[k] (yielded all a.tmps)=true:=(by unfold Ti;rw[hg];simp[hy,hb]);rw[if_neg hw];have dI:b= !b8:=(by cases b<;>cases b8<;>simp_all);have wn:=h3 dI;have ah:=se _ dI;exact Iy dt ny n (k+1) ((⟨(d,.val (.bool !b8))::s.T,s.H⟩:AS).put all[k].dst (.val undef)) (by omega) wn E V (a.put all[k].dst undef) Q
     ⟨by rw[fb];exact ah.bu,ah.tok.h_ (λd e=>by rw[ah.size];exact dt _ fF d e) (.val undef),by rw[dX];exact ah.size⟩
     (λae e bS aS cj dn fV dj he hΦ=>hQ ae e bS aS cj dn ⟨fV.le,fV.size.trans (dX _ _ _),fV.defers.trans (put_defers _ _ _),fV.role,fV.deaf⟩ dj he hΦ)
theorem agi{nt id:Nat}{ops:Array Tu}{Φ:an->AS->Prop}(hd:jT nt ops=true)(h:n_ lv P ops ops.toList s (Φ .normal) (λpv s=>Φ (.panic pv) s)):aP lv P r nt (.region id ops false) s Φ:=by
 intro E V a Q ah hQ;refine wp_region ?_;rw[Vs];exact Iy (Φ:=Φ) (λo ho d e=>(jT.out hd ho).1 d e) (λo ho=> .inr (jT.out hd ho).2) ops.size 0 s (by omega) (by simpa using h) E V a Q ah hQ
end
section
variable (lv:Bool)(P:SI)
def sM (all:Array Tu):List Tu->AS->(AS->Prop)->Prop
 |[],s,K=>K s
 |o::rest,s,K=>match o.guard with
  |none=>AQ lv P s o λav=>sM all rest (s.put o.dst av) K
  |some (j,b8)=>ao ((all[j]?).bind (·.dst)) λd=>ao (look s.T d) λa=>UG a b8 (AQ lv P ⟨(d,.val (.bool b8))::s.T,s.H⟩ o λav=>sM all rest ((⟨(d,.val (.bool b8))::s.T,s.H⟩:AS).put o.dst av) K) (sM all rest ((⟨(d,.val (.bool !b8))::s.T,s.H⟩:AS).put o.dst (.val undef)) K) (sM all rest (s.put o.dst (.val undef)) K) ⟨0⟩
end
theorem ap9:type_of% @sM.eq_1:=by intros;rw[sM.eq_1]
theorem ap8:type_of% @sM.eq_2:=by intros;rw[sM.eq_2]
@[congr] theorem auJ {lv : Bool} {P : SI} {s s' : AS} {all : Array Tu} {l l' : List Tu} {K : AS -> Prop} (hl : l = l') (h : s = s') : sM lv P all l s K = sM lv P all l' s' K := by rw [hl, h]
attribute [seval] ap9 ap8
section
variable {lv:Bool}{P:SI}{r:Option Nat}{s:AS}{ops:Array Tu}{nt p:Nat}
end
section
variable {P:SI}
def EZ (P:SI)(d:Nat)(t:TypeId):Prop:=(∃u,P.underlying t=some u/\zP u=false)/\∀x y:Int,cG P (VC d t (.int .i64 x) (.int .i64 y)) (x==y)
def E_ (P:SI)(d:Nat)(t:TypeId)(n:Nat):Prop:=(∃u,P.underlying t=some u/\zP u=true)/\(∃i,P.info? t=some i/\i.size=n)/\∀xs ys:List Int,xs.length=n->ys.length=n->cG P (VC d t (.agg (xs.map (SF .i64)).toArray) (.agg (ys.map (SF .i64)).toArray)) (xs==ys)
inductive sG (P:SI)(d:Nat):Nat->List Y0->Nat->Prop
 |nil (o:Nat):sG P d o [] o
 | one {o n : Nat} {f : Y0} {fs : List Y0} (hn : f.name ≠ "_") (ho : f.offset = o) (h : EZ P d f.type) (t : sG P d (o + 1) fs n) : sG P d o (f :: fs) n
 | sub {o m n : Nat} {f : Y0} {fs : List Y0} (hn : f.name ≠ "_") (ho : f.offset = o) (h : E_ P d f.type m) (t : sG P d (o + m) fs n) : sG P d o (f :: fs) n
theorem sG.le{d o n:Nat}{fs:List Y0}(h:sG P d o fs n):o<=n:=by
 induction h with
 |nil=>exact SO _
 |one _ _ _ _ ih=>omega
 |sub _ _ _ _ ih=>omega
theorem QZ(xs:List Int)(o m:Nat):(xs.map (SF .i64)).toArray.extract o (o+m)=(((xs.drop o).take m).map (SF .i64)).toArray:=by
 simp[List.extract_eq_take_drop,VJ,apT]
theorem arZ {d n N : Nat} {xs ys : List Int} {body : Y0 -> Option Bool × Unit -> Sem (ForInStep (Option Bool × Unit))} (hx : xs.length = N) (hy : ys.length = N) (hb : ∀ f s, body f s = (if f.name ≠ "_" then (do
   let a<- part f.type (xs.map (SF .i64)).toArray f.offset;let b<- part f.type (ys.map (SF .i64)).toArray f.offset;let r<- VC d f.type a b
   if(!r)=true then pure (.done (some false,()))else pure (.yield (none,())))else pure (.yield (none,())))):
  ∀{o:Nat}{fs:List Y0},sG P d o fs n->n<=N->cG P (forIn fs (none,()) body) (if(xs.drop o).take (n-o)==(ys.drop o).take (n-o)then(none,())else(some false,())):=by
 intro o fs h hn;induction h with
 |nil o=>simpa using iK (none,())
 |@one o n f fs LY ho h t ih=>
  have hle:=t.le;have hox:o<xs.length:=by omega
  have hoy:o<ys.length:=by omega
  obtain⟨⟨u,hu,DM⟩,he⟩:=h;rw[W6,hb,if_pos LY,ho];refine lw (a:=if xs[o]==ys[o]then .yield (none,())else .done (some false,())) ?_ ?_
  ·refine EC hu DM (v:=.int .i64 xs[o]) (by simp[hox]) ?_;refine EC hu DM (v:=.int .i64 ys[o]) (by simp[hoy]) ?_;refine lw (he _ _) ?_;cases hq:xs[o]==ys[o]<;>exact iK _
  ·have e:((xs.drop o).take (n-o)==(ys.drop o).take (n-o))=((xs[o]==ys[o])&&((xs.drop (o+1)).take (n-(o+1))==(ys.drop (o+1)).take (n-(o+1)))):=by
    rw[TL hox,TL hoy,show n-o=(n-(o+1))+1 by omega,VT,VT];rfl
   rw[e];cases hq:xs[o]==ys[o]with
   |true=>simp only[if_true,Vx];exact ih hn
   |false=>simp only[TP,if_false,YJ];exact iK _
 |@sub o m n f fs LY ho h t ih=>
  have hle:=t.le;obtain⟨⟨u,hu,DM⟩,⟨i,hi,dl⟩,he⟩:=h;rw[W6,hb,if_pos LY,ho];refine lw (a:=if(xs.drop o).take m==(ys.drop o).take m then .yield (none,())else .done (some false,())) ?_ ?_
  ·refine adS hu DM hi ?_;refine adS hu DM hi ?_;rw[dl,QZ,QZ];refine lw (he _ _ (by rw[TV,Uk];omega) (by rw[TV,Uk];omega)) ?_;cases hq:(xs.drop o).take m==(ys.drop o).take m<;>exact iK _
  ·have e:((xs.drop o).take (n-o)==(ys.drop o).take (n-o))=(((xs.drop o).take m==(ys.drop o).take m)&&((xs.drop (o+m)).take (n-(o+m))==(ys.drop (o+m)).take (n-(o+m)))):=by
    have hs:∀zs:List Int,(zs.drop o).take (n-o)=(zs.drop o).take m++(zs.drop (o+m)).take (n-(o+m)):=λzs=>by
     rw[show n-o=m+(n-(o+m)) by omega,List.take_add,am_]
    rw[hs,hs,U3,Tl,beq_iff_eq,beq_iff_eq,beq_iff_eq];exact⟨λh=>List.append_inj h (by simp[TV,Uk];omega),λh=>by rw[h.1,h.2]⟩
   rw[e];cases hq:(xs.drop o).take m==(ys.drop o).take m with
   |true=>simp only[if_true,Vx];exact ih hn
   |false=>simp only[TP,if_false,YJ];exact iK _
theorem ah4{t:TypeId}{fs:Array Y0}{d n:Nat}{i:Wp}(ht:P.underlying t=some (.struct fs))(hs:P.stoodInHeld t=false)(hi:P.info? t=some i)(dl:i.size=n)(hf:sG P d 0 fs.toList n):E_ P (d+1) t n:=by
 refine ⟨⟨_, ht, rfl⟩, ⟨i, hi, dl⟩, λxs ys hx hy => ?_⟩;rw [VC];refine zv ht ?_;dsimp only;refine Ov ?_;rw [hs];simp only [TP, if_false];rw [<- Array.forIn_toList];refine lw (a := if (xs == ys) then (none, ()) else (some false, ())) ?_ (by cases xs == ys <;> exact iK _);have := arZ (body := λf (_ : Option Bool × Unit) => if f.name ≠ "_" then (do
   let a<- part f.type (xs.map (SF .i64)).toArray f.offset;let b<- part f.type (ys.map (SF .i64)).toArray f.offset;let r<- VC d f.type a b
   if(!r)=true then pure (ForInStep.done (some false,()))else pure (Y2 (none,())))else pure (Y2 (none,()))) hx hy (λf s=>rfl) hf (SO _)
 simp only[XD,Z1]at this;rw[SS (by omega),SS (by omega)]at this;exact this
theorem ah3{t:TypeId}{k0:TZ}{d:Nat}(ht:P.underlying t=some (.int k0)):EZ P (d+1) t:=⟨⟨_,ht,rfl⟩,λ_ _=>adQ ht⟩
def CJ (g:TypeId->Option (Option Nat)):List Y0->Nat->Option Nat
 |[],o=>some o
 | f :: fs, o => if f.name ≠ "_" /\ f.offset = o then (match g f.type with
  |some none=>CJ g fs (o+1)
  |some (some m)=>CJ g fs (o+m)
  |none=>none)else none
def wl (P:SI):Nat->TypeId->Option (Option Nat)
 |0,_=>none
 |d+1,t=>match P.underlying t with
  |some (.int _)=>some none
  |some (.struct fs)=>if P.stoodInHeld t then none else(match CJ (wl P d) fs.toList 0,P.info? t with
   |some n,some i=>if i.size=n then some (some n)else none
   |_,_=>none)
  |_=>none
theorem Km{d n:Nat}{g:TypeId->Option (Option Nat)}(h1:∀t,g t=some none->EZ P d t)(h2:∀t m,g t=some (some m)->E_ P d t m):∀(fs:List Y0)(o:Nat),CJ g fs o=some n->sG P d o fs n
 |[],o,h=>by cases h;exact .nil _
 |f::fs,o,h=>by
  rw[CJ]at h;split at h
  ·rename_i hc;split at h
   ·rename_i hg;exact .one hc.1 hc.2 (h1 _ hg) (Km h1 h2 fs _ h)
   ·rename_i m hg;exact .sub hc.1 hc.2 (h2 _ _ hg) (Km h1 h2 fs _ h)
   ·cases h
  ·cases h
theorem Kl:∀(d:Nat)(t:TypeId),(wl P d t=some none->EZ P d t)/\∀n,wl P d t=some (some n)->E_ P d t n
 |0,t=>⟨λh=>by simp[wl]at h,λn h=>by simp[wl]at h⟩
 |d+1,t=>by
  have ih:=λt=>Kl d t;rw[wl];split
  ·rename_i k0 hu;exact⟨λ_=>ah3 hu,λn h=>by cases h⟩
  ·rename_i fs hu;split
   ·exact⟨λh=>(by cases h),λn h=>by cases h⟩
   ·rename_i hs;split
    ·rename_i n i hf hi;split
     ·rename_i dl;refine⟨λh=>(by cases h),λm h=> ?_⟩;cases h;exact ah4 hu (by simpa using hs) hi dl (Km (λt=>(ih t).1) (λt=>(ih t).2) _ _ hf)
     ·exact⟨λh=>(by cases h),λn h=>by cases h⟩
    ·exact⟨λh=>(by cases h),λn h=>by cases h⟩
  ·exact⟨λh=>(by cases h),λn h=>by cases h⟩
theorem afp{t:TypeId}{n:Nat}{xs ys:List Int}(h:wl P 10000 t=some (some n))(hg:P.eqGuardType P.depth t=false)(hx:xs.length=n)(hy:ys.length=n)(k:AV->Prop):dA P .eql t (.agg (xs.map iv)) (.agg (ys.map iv)) k=k (bv (xs==ys)):=by
 have wT:cG P (WT t (.agg (xs.map (SF .i64)).toArray) (.agg (ys.map (SF .i64)).toArray)) (xs==ys):=((Kl 10000 t).2 n h).2.2 xs ys hx hy;have e:dA P .eql t (.agg (xs.map iv)) (.agg (ys.map iv)) k=((XM=.eql\/XM=.neq)/\ao (AV.raw (.agg (xs.map iv))) λX=>ao (AV.raw (.agg (ys.map iv))) λY=>xY X Y=true/\P.eqGuardType P.depth t=false/\∃e,cG P (WT t X Y) e/\k (.val (.bool (if XM== .neq then !e else e)))):=rfl;rw[e,vB,vB,xd,xd];apply propext;constructor
 ·rintro⟨_,_,_,b,h1,h2⟩
  rw[wT.uniq h1];exact h2
 ·intro h;exact⟨.inl rfl,rfl,hg,_,wT,h⟩
theorem afq{t:TypeId}{n:Nat}{xs ys:List Int}(h:wl P 10000 t=some (some n))(hg:P.eqGuardType P.depth t=false)(hx:xs.length=n)(hy:ys.length=n)(k:AV->Prop):dA P .neq t (.agg (xs.map iv)) (.agg (ys.map iv)) k=k (bv (!(xs==ys))):=by
 have wT:cG P (WT t (.agg (xs.map (SF .i64)).toArray) (.agg (ys.map (SF .i64)).toArray)) (xs==ys):=((Kl 10000 t).2 n h).2.2 xs ys hx hy;have e:dA P .neq t (.agg (xs.map iv)) (.agg (ys.map iv)) k=((VL=.eql\/VL=.neq)/\ao (AV.raw (.agg (xs.map iv))) λX=>ao (AV.raw (.agg (ys.map iv))) λY=>xY X Y=true/\P.eqGuardType P.depth t=false/\∃e,cG P (WT t X Y) e/\k (.val (.bool (if VL== .neq then !e else e)))):=rfl;rw[e,vB,vB,xd,xd];apply propext;constructor
 ·rintro⟨_,_,_,b,h1,h2⟩
  rw[wT.uniq h1];exact h2
 ·intro h;exact⟨.inr rfl,rfl,hg,_,wT,h⟩
end
section
variable {lv:Bool}{P:SI}{s:AS}{ms:List Nat}{bs:List U2}{nt:Nat}
def uj (E:Env)(ms:List Nat)(bs l:List U2):Prop:=l=ms.map (λi=>({target:=.collected (E.blk i),args:=#[]}:U2))++bs/\∀i∈ms,i<E.n
theorem uj.mono{E E':Env}(h:E.Le E'){ms:List Nat}{bs l:List U2}(k:uj E ms bs l):uj E' ms bs l:=
 ⟨by rw[k.1];congr 1;exact Vg λi hi=>by rw[h.blk i (k.2 i hi)],λi hi=>Tf (k.2 i hi) h.n⟩
def kz (lv:Bool)(P:SI)(nt:Nat)(bs:List U2)(c:T7)(s:AS)(ms:List Nat)(Φ:an->AS->List Nat->Prop):Prop:=
 ∀(E:Env)(V:View)(a:Act)(Q:Ex->Act->View->Prop),At E V s a nt->uj E ms bs a.defers->(∀ae e E' V' a' s' cD,qW E E' V V' a a'->At E' V' s' a' nt->uj E' cD bs a'.defers->pV E' ae e->Φ ae s' cD->Q e a' V')->WP lv P none c Q a V
theorem Fz{c:T7}{Φ:an->AS->List Nat->Prop}(h:aP lv P none nt c s λe s'=>Φ e s' ms):kz lv P nt bs c s ms Φ:=λE V a Q ah hd hQ=>
 h E V a Q ah λae e E' V' a' s' hk aT he hΦ=>hQ ae e E' V' a' s' ms hk.d aT (by rw[hk.defers];exact hd.mono hk.le) he hΦ
theorem kz.mono{c:T7}{Φ Φ':an->AS->List Nat->Prop}(h:kz lv P nt bs c s ms Φ)(hq:∀e s ms,Φ e s ms->Φ' e s ms):kz lv P nt bs c s ms Φ':=λE V a Q ah hd hQ=>
 h E V a Q ah hd λae e E' V' a' s' cD hk aT cz he hΦ=>hQ ae e E' V' a' s' cD hk aT cz he (hq _ _ _ hΦ)
theorem FA{x y:T7}{Φ:an->AS->List Nat->Prop}(h:kz lv P nt bs x s ms (an.sw (λs' cD=>kz lv P nt bs y s' cD Φ) Φ)):kz lv P nt bs (.seq x y) s ms Φ:=by
 intro E V a Q ah hd hQ;refine wp_seq (h E V a _ ah hd λae e E' V' a' s' cD hk aT cz he hΦ=> ?_);cases ae<;>cases e<;>first
  |exact he.elim
  |exact hΦ E' V' a' Q aT cz λae e bS aS cj dn Ea aI dj AF kg tS=>hQ ae e bS aS cj dn Ea (hk.trans aI) dj AF kg tS
  |exact hQ _ _ E' V' a' s' cD hk aT cz he hΦ
theorem sR{x y:T7}{Φ:an->AS->List Nat->Prop}(h:aP lv P none nt x s (an.then (λs'=>kz lv P nt bs y s' ms Φ) λe s'=>Φ e s' ms)):kz lv P nt bs (.seq x y) s ms Φ:=by
 refine FA (Fz (h.mono λe s' hs=> ?_));cases e<;>exact hs
theorem xO{id:Nat}{c:T7}{Φ:an->AS->List Nat->Prop}(h:kz lv P nt bs c s ms (an.p_ id Φ)):kz lv P nt bs (.block id c) s ms Φ:=by
 intro E V a Q ah hd hQ;refine wp_block (h E V a _ ah hd λae e E' V' a' s' cD hk aT cz he hΦ=> ?_);cases ae<;>cases e<;>first
  |exact he.elim
  |skip
 ·exact hQ .normal .normal E' V' a' s' cD hk aT cz trivial hΦ
 ·rename_i i j;have e:i=j:=he;subst e;by_cases bX:i=id
  ·simp only[Ex.inBlock,bX,if_true];simp only[an.p_,bX,if_true]at hΦ;exact hQ .normal _ E' V' a' s' cD hk aT cz trivial hΦ
  ·simp only[Ex.inBlock,bX,if_false];simp only[an.p_,bX,if_false]at hΦ;exact hQ (.exit i) _ E' V' a' s' cD hk aT cz rfl hΦ
 ·exact hQ _ _ E' V' a' s' cD hk aT cz he hΦ
 ·exact hQ _ _ E' V' a' s' cD hk aT cz he hΦ
 ·exact hQ _ _ E' V' a' s' cD hk aT cz he hΦ
theorem PP{α:Type}{lt:α->α->Prop}(wf:WellFounded lt){c:T7}{Φ:an->AS->List Nat->Prop}(inv:α->AS)(mk:α->List Nat)(ok:α->Prop)(m:α)(h0:s.Sub (inv m))(uV:ms=mk m)(hm:ok m)
  (h:∀m,ok m->kz lv P nt bs c (inv m) (mk m) (an.sw (λs' cD=>∃m',lt m' m/\ok m'/\s'.Sub (inv m')/\cD=mk m') Φ)):kz lv P nt bs (.loop c) s ms Φ:=by
 subst uV;intro E V a Q ah hd hQ;refine OW wf (I:=λm a' V'=>ok m/\∃E',qW E E' V V' a a'/\At E' V' (inv m) a' nt/\uj E' (mk m) bs a'.defers) m ⟨hm,E,(Kept.refl E V a).d,ah.sub h0,hd⟩ λm a' V' hI=> ?_;obtain⟨aq,E',hk,aT,cz⟩:=hI;refine h m aq E' V' a' _ aT cz λae e bS aS cj dn Ea aI dj AF he hΦ=> ?_;cases ae<;>cases e<;>first
  |exact he.elim
  |(obtain⟨m',h1,h2,h3,rfl⟩:=hΦ
    exact⟨m',h1,h2,bS,hk.trans aI,dj.sub h3,AF⟩)
  |exact hQ _ _ bS aS cj dn Ea (hk.trans aI) dj AF he hΦ
theorem agu{f:Tj}{ps:Array Tmp}{bM body:T7}{fv:AV}{Φ:an->AS->List Nat->Prop}(hf:s.ev f=some fv)
  (h:∀l fn:Nat,jb lv P fv (s.H++[.obj (.deferred (some [])),.loop l .ready none fn s.T nt ps bM body s.H.length]) [.fn (.yield l) [] []]
   (λ_ H'=>∃st pe fA T' jn gC gh fh gn,H'[s.H.length+1]?=some (.loop l st pe fA T' jn gC gh fh gn)/\st≠ .busy/\sL Φ ⟨s.T,H'.set (s.H.length+1) .gone⟩ (s.H.length::ms) pe)
   (λpv H'=>Φ (.panic pv) ⟨s.T,H'⟩ (s.H.length::ms))):kz lv P nt bs (.rangeFunc f ps bM body) s ms Φ:=by
 intro E V a Q ah hm hQ;refine aes λfn d l hd hl=> ?_;have hc:=ah.bu;have dq:Conc (E.add d V.ab) (V.upd d (.deferred (some []))) (s.H++[.obj (.deferred (some []))]):=by
  refine hc.add hd _ ⟨?_,rfl,rfl,λo=> ?_⟩ (λb e=> ?_)
  ·rw[Env.dM];simp[View.upd]
  ·rw[Env.dM];exact hd.2 o
  ·simp only[bO,Env.dM,Tm]at e;exact e.symm
 have Dp:E.Le (E.add d V.ab):=E.qF d (λb o v h=>by rw[<- hc.I];exact h);have C_:(E.add d V.ab).blk s.H.length=d:=by rw[<- hc.n];exact E.dM d _
 let E1:=E.add d V.ab;let V1:=V.upd d (.deferred (some []));have pB:E1.n=s.H.length+1:=by rw[dq.n];simp
 have qu:E1.Le (E1.add l V1.ab):=E1.qF l (λb o v h=>by rw[<- dq.I];exact h);have cO:Conc (E1.add l V1.ab) (V1.upd l (.loop {state:=.ready,pending:=none,fn,tmps:=a.tmps,params:=ps,assign:=bM,body,defers:=d})) ((s.H++[.obj (.deferred (some []))])++[.loop l .ready none fn s.T nt ps bM body s.H.length]):=by
  refine dq.add hl _ ⟨⟨a.tmps,?_,ah.size,(ah.tok.mono Dp).mono qu⟩,?_,λo=> ?_,?_⟩ (λb e=> ?_)
  ·have e:(E1.add l V1.ab).blk s.H.length=d:=(by rw[qu.blk s.H.length (by rw[pB];omega)];exact C_);rw[e,Env.dM];simp[View.upd]
  ·show s.H.length<E1.n+1;omega
  ·rw[Env.dM];exact hl.2 o
  ·exact Env.dM _ _ _
  ·simp only[bO,Env.dM,Tm]at e;exact e.symm
 have hle:E.Le (E1.add l V1.ab):=Dp.trans qu;have K4:(E1.add l V1.ab).blk s.H.length=d:=by rw[qu.blk s.H.length (by rw[pB];omega)];exact C_
 rw[SC]at cO;have rM:∀E',(E1.add l V1.ab).Le E'->uj E' (s.H.length::ms) bs (mark a d).defers:=λE' hE=>by
  refine uj.mono hE ⟨?_,λi hi=> ?_⟩
  ·have:=(hm.mono hle).1;simp only[mark,UP,K4,Vm];rw[<- this]
  ·rcases SK.1 hi with rfl|hi
   ·show _<E1.n+1;omega
   ·exact Tf (hm.2 i hi) hle.n
 have bA:=ap.ev ah.tok hf;have Db:=h l fn (E1.add l V1.ab) (V1.upd l (.loop {state:=.ready,pending:=none,fn,tmps:=a.tmps,params:=ps,assign:=bM,body,defers:=d})) (a.eval f) #[.func (.yield l) #[] #[]] cO (bA.mono hle) ⟨rfl,λi x hx=>by
  match i,hx with
  |0,hx=>cases hx;exact .fn rfl rfl (by simp) (by simp)⟩
 have key:∀o V',gW (E1.add l V1.ab) (V1.upd l (.loop {state:=.ready,pending:=none,fn,tmps:=a.tmps,params:=ps,assign:=bM,body,defers:=d}))
   (λ_ H'=>∃st pe fA T' jn gC gh fh gn,H'[s.H.length+1]?=some (.loop l st pe fA T' jn gC gh fh gn)/\st≠ .busy/\sL Φ ⟨s.T,H'.set (s.H.length+1) .gone⟩ (s.H.length::ms) pe)
   (λpv H'=>Φ (.panic pv) ⟨s.T,H'⟩ (s.H.length::ms)) o V'->Fh l d Q a o V':=by
  intro o V' hr;cases o with
  |ret v=>
   obtain⟨av,E',H',hE,ce,eT,_,bi,st,pe,fA,T',jn,gC,gh,fh,gn,bX,aR,hp⟩:=hr;obtain⟨dI,nw,qO,ba,Mp,th,tN⟩:=bi.zq bX;refine⟨_,ba,nw,aR,?_⟩;have hg:Conc E' (V'.upd l (.loop {state:=.exhausted,pending:=pe,fn:=fA,tmps:=qO,params:=gC,assign:=gh,body:=fh,defers:=E'.blk gn})) (H'.set (s.H.length+1) .gone):=bi.Ev _ bX _ (by simp only[bO,dI]);have aT:At E' (V'.upd l (.loop {state:=.exhausted,pending:=pe,fn:=fA,tmps:=qO,params:=gC,assign:=gh,body:=fh,defers:=E'.blk gn})) ⟨s.T,H'.set (s.H.length+1) .gone⟩ (mark a d) nt:=⟨hg,ah.tok.mono (hle.trans hE),ah.size⟩;have ep:qW E E' V (V'.upd l (.loop {state:=.exhausted,pending:=pe,fn:=fA,tmps:=qO,params:=gC,assign:=gh,body:=fh,defers:=E'.blk gn})) a (mark a d):=⟨hle.trans hE,rfl,ce,eT⟩;dsimp only
   match pe,hp,aT,ep with
   |none,hp,aT,ep=>exact hQ .normal .normal E' _ _ _ _ ep aT (rM E' hE) trivial hp
   |some .ret,hp,aT,ep=>exact hQ .ret .ret E' _ _ _ _ ep aT (rM E' hE) trivial hp
   |some (.exit i),hp,aT,ep=>exact hQ (.exit i) (.exit i) E' _ _ _ _ ep aT (rM E' hE) rfl hp
   |some (.goto i),hp,aT,ep=>exact hQ (.goto i) (.goto i) E' _ _ _ _ ep aT (rM E' hE) rfl hp
  |panic ch=>
   obtain⟨pv,v,E',H',rfl,hE,ce,eT,bk,bi,hp⟩:=hr;exact hQ (.panic pv) (.panic _) E' V' (mark a d) ⟨s.T,H'⟩ _ ⟨hle.trans hE,rfl,ce,eT⟩ ⟨bi,ah.tok.mono (hle.trans hE),ah.size⟩ (rM E' hE) ⟨v,rfl,bk⟩ hp
 exact Db.mono (λnx V' hn=>Nx.mono key hn) (λv V' hr=>key _ _ hr)
@[congr] theorem at1 {c : T7} {s s' : AS} {ms cD : List Nat} {Φ : an -> AS -> List Nat -> Prop} (h : s = s') (hd : ms = cD) : kz lv P nt bs c s ms Φ = kz lv P nt bs c s' cD Φ := by rw [h, hd]
def uo (lv:Bool)(P:SI)(fn:YH)(R:Out->View->Prop):List U2->Vf->Array SP->View->Prop
 |[],.returning,tmps,V=>∃v,aQ P V (results fn tmps) (λx V'=>x=v/\V'=V) (λ_ _=>False)/\R (.ret v) V
 |[],.panicking ch,_,V=>R (.panic ch) V
 |d::ds,md,tmps,V=>(md matches .run)=false/\((∃b,d={target:=.collected b,args:=#[]}/\V.own b=some (.deferred (some []))/\V.role.chan≠some b/\uo lv P fn R ds md tmps (V.upd b (.deferred none)))\/
   ((∃f cV,d.target=.fn f cV)/\aQ P V (invoke d.target d.args) (λnx V'=>∃g args,nx=.enter g args/\zE lv P g args md V' λnQ aS=>uo lv P fn R ds nQ tmps aS) (λ_ _=>False)))
 |[],.run,_,_=>False
theorem EL{f:TQ}{fn:YH}{kd:Xi}{R:Out->View->Prop}(hf:P.funcs[f]?=some fn){main:Bool}{J:View->SG->Prop}(C:Closed lv P main J){cs:List Uc}(hR:∀o V' CK,R o V'->Leaves P CK f kd o V'->J V' (G CK cs)):∀(ds:List U2)(md:Vf)(V:View)(fr:Uc),fr.fn=f->fr.kind=kd->fr.mode=md->fr.defers=ds->uo lv P fn R ds md fr.tmps V->J V (G fr cs)
 |[],.returning,V,fr,h1,h2,h3,h4,h=>by
  obtain⟨v,hs,hr⟩:=h;exact hR _ _ _ hr ⟨h1,h4,h2,fn,hf,h3,hs⟩
 |[],.panicking ch,V,fr,h1,h2,h3,h4,h=>hR _ _ _ h ⟨h1,h4,h2,fn,hf,h3⟩
 |[],.run,_,_,_,_,_,_,h=>h.elim
 |d::ds,md,V,fr,h1,h2,h3,h4,h=>by
  obtain⟨hm,⟨b,rfl,ho,eS,hu⟩|⟨⟨tf,cV,ht⟩,hs⟩⟩:=h
  ·refine C.step _ _ rfl λw hw=> ?_;obtain⟨es,w',V',k1,k2,k3⟩:=(Oh (P:=P) ho eS).runs hw;rcases k3 with⟨x,k3,rfl,rfl⟩|⟨_,_,hx⟩
   ·refine⟨G {fr with defers:=ds} cs,w',seen P fr.fn es,_,?_,k1.seen P fr.fn,?_⟩
    ·have e:∀main,stepG P main (G fr cs) w=unwind P main fr cs none w:=λmain=>by
      cases md with
      |run=>cases hm
      |returning=>simp[G,stepG,h3]
      |panicking ch=>simp[G,stepG,h3]
     rw[e];simp only[unwind,h4];simp[TB,k3,k2,T6,G]
    ·exact EL hf C hR ds md _ {fr with defers:=ds} h1 h2 h3 rfl hu
   ·exact hx.elim
  ·refine C.step _ _ rfl λw hw=> ?_;obtain⟨es,w',V',k1,k2,k3⟩:=hs.runs hw;rcases k3 with⟨nx,k3,g,args,rfl,hd⟩|⟨_,_,h⟩
   ·refine⟨G (Frame.enter P g args .deferred) ({fr with defers:=ds}::cs),w',seen P fr.fn es,V',?_,k1.seen P fr.fn,?_⟩
    ·have e:∀main,stepG P main (G fr cs) w=unwind P main fr cs none w:=λmain=>by
      cases md with
      |run=>cases hm
      |returning=>simp[G,stepG,h3]
      |panicking ch=>simp[G,stepG,h3]
     rw[e];obtain⟨tgt,ar⟩:=d;simp only at ht k3 k2;subst ht;simp only[unwind,h4];simp[callDeferred,TB,k3,k2,T6,G]
    ·refine hd main J C {fr with defers:=ds} cs h3 λnQ aS hU=> ?_;exact EL hf C hR ds nQ aS {fr with defers:=ds,mode:=nQ} h1 h2 rfl rfl hU
   ·exact h.elim
def aeD (lv:Bool)(P:SI)(fn:YH)(R:Out->View->Prop):Ex->Act->View->Prop
 |.normal,a,V|.ret,a,V=>uo lv P fn R a.defers .returning a.tmps V
 |.panic ch,a,V=>uo lv P fn R a.defers (.panicking ch) a.tmps V
 |_,_,_=>False
theorem agY{f:TQ}{fn:YH}{c:T7}{args:Array SP}{kd:Xi}{V:View}{R:Out->View->Prop}(hk:kd≠ .early)(hf:P.funcs[f]?=some fn)(hb:fn.body=some c)
  (h:WP lv P none c (aeD lv P fn R) {tmps:=args++TN (fn.ntmps-args.size) undef,defers:=[]} V):Body lv P f args kd V R:=by
 intro main J C cs hR;let b:Uc:={(default:Uc)with fn:=f,kind:=kd,roundOf:=none};have uM:Frame.enter P f args kd=on b {tmps:=args++TN (fn.ntmps-args.size) undef,defers:=[]} [.code c]:=by
  simp[Frame.enter,on,hf,hb,b]
 rw[uM];refine h main J C b [] cs hk rfl λe a' V' q=> ?_;cases e with
 |normal=>exact C.idle rfl (λw=>Er rfl) (EL hf C hR _ _ _ _ rfl rfl rfl rfl q)
 |ret=>intro k;exact C.idle rfl (λw=>Es rfl) (EL hf C hR _ _ _ _ rfl rfl rfl rfl q)
 |panic ch=>intro todo _;exact EL hf C hR _ _ _ _ rfl rfl rfl rfl q
 |exit id=>exact q.elim
 |goto l=>exact q.elim
theorem aeg{fn:YH}{R:Out->View->Prop}{tmps:Array SP}{md:Vf}(hm:(md matches .run)=false):∀(ms:List Nat)(H H':List aa)(E:Env)(V:View)(l:List U2),iP ms H=some H'->Conc E V H->uj E ms bs l->(∀V',V'.role=V.role->V'.deaf=V.deaf->Conc E V' H'->uo lv P fn R bs md tmps V')->uo lv P fn R l md tmps V
 |[],H,H',E,V,l,hg,hc,nC,hk=>by
  rw[iP]at hg;cases hg;have:l=bs:=nC.1;subst this;exact hk V rfl rfl hc
 |i::ms,H,H',E,V,l,hg,hc,nC,hk=>by
  simp only[iP]at hg;split at hg
  ·rename_i hi;obtain⟨e,hlt⟩:=nC;simp only[UP,Vm]at e;subst e;obtain⟨p1,p2,p3,p4⟩:=hc.obj i _ hi;exact⟨hm,.inl ⟨_,rfl,p1,(hc.jm hi rfl).2,aeg hm ms _ H' E _ _ hg (hc.Ev _ hi _ rfl) ⟨rfl,λj hj=>hlt j (by simp[hj])⟩ λV' h1 h2 h3=>hk V' h1 h2 h3⟩⟩
  ·cases hg
def zJ (lv:Bool)(P:SI)(rs:List UQ)(n:Nat)(c:AV×List AV)(k kp:AV->List aa->Prop):an->AS->List Nat->Prop
 |.normal,s,ms|.ret,s,ms=>ao (iP ms s.H) λH'=>qS lv P c H' none (λH'=>ao (ie P ⟨s.T,H'⟩ rs) λl=>cF n H' (i_ l) k) (λ_=>False)
 |.panic pv,s,ms=>ao (iP ms s.H) λH'=>qS lv P c H' (some pv) (λH'=>ao (ie P ⟨s.T,H'⟩ rs) λl=>cF n H' (i_ l) k) (λH'=>cF n H' pv kp)
 |_,_,_=>False
end
end Go.Gg
namespace Go.Gg.Tk
structure fL where
 min:Int
 max:Int
 deriving DecidableEq
structure aB where
 number:fL
 hour:fL
 deriving DecidableEq
structure Seen where
 hour:Int
 next:fL
 deriving DecidableEq
structure aj where
 first:Int
 hours:Int
 am:Int
 seen:List Seen
 pieces:List aB
 aA:List aB
 deriving DecidableEq
def iI (b:fL)(n:Int):Bool:=decide (b.min<=n)&&decide (n<=b.max)
def eP:Nat->List Int->Int->Int
 |i,a::b::l,n=>if a<=n/\n<b then i else eP (i+1) (b::l) n
 |_,_,_=> -1
def iL (h:List Int)(n:Int):Int:=eP 0 h n
def fits (h:List Int)(y:aB)(n:Int):Bool:=decide (0<=iL h n)&&iI y.number n&&iI y.hour (iL h n)
def oP (x:aj)(hour:Nat)(n:Int):Bool:=x.seen.all λs=> !decide (s.hour=hour)||iI s.next n
def jj (x:aj):Nat->List Int->List (List Int)
 |0,pre=>if oP x (pre.length-1) (pre.getLastD 0)then[pre]else[]
 |d+1,pre=>if oP x (pre.length-1) (pre.getLastD 0)then(SU (x.am.toNat+1)).flatMap λn:Nat=>jj x d (pre++[pre.getLastD 0+(n:Int)])else[]
def aK (x:aj):List (List Int):=jj x x.hours.toNat [x.first]
def wJ (x:aj)(t:Nat):List (List Int):=if oP x 0 x.first then jj x (x.hours.toNat-1) [x.first,x.first+t]else[]
def vw (h:List Int):List Int:=(SU (h.getLastD 0-h.headD 0).toNat).map λi:Nat=>h.headD 0+i
def kv (h:List Int):List aB->List Int->List (List Int)
 |[],t=>[t]
 |y::ys,t=>((vw h).filter λn=>fits h y n&& !t.contains n).flatMap λn=>kv h ys (t++[n])
def mq (h:List Int)(ns:List Int):List aB->List Nat->List (List Nat)
 |[],t=>[t]
 |s::ss,t=>((SU ns.length).filter λp=>fits h s (ns.getD p 0)&& !t.contains p).flatMap λp=>mq h ns ss (t++[p])
structure Tr where
 bG:List Int
 aC:List Int
 bW:List Nat
 deriving DecidableEq
def BK (x:aj)(h ns:List Int):List Tr:=(mq h ns x.aA []).map λos=>⟨h,ns,os⟩
def lx (x:aj)(h:List Int):List Tr:=(kv h x.pieces []).flatMap (BK x h)
def bR (x:aj):List Tr:=(aK x).flatMap (lx x)
def vK (x:aj)(h:List Int):List Tr:=(kv h x.pieces []).flatMap λns=>(BK x h ns).take 1
def sx (x:aj)(deep:Int)(h:List Int):List Tr:=if deep=0 then(vK x h).take 1 else if deep=1 then vK x h else lx x h
def IB (x:aj)(deep:Int)(t:Nat):List Tr:=(wJ x t).flatMap (sx x deep)
theorem ad4{i:Nat}:∀{h:List Int}{n:Int},eP i h n<i+h.length:=by
 intro h;induction h generalizing i with
 |nil=>intro n;simp[eP];omega
 |cons a h ih=>
  intro n;cases h with
  |nil=>simp[eP];omega
  |cons b l=>
   simp only[eP];split
   ·simp;omega
   ·have:=ih (i:=i+1) (n:=n);simp at this⊢;omega
theorem OD{i k:Nat}{z:Int}:∀{h:List Int}{n:Int},h.getLastD z=z->h≠[]->eP i (h++TJ k z) n=eP i h n:=by
 intro h;induction h generalizing i with
 |nil=>intro n _ h;exact absurd rfl h
 |cons a h ih=>
  intro n hz _;cases h with
  |nil=>
   simp only[Zt,List.getLastD_nil]at hz;subst hz;have:∀(k i:Nat),eP i ([a]++TJ k a) n= -1:=by
    intro k;induction k with
    |zero=>intro i;simp[eP]
    |succ k ihk=>
     intro i;rw[WA,Y5];simp only[eP];rw[if_neg (by omega)];exact ihk (i+1)
   rw[this];simp[eP]
  |cons b l=>
   have:=ih (i:=i+1) (n:=n) (by simpa using hz) (by simp);simp only[Vm,eP]at this⊢;rw[this]
end Go.Gg.Tk
namespace Go.Gg.Tk
inductive dG (S:Type)where
 |go (s:S)
 |stop (s:S)
 |bad (s:S)
def bE {S α:Type}(f:S->α->dG S):List α->S->dG S
 |[],s=> .go s
 |a::l,s=>match f s a with
  |.go s'=>bE f l s'
  |r=>r
theorem qJ{S α:Type}(f:S->α->dG S):∀(l m:List α)(s:S),bE f (l++m) s=match bE f l s with
  |.go s'=>bE f m s'
  |r=>r
 |[],m,s=>rfl
 |a::l,m,s=>by
  simp only[Vm,bE];cases f s a with
  |go s'=>exact qJ f l m s'
  |stop s'=>rfl
  |bad s'=>rfl
theorem Ob{S α:Type}(f:S->α->dG S)(a:α)(s:S):bE f [a] s=f s a:=by
 simp only[bE];cases f s a<;>rfl
theorem Ep{S α:Type}{f:S->α->dG S}{g:S->α->S}(h:∀s a,f s a=.go (g s a)):∀(l:List α)(s:S),bE f l s=.go (l.foldl g s)
 |[],s=>rfl
 |a::l,s=>by simp only[bE,h,U4];exact Ep h l _
theorem Bu{S α:Type}{f:S->α->dG S}{I:S->Prop}{A:α->Prop}(h:∀s a s',I s->A a->f s a=.go s'->I s'):∀(l:List α)(s s':S),(∀a∈l,A a)->I s->bE f l s=.go s'->I s'
 |[],s,s',_,hs,e=>by cases e;exact hs
 |a::l,s,s',ha,hs,e=>by
  simp only[bE]at e;cases hf:f s a with
  |go s1=>rw[hf]at e;exact Bu h l s1 s' (λb hb=>ha b (by simp[hb])) (h s a s1 hs (ha a (by simp)) hf) e
  |stop s1=>rw[hf]at e;cases e
  |bad s1=>rw[hf]at e;cases e
def cL (h:List Int):List Int:=h++TJ (4-h.length) (h.getLastD 0)
def mL (x:aj)(bh:Nat):Nat->List Int->List (List Int)
 |0,pre=>if oP x (pre.length-1) (pre.getLastD 0)then[cL pre]else[]
 |d+1,pre=>if oP x (pre.length-1) (pre.getLastD 0)then(SU (x.am.toNat+1)).flatMap λn:Nat=>if pre.length=1/\n≠bh then[]else mL x bh d (pre++[pre.getLastD 0+(n:Int)])else[]
def kq (x:aj)(bh:Nat):List (List Int):=mL x bh x.hours.toNat [x.first]
def lC (h:List Int)(y:aB)(n:Nat):Bool:=decide (h.getD 0 0+n<h.getD 3 0)&&iI y.number (h.getD 0 0+n)&&iI y.hour (iL h (h.getD 0 0+n))
def jy (p:Nat->Bool):Nat->Nat
 |0=>0
 |n+1=>if p n then jy p n|||2^n else jy p n
theorem Cv{p:Nat->Bool}:∀{n i:Nat},(jy p n).testBit i=(decide (i<n)&&p i)
 |0,i=>by simp[jy]
 |n+1,i=>by
  have ih:=Cv (p:=p) (n:=n) (i:=i);simp only[jy];by_cases hp:p n=true
  ·rw[if_pos hp,Xq,ih,VS];by_cases hi:n=i
   ·subst hi;simp[hp]
   ·have:(i<n+1)<->i<n:=(by omega);simp[hi,this]
  ·rw[if_neg hp,ih];by_cases hi:i=n
   ·subst hi;simp at hp;simp[hp]
   ·have:(i<n+1)<->i<n:=(by omega);simp[this]
theorem FB{p:Nat->Bool}:∀{n:Nat},jy p n<2^n
 |0=>by simp[jy]
 |n+1=>by
  have ih:=FB (p:=p) (n:=n);have h1:2^n<2^(n+1):=Xe (by omega) (by omega);simp only[jy];split
  ·exact WR (Ws ih h1) h1
  ·exact Ws ih h1
def b_ (h:List Int)(y:aB):Nat:=jy (lC h y) 9
def kK:List Nat->Nat->List Nat->List (List Nat)
 |[],_,t=>[t]
 |q::qs,used,t=>(SU 9).flatMap λn=>if used.testBit n|| !q.testBit n then[]else kK qs (used|||2^n) (t++[n])
def mr (k:Nat)(ns:List Nat):List Nat->Nat->List Nat->List (List Nat)
 |[],_,o=>[o]
 |q::qs,given,o=>(SU k).flatMap λp=>if given.testBit p|| !q.testBit (ns.getD p 0)then[]else mr k ns qs (given|||2^p) (o++[p])
def lq (k:Nat)(l:List Nat):List Int:=l.map (λn:Nat=>(n:Int))++TJ (k-l.length) (-1)
def dT (h:List Int)(ns:List Nat):List Int:=h++lq 4 ns++[-1, -1, -1]
def dE (h:List Int)(ns os:List Nat):List Int:=h++lq 4 ns++lq 3 os
def fZ (x:aj)(h:List Int):List (List Nat):=kK (x.pieces.map (b_ h)) 0 []
def iB (x:aj)(h:List Int)(ns:List Nat):List (List Nat):=mr x.pieces.length ns (x.aA.map (b_ h)) 0 []
def iM (x:aj)(deep:Int)(h:List Int):List (List Int):=
 let all:=(fZ x h).map λns=>(iB x h ns).map λos=>dE h ns os
 if deep=0 then all.flatten.take 1 else if deep=1 then(all.map (·.take 1)).flatten else all.flatten
end Go.Gg.Tk
namespace Go.Gg.Tk
structure Kn where
 has:Bool
 aK:List (List Int)
 aC:List Nat
 hours:List Nat
 less:List Nat
 aU:List Nat
 first:List Int
def Kn.zero:Kn:=⟨false,[],[0,0,0,0],[0,0,0,0],[0,0,0,0],[0,0,0],TJ 11 0⟩
def o0 (l:List Nat)(p n:Nat):List Nat:=l.set p (l.getD p 0|||2^n)
def jL (hs:List (List Int))(h:List Int):List (List Int):=if h∈hs then hs else hs++[h]
def mv (t:List Int)(p:Nat):Nat:=(t.getD (4+p) 0).toNat
def ED (t:List Int)(p:Nat):Nat:=(iL (t.take 4) (t.getD (4+p) 0+t.getD 0 0)).toNat
def sr (t:List Int)(s:Nat):Nat:=(t.getD (8+s) 0).toNat
def jQ (F:Kn)(t:List Int):Kn:=if F.has then F else{F with has:=true,first:=t}
def mR (t:List Int):Nat->List Nat->List Nat
 |0,l=>l
 |s+1,l=>o0 (mR t s l) s (sr t s)
def sh (t:List Int):Nat->List Nat->List Nat
 |0,l=>l
 |p+1,l=>o0 (sh t p l) p (mv t p)
def wQ (t:List Int):Nat->List Nat->List Nat
 |0,l=>l
 |p+1,l=>o0 (wQ t p l) p (ED t p)
def w_ (t:List Int)(p:Nat):Nat->List Nat->List Nat
 |0,l=>l
 |q+1,l=>if t.getD (4+p) 0<t.getD (4+q) 0 then o0 (w_ t p q l) p q else w_ t p q l
def yU (t:List Int)(k:Nat):Nat->List Nat->List Nat
 |0,l=>l
 |p+1,l=>w_ t p k (yU t k p l)
def eD (x:aj)(deep:Int)(F:Kn)(t:List Int):Kn:=
 let F:=jQ F t
 if deep=2 then{F with aU:=mR t x.aA.length F.aU}
 else if deep=0 then{F with aK:=jL F.aK (t.take 4)}
 else{F with aC:=sh t x.pieces.length F.aC,hours:=wQ t x.pieces.length F.hours,less:=yU t x.pieces.length x.pieces.length F.less}
def gT (x:aj)(deep:Int)(bh:Nat):Kn:=((kq x bh).flatMap (iM x deep)).foldl (eD x deep) Kn.zero
def lS (l m:List Nat):List Nat:=(List.zipWith (·|||·) l m)
end Go.Gg.Tk
namespace Go.Gg
open Go.Conc Go.Gg.Tk
theorem ID{n:Nat}(h:n<65536):S7.wrap (n:Int)=n:=by
 have h1:S7.bits=16:=rfl;have h2:S7.signed=false:=rfl;unfold Xg;rw[h1,h2];simp;omega
theorem Cz{n:Nat}(h:n<65536):(Ui S7.bits (n:Int)).toNat=n:=by
 have h1:S7.bits=16:=rfl;rw[h1,BitVec.ofInt_natCast,BitVec.toNat_ofNat];omega
theorem akv{m n:Nat}(hm:m<65536):(S7.wrap (Ui S7.bits ((m:Int).fdiv (2^(min n S7.bits)))&&&Ui S7.bits 1).toNat==1)=m.testBit n:=by
 have h1:S7.bits=16:=rfl;have e:(m:Int).fdiv (2^(min n S7.bits))=((m/2^(min n 16):Nat):Int):=by
  rw[h1,Int.fdiv_eq_ediv_of_nonneg _ (by exact_mod_cast WQ _)];norm_cast
 have hlt:m/2^(min n 16)<65536:=Zj (Nat.div_le_self _ _) hm;rw[e,BitVec.toNat_and,Cz hlt,show (Ui S7.bits 1).toNat=1 from rfl,ID (Zj Nat.and_le_left hlt)];have hb:m/2^(min n 16)&&&1=(m/2^(min n 16)) % 2:=Nat.and_one_is_mod _;rw[hb];have ht:m.testBit n=decide (m/2^n % 2=1):=Nat.testBit_eq_decide_div_mod_eq;by_cases hn:n<=16
 ·rw[WC hn,ht];by_cases h:m/2^n % 2=1
  ·simp[h]
  ·have:m/2^n % 2=0:=(by omega);simp[this]
 ·rw[Nat.min_eq_right (by omega)];have h0:m/2^16=0:=Nat.div_eq_of_lt (by omega);have h2:m.testBit n=false:=Nat.testBit_lt_two_pow (Tf hm (by calc 65536=2^16:=rfl
   _<=2^n:=Xr (by omega) (by omega)))
  rw[h0,h2];rfl
theorem as5{m n:Nat}(hm:m<65536)(hn:n<16):S7.wrap (Ui S7.bits (m:Int)|||Ui S7.bits (S7.wrap (1* 2^(min n S7.bits)))).toNat=((m|||2^n:Nat):Int):=by
 have h1:S7.bits=16:=rfl;have hp:2^n<65536:=by calc 2^n<2^16:=Xe (by omega) hn
  _=65536:=rfl
 have e:S7.wrap (1* 2^(min n S7.bits))=((2^n:Nat):Int):=by
  rw[h1,WC (by omega),Int.one_mul,<- ID hp];norm_cast
 rw[e,Zr,Cz hm,Cz hp];exact ID (WR (n:=16) hm hp)
theorem HP{m n:Nat}(hm:m<65536)(hn:n<65536):S7.wrap (Ui S7.bits (m:Int)|||Ui S7.bits (n:Int)).toNat=((m|||n:Nat):Int):=by
 rw[Zr,Cz hm,Cz hn];exact ID (WR (n:=16) hm hn)
theorem pP{m n:Nat}(hm:m<65536)(hn:n<65536):m|||n<65536:=WR (n:=16) hm hn
theorem xq{n:Nat}(hn:n<16):2^n<65536:=by calc 2^n<2^16:=Xe (by omega) hn
  _=65536:=rfl
abbrev wv (m:Nat):AV:=.val (.int .u16 m)
def cX {S:Type}(Gf:S->List aa)(pv:AV)(k kp:AV->List aa->Prop)(M:List aa):dG S->Prop
 |.go s=>k (.val (.bool true)) (Gf s++M)
 |.stop s=>k (.val (.bool false)) (Gf s++M)
 |.bad s=>kp pv (Gf s++M)
def gg {S:Type}(Gf:S->List aa)(pv:AV)(k kp:AV->List aa->Prop)(M:List aa):dG S->Prop
 |.go s=>k (.aN []) (Gf s++M)
 |.stop s=>k (.aN []) (Gf s++M)
 |.bad s=>kp pv (Gf s++M)
structure jP (lv:Bool)(P:SI)(yv:AV){S:Type}(f:S->List Int->dG S)(Gf:S->List aa)(N:Nat)(I:S->Prop)(A:List Int->Prop)(pv:AV):Prop where
 call:∀(σ:S)(a:List Int)(M:List aa)(k kp:AV->List aa->Prop),I σ->A a->cX Gf pv k kp M (f σ a)->jb lv P yv (Gf σ++M) [.agg (a.map λn=> .val (.int .i64 n))] k kp
 inv:∀σ a σ',I σ->A a->f σ a=.go σ'->I σ'
 len:∀σ,(Gf σ).length=N
 ok:∀m σ σ',(∀z∈Gf σ,eQ m z)->∀z∈Gf σ',eQ m z
 sure:yv.sure=true
 parts:yv.parts=some [yv]
 leaf:yv.leaf=true
theorem jP.get{lv:Bool}{P:SI}{yv:AV}{S:Type}{f:S->List Int->dG S}{Gf:S->List aa}{N:Nat}{I:S->Prop}{A:List Int->Prop}{pv:AV}(h:jP lv P yv f Gf N I A pv)(σ:S)(L:List aa)(i:Nat):(Gf σ++L)[N+i]?=L[i]?:=by
 rw[<- h.len σ,Ta (by omega)];congr 1;omega
theorem jP.set{lv:Bool}{P:SI}{yv:AV}{S:Type}{f:S->List Int->dG S}{Gf:S->List aa}{N:Nat}{I:S->Prop}{A:List Int->Prop}{pv:AV}(h:jP lv P yv f Gf N I A pv)(σ:S)(L:List aa)(i:Nat)(x:aa):(Gf σ++L).set (N+i) x=Gf σ++L.set i x:=by
 rw[<- h.len σ,Ud _ _ (by omega)];congr 2;omega
theorem jP.aq{lv:Bool}{P:SI}{yv:AV}{S:Type}{f:S->List Int->dG S}{Gf:S->List aa}{N:Nat}{I:S->Prop}{A:List Int->Prop}{pv:AV}(h:jP lv P yv f Gf N I A pv){σ:S}{M:List aa}(hH:bH (Gf σ++M))(σ':S):bH (Gf σ'++M):=λz hz=>by
 have hl:(Gf σ'++M).length=(Gf σ++M).length:=by simp[h.len]
 rw[hl];rcases SQ.1 hz with h'|h'
 ·exact h.ok _ σ σ' (λw hw=>hH w (Th _ hw)) z h'
 ·exact hH z (S4 _ h')
def sJ (l:Nat)(S:Nat->AS)(ok:Nat->Prop)(m:Nat)(Φ:an->AS->Prop):an->AS->Prop
 |.goto l',s=>l'=l/\∃m',m'<m/\ok m'/\s.Sub (S m')
 |e,s=>Φ e s
section
variable {lv:Bool}{P:SI}{r:Option Nat}{s:AS}
end
theorem anA(l:Nat)(S:Nat->AS)(ok:Nat->Prop)(m:Nat)(Φ:an->AS->Prop)(s:AS):sJ l S ok m Φ .normal s=Φ .normal s:=by rw[sJ];simp
theorem anC(l:Nat)(S:Nat->AS)(ok:Nat->Prop)(m:Nat)(Φ:an->AS->Prop)(s:AS):sJ l S ok m Φ .ret s=Φ .ret s:=by rw[sJ];simp
theorem anz(l:Nat)(S:Nat->AS)(ok:Nat->Prop)(m:Nat)(Φ:an->AS->Prop)(i:Nat)(s:AS):sJ l S ok m Φ (.exit i) s=Φ (.exit i) s:=by rw[sJ];simp
theorem anB(l:Nat)(S:Nat->AS)(ok:Nat->Prop)(m:Nat)(Φ:an->AS->Prop)(a:AV)(s:AS):sJ l S ok m Φ (.panic a) s=Φ (.panic a) s:=by rw[sJ];simp
@[congr] theorem auF {l m : Nat} {S : Nat -> AS} {ok : Nat -> Prop} {s s' : AS} {Φ : an -> AS -> Prop} {e e' : an} (he : e = e') (h : s = s') : sJ l S ok m Φ e s = sJ l S ok m Φ e' s' := by rw [he, h]
attribute [seval] anA anC anz anB
open Go.Proofs
namespace Tk
def fL.l (b:fL):List AV:=[iv b.min,iv b.max]
def fL.av (b:fL):AV:=.agg b.l
def aB.l (y:aB):List AV:=[iv y.number.min,iv y.number.max,iv y.hour.min,iv y.hour.max]
def aB.av (y:aB):AV:=.agg y.l
def Seen.l (s:Seen):List AV:=[iv s.hour,iv s.next.min,iv s.next.max]
def Seen.av (s:Seen):AV:=.agg s.l
def br (xs:List Int):AV:=.sl xs.length (xs.map iv) .shut
def zO (ls:List (List Int)):AV:=.sl ls.length (ls.map br) .shut
def aL (xs:List aB):AV:=.sl xs.length (xs.flatMap aB.l) .shut
def cY (xs:List Seen):AV:=.sl xs.length (xs.flatMap Seen.l) .shut
def aj.l (x:aj):List AV:=[iv x.first,iv x.hours,iv x.am,cY x.seen,aL x.pieces,aL x.aA]
def aj.av (x:aj):AV:=.agg x.l
theorem aB.len(b:aB):b.l.length=4:=rfl
theorem Seen.len(b:Seen):b.l.length=3:=rfl
end Tk
section
variable {i:Nat}
theorem ff{xs:List Int}{x:Int}(h:xs[i]?=some x):AV.shift i (.rp (xs.map iv))=some (.rp (iv x::(xs.drop (i+1)).map iv)):=by have:=adp (f:=iv) h;rwa [Ye]at this
theorem adn{xs:List (List Int)}{x:List Int}(h:xs[i]?=some x):AV.shift i (.rp (xs.map br))=some (.rp (br x::(xs.drop (i+1)).map br)):=by have:=adp (f:=br) h;rwa [Ye]at this
theorem xj{xs:List aB}{x:aB}(h:xs[i]?=some x):AV.shift (i* 4) (.rp (xs.flatMap aB.l))=some (.rp (iv x.number.min::iv x.number.max::iv x.hour.min::iv x.hour.max::(xs.drop (i+1)).flatMap aB.l)):=ado aB.len h
theorem Ie{xs:List Seen}{x:Seen}(h:xs[i]?=some x):AV.shift (i* 3) (.rp (xs.flatMap Seen.l))=some (.rp (iv x.hour::iv x.next.min::iv x.next.max::(xs.drop (i+1)).flatMap Seen.l)):=ado Seen.len h
end
theorem yV(n:Nat)(xs:List Int):Lt n (br xs)=True:=by simp[br,vt,eC]
theorem abK(n:Nat)(xs:List (List Int)):Lt n (zO xs)=True:=by
 simp only[zO,vt,Te,eq_iff_iff,iff_true]
 rintro a ⟨b,_,rfl⟩
 rw[yV];trivial
theorem Hw(n:Nat)(xs:List aB):Lt n (aL xs)=True:=by
 simp only[aL,vt,S6,eq_iff_iff,iff_true]
 rintro a ⟨b,_,h⟩
 simp only[aB.l,SK,SZ,or_false]at h;rcases h with rfl|rfl|rfl|rfl<;>exact .val _
theorem abL(n:Nat)(xs:List Seen):Lt n (cY xs)=True:=by
 simp only[cY,vt,S6,eq_iff_iff,iff_true]
 rintro a ⟨b,_,h⟩
 simp only[Seen.l,SK,SZ,or_false]at h;rcases h with rfl|rfl|rfl<;>exact .val _
theorem abJ(n:Nat)(x:aj):∀a∈x.l,Lt n a:=by
 intro a ha;simp only[aj.l,SK,SZ,or_false]at ha;rcases ha with rfl|rfl|rfl|rfl|rfl|rfl
 ·exact .val _
 ·exact .val _
 ·exact .val _
 ·rw[abL];trivial
 ·rw[Hw];trivial
 ·rw[Hw];trivial
theorem Hx(n:Nat)(x:aj):Lt n x.av=True:=by simp only[aj.av,sf,eq_iff_iff,iff_true];exact abJ n x
open Go.Conc Go.Proofs Go.Gg.Tk
namespace Tk
structure mA (h:List Int):Prop where
 len:h.length=4
 lo:∀a∈h,0<=a
 hi:∀a∈h,a<=1000
 span:h.getD 3 0<=h.getD 0 0+9
theorem mA.out{h:List Int}(k:mA h):∃a b c d,h=[a,b,c,d]/\(0<=a/\a<=1000)/\(0<=b/\b<=1000)/\(0<=c/\c<=1000)/\(0<=d/\d<=1000)/\d<=a+9:=by
 match h,k with
 |[a,b,c,d],k=>exact⟨a,b,c,d,rfl,⟨k.lo a (by simp),k.hi a (by simp)⟩,⟨k.lo b (by simp),k.hi b (by simp)⟩,⟨k.lo c (by simp),k.hi c (by simp)⟩,⟨k.lo d (by simp),k.hi d (by simp)⟩,by simpa using k.span⟩
theorem ajG{h:List Int}{y:aB}{n:Nat}(hn:(h.getD 3 0-h.getD 0 0).toNat<=n):lC h y n=false:=by
 unfold lC;rw[show decide (h.getD 0 0+(n:Int)<h.getD 3 0)=false from decide_eq_false (by omega)];rfl
theorem ajH{h:List Int}{y:aB}(hs:h.getD 3 0<=h.getD 0 0+9):b_ h y=jy (lC h y) (h.getD 3 0-h.getD 0 0).toNat:=by
 apply Nat.eq_of_testBit_eq;intro i;unfold b_;rw[Cv,Cv];by_cases hi:i<(h.getD 3 0-h.getD 0 0).toNat
 ·have h9:i<9:=by omega
  rw[decide_eq_true hi,decide_eq_true h9]
 ·rw[ajG (by omega)];simp
theorem Ri(h:List Int)(y:aB):b_ h y<512:=FB (n:=9)
end Tk
theorem wi{α:Type}{xs:List α}{i:Nat}{x:α}(h:xs[i]?=some x):xs.drop i=x::xs.drop (i+1):=by
 obtain⟨h1,h2⟩:=SL.1 h;rw[TL h1,h2]
section
variable {lv:Bool}{H:List aa}{k kp:AV->List aa->Prop}
theorem Kf{b:fL}{n:Int}(hk:k (bv (iI b n)) H):bf lv SA 88 H [b.av,iv n] k kp:=by
 refine bI (rs:=[.tmp 4]) (nt:=15) Tryz.f88 λhH hA=> ?_;simp only[bt,SY,fL.av,fL.l];refine ak ?_;refine ak ?_;refine yc (λh=> ?_) (λh=> ?_)
 ·(try simp only[seval]);refine bc ?_;exact lB hH (by simpa[iI,h]using hk)
 ·(try simp only[seval]);refine bc ?_;exact lB hH (by simpa[iI,h]using hk)
theorem Rc{h:List Int}{n:Int}(h4:h.length=4)(hk:k (iv (iL h n)) H):bf lv SA 90 H [.agg (h.map iv),iv n] k kp:=by
 refine bI (rs:=[.tmp 4]) (nt:=24) Tryz.f90 λhH hA=> ?_;simp only[bt,SY];have qt:(h.map iv).length=4:=by simp[h4]
 refine ak ?_;refine ak ?_;refine bY ?_;refine sQ 3 (λi:Nat=>[(6,iv i)]) (λ_=>_) (λi=>iL h n=eP i (h.drop i) n) rfl (λbJ cm i cK hi R hR=> ?_);refine ak ?_;refine aD ?_;refine⟨λhc=> ?_,λhc=> ?_⟩
 ·
  have qp:i<3:=by omega
  obtain⟨a,ha⟩:=bZ (xs:=h) (i:=i) (by omega);obtain⟨b,hb⟩:=bZ (xs:=h) (i:=i+1) (by omega);have e4:(0<=(i:Int)/\(i:Int)<4)=True:=by simp;omega
  have QP:(0<=(i:Int)+1/\(i:Int)+1<4)=True:=by simp;omega
  have hw:SD.wrap ((i:Int)+1)=(i:Int)+1:=bw _ (by omega);have pB:((i:Int)+1).toNat=i+1:=by omega
  have lh:eP i (h.drop i) n=if a<=n/\n<b then(i:Int)else eP (i+1) (h.drop (i+1)) n:=by
   rw[wi ha,wi hb];simp only[eP]
  refine aO ?_;refine ak ?_;refine ai ?_;simp only[seval,e4,QP,hw,pB,kT ha,kT hb];refine yc (λh2=> ?_) (λh2=> ?_)
  ·(try simp only[seval,e4,QP,hw,pB,kT ha,kT hb]);refine aD ?_;refine⟨λh3=> ?_,λh3=> ?_⟩
   ·refine ak ?_;refine bc ?_;rw[hi,lh,if_pos ⟨of_decide_eq_true h2,h3⟩]at hk;exact lB hH hk
   ·refine aO ?_;refine ai ?_;simp only[seval,hw];refine hR _ ⟨by omega,?_,cT⟩;rw[hi,lh,if_neg (λq=>h3 q.2)]
  ·(try simp only[seval]);refine aD ?_;refine aO ?_;refine ai ?_;simp only[seval,hw];refine hR _ ⟨by omega,?_,cT⟩;rw[hi,lh,if_neg (λq=>by simp at h2;omega)]
 ·
  have:i=3:=by omega
  subst this;refine bU ?_;refine ak ?_;refine bc ?_;have hm:eP 3 (h.drop 3) n= -1:=by
   match h,h4 with
   |[a,b,c,d],_=>rfl
  rw[hi,hm]at hk;exact lB hH hk
theorem x8{m n:Nat}(hm:m<65536)(hk:k (bv (m.testBit n)) H):bf lv SA 67 H [wv m,iv n] k kp:=by
 refine bI (rs:=[.tmp 4]) (nt:=10) Tryz.f67 λhH hA=> ?_;simp only[bt,SY];refine ak ?_;refine ai ?_;simp only[seval,Cl,afh];refine bc ?_;refine b9 ?_;rw[akv hm];exact hk
theorem uA{m n:Nat}(hm:m<65536)(hn:n<16)(hk:k (wv (m|||2^n)) H):bf lv SA 68 H [wv m,iv n] k kp:=by
 refine bI (rs:=[.tmp 4]) (nt:=9) Tryz.f68 λhH hA=> ?_;simp only[bt,SY];refine ak ?_;refine ai ?_;simp only[seval,afs,Ck];refine bc ?_;refine b9 ?_;rw[as5 hm hn];exact hk
theorem FT{h:List Int}{y:aB}(hh:mA h)(hk:k (wv (b_ h y)) H):bf lv SA 65 H [.agg (h.map iv),y.av] k kp:=by
 refine bI (rs:=[.tmp 4]) (nt:=34) Tryz.f65 λhH hA=> ?_;simp only[bt,SY,aB.av,aB.l];obtain⟨a,b,c,d,rfl,ha,hb,hc,hd,hs⟩:=hh.out;have pk:b_ [a,b,c,d] y=jy (lC [a,b,c,d] y) (d-a).toNat:=ajH hs;have hz:wv (jy (lC [a,b,c,d] y) 0)=wv 0:=rfl;refine ak ?_;refine ak ?_;refine ak ?_;refine bY ?_;refine gF (d-a).toNat (λi:Nat=>[(6,iv (a+i)),(5,wv (jy (lC [a,b,c,d] y) i))]) (λ_=>_) (λi=>True) (λ_ _=>rfl) (by rw[hz];simp only[seval];simp[bm,Wk.refl];exact Wk.refl _) rfl (λ_ _ _=>rfl) trivial (λbJ cm i cK hi R hR=> ?_);refine ak ?_;refine aD ?_;have cN:jy (lC [a,b,c,d] y) i<65536:=Tf FB (UH (Xr (by omega) (show i<=16 by omega)) (by decide));refine⟨λhc=> ?_,λhc=> ?_⟩
 ·
  have hlt:i<(d-a).toNat:=by omega
  have hw:SD.wrap (a+(i:Int)+1)=a+((i+1:Nat):Int):=by rw[bw _ (by omega)];push_cast;omega
  have fY:SD.wrap (a+(i:Int)-a)=(i:Int):=by rw[bw _ (by omega)];omega
  have Gi:lC [a,b,c,d] y i=(iI y.number (a+i)&&iI y.hour (iL [a,b,c,d] (a+i))):=by
   unfold lC;rw[show decide ([a,b,c,d].getD 0 0+(i:Int)<[a,b,c,d].getD 3 0)=true from decide_eq_true (show a+(i:Int)<d by omega),Vx];rfl
  refine aO ?_;refine bY ?_;refine ek 12 ?_;simp only[seval];refine gR (bv (iI y.number (a+i))) (di (Kf (b:=y.number) ⟨rfl,rfl⟩)) ?_;(try simp only[seval]);refine yc (λh2=> ?_) (λh2=> ?_)
  ·(try simp only[seval]);refine gR (iv (iL [a,b,c,d] (a+i))) (di (Rc (h:=[a,b,c,d]) rfl ⟨rfl,rfl⟩)) ?_;(try simp only[seval]);refine gR (bv (iI y.hour (iL [a,b,c,d] (a+i)))) (di (Kf (b:=y.hour) ⟨rfl,rfl⟩)) ?_;(try simp only[seval]);refine aD ?_;rw[h2,Vx]at Gi;refine⟨λh3=> ?_,λh3=> ?_⟩
   ·refine ai ?_;simp only[seval,fY];refine aJ ((uA cN (show i<16 by omega) ?_));(try simp only[seval]);refine ai ?_;simp only[seval,hw];refine hR _ ⟨by omega,trivial,?_⟩;rw[show jy (lC [a,b,c,d] y) (i+1)=jy (lC [a,b,c,d] y) i|||2^i from by rw[jy,Gi,h3];rfl];exact cT
   ·refine aO ?_;refine ai ?_;simp only[seval,hw];refine hR _ ⟨by omega,trivial,?_⟩;rw[show jy (lC [a,b,c,d] y) (i+1)=jy (lC [a,b,c,d] y) i from by rw[jy,Gi,h3];rfl];exact cT
  ·(try simp only[seval]);refine aD ?_;refine aO ?_;refine ai ?_;simp only[seval,hw];refine hR _ ⟨by omega,trivial,?_⟩;rw[show jy (lC [a,b,c,d] y) (i+1)=jy (lC [a,b,c,d] y) i from by rw[jy,Gi,show iI y.number (a+i)=false by simpa using h2];rfl];exact cT
 ·have:i=(d-a).toNat:=by omega
  subst this;refine bU ?_;refine ak ?_;refine bc ?_;rw[pk]at hk;exact lB hH hk
end
open Go.Conc Go.Proofs Go.Gg.Tk
namespace Tk
structure sF (b:fL)(hi:Int):Prop where
 min:0<=b.min
 le:b.min<=b.max
 max:b.max<=hi
structure IW (x:aj)(y:aB):Prop where
 number:sF y.number 99
 hour:sF y.hour (x.hours-1)
structure aj.Ok (x:aj):Prop where
 first:0<=x.first/\x.first<=90
 hours:1<=x.hours/\x.hours<=3
 am:1<=x.am/\x.am<=3
 ua:x.seen.length<=3
 ec:x.pieces.length<=4
 de:x.aA.length<=3
 seen:∀s∈x.seen,(0<=s.hour/\s.hour<=x.hours)/\sF s.next 99
 piece:∀y∈x.pieces,IW x y
 stub:∀y∈x.aA,IW x y
def t_ (hour:Nat)(n:Int)(s:Seen):Bool:= !decide (s.hour=hour)||iI s.next n
theorem ac0(x:aj)(hour:Nat)(n:Int):oP x hour n=x.seen.all (t_ hour n):=rfl
end Tk
theorem fO{H L:List aa}{i:Nat}{x:aa}(h:H[i]?=some x):(H++L)[i]?=some x:=by rw[SX (SL.1 h).1];exact h
theorem aY(Hs L:List aa)(i:Nat):(Hs++L)[Hs.length+i]?=L[i]?:=by rw[Ta (by omega)];congr 1;omega
theorem dJ(Hs L:List aa)(i:Nat)(y:aa):(Hs++L).set (Hs.length+i) y=Hs++L.set i y:=by rw[Ud _ _ (by omega)];congr 2;omega
section
variable {lv:Bool}{H:List aa}{k kp:AV->List aa->Prop}
theorem Rb{x:aj}{h:List Int}{hour ir ih:Nat}{n:Int}(hx:x.Ok)(h4:h.length=4)(hn:h[hour]?=some n)(hr:H[ir]?=some (.cells x.l 76))(hi:H[ih]?=some (.cells (h.map iv) 83))(hk:k (bv (oP x hour n)) H):bf lv SA 87 H [iv hour,.op ir 0,.op ih 0] k kp:=by
 refine bI (rs:=[.tmp 4]) (nt:=29) Tryz.f87 λhH hA=> ?_;simp only[bt,SY];have pu:hour<4:=by have:=eN hn;omega
 have b4:(0<=(hour:Int)/\(hour:Int)<4)=True:=by simp;omega
 have hlen:=hx.ua;have yF:∀L:List aa,(H++L)[ir]?=some (.cells x.l 76):=λL=>fO hr;have cC:∀L:List aa,(H++L)[ih]?=some (.cells (h.map iv) 83):=λL=>fO hi;have bP:x.l=[iv x.first,iv x.hours,iv x.am,cY x.seen,aL x.pieces,aL x.aA]:=rfl;refine ak ?_;refine ai ?_;simp only[seval,hr,bP,cY];refine bY ?_;refine sQ x.seen.length (λi:Nat=>[(11,iv i)]) (λ_=>H) (λi=>x.seen.all (t_ hour n)=(x.seen.drop i).all (t_ hour n)) rfl (λbJ cm i cK hI R hR=> ?_);refine ak ?_;refine aD ?_;refine⟨λhc=> ?_,λhc=> ?_⟩
 ·
  have bB:i<x.seen.length:=by omega
  obtain⟨s,hs⟩:=bZ bB;have lh:x.seen.all (t_ hour n)=(t_ hour n s&&(x.seen.drop (i+1)).all (t_ hour n)):=by rw[hI,wi hs];rfl
  have hw:SD.wrap ((i:Int)+1)=((i+1:Nat):Int):=by rw[bw _ (by omega)];rfl
  refine aO ?_;refine ai ?_;simp only[seval,Ie hs,jR bB];refine ek 13 ?_;simp only[seval,cC,b4,kT hn];refine yc (λh2=> ?_) (λh2=> ?_)
  ·(try simp only[seval,cC,b4,kT hn]);refine gR (bv (iI s.next n)) (di (Kf (b:=s.next) ⟨rfl,rfl⟩)) ?_;(try simp only[seval]);refine aD ?_;have hp:t_ hour n s=iI s.next n:=(by unfold t_;rw[decide_eq_true (show s.hour=(hour:Int) by simpa using h2)];rfl);rw[hp]at lh;refine⟨λh3=> ?_,λh3=> ?_⟩
   ·refine ak ?_;refine bc ?_;rw[ac0,lh,h3]at hk;exact lB hH hk
   ·refine aO ?_;refine ai ?_;simp only[seval,hw];refine hR _ ⟨bB,?_,(acS bJ)⟩;rw[lh,h3];rfl
  ·(try simp only[seval]);refine aD ?_;refine aO ?_;have hp:t_ hour n s=true:=(by unfold t_;rw[decide_eq_false (show ¬s.hour=(hour:Int) by simpa using h2)];rfl);rw[hp]at lh;refine ai ?_;simp only[seval,hw];refine hR _ ⟨bB,?_,(acS bJ)⟩;rw[lh];rfl
 ·
  have:i=x.seen.length:=by omega
  subst this;refine bU ?_;refine ak ?_;refine bc ?_;rw[ac0,hI,List.drop_length]at hk;exact b9 hk
end
end Go.Gg
