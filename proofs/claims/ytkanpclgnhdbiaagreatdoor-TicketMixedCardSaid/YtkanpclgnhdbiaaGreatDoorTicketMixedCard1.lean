/- A part of the proof. -/
import Derived.Test.YtkanpclgnhdbiaaGreatDoorTicketMixedCard0
import Derived.Test.YtkanpclgnhdbiaaGreatDoorProg
import Derived.KernelRfl
set_option linter.all false
set_option maxRecDepth 4000
set_option maxHeartbeats 4000000
open Array renaming all_eq_true_iff_forall_mem->UJ,ext'->VE,getD_eq_getD_getElem?->SH,getElem?_append_left->X8,getElem?_eq_getElem->SK,getElem?_eq_none->Yw,getElem?_eq_some_iff->SU,getElem?_modify->Wi,getElem?_setIfInBounds_ne->SW,getElem?_setIfInBounds_self_of_lt->S_,getElem_mem->XS,mem_iff_getElem?->YC,mem_of_getElem?->WZ,range->WI,replicate->TK,toList_map->VM
open BitVec renaming ofInt->Ui,toNat_or->Zn
open Bool renaming and_eq_true->Ti,eq_iff_iff->Vo,false_and->YB,false_eq_true->TM,false_or->Zu,not_eq_true'->TZ,not_true->aj',or_eq_true->X0,true_and->Vs
open Classical renaming byContradiction->Ts
open ForInStep renaming yield->YV
open Go renaming Addr->U1,BinOp->VZ,Call->Xn,CallKind->Xa,Code->Ua,Deferred->UW,Event->Ur,Field->YT,Frame->Uc,FrameMode->U6,Func->Yz,FuncId->TO,Goroutine->SG,IntKind->TY,Item->WR,Loop->ap',LoopState->Z7,MapEntry->Wl,Oper->Tu,Operand->Th,Program->SJ,ResultVar->UN,TypeInfo->Wj,Value->SQ,World->To
open Go.Act renaming put->XZ
open Go.BinOp renaming eql->XE,neq->Wu
open Go.Call renaming operands->VP
open Go.CallKind renaming deferred->YK,early->U3,normal->Y5
open Go.Deferred renaming ofValue->U0
open Go.Frame renaming catches->ZS,round->W6
open Go.FrameMode renaming returning->Ym
open Go.GStep renaming after->T5
open Go.Instr renaming beginRound->XD,checkKey->U8,endLoop->ZJ,endRound->W2,enterLoop->WU,findAsking->XC,findKey->VO,getLoop->WH,sameBits->WA,takeDeferred->Y3
open Go.IntKind renaming bits->ats,i64->SE,signed->as',u16->S5,u32->ai_,u64->Tx,wrap->W9
open Go.LoopState renaming busy->ap_
open Go.Next renaming value->W1
open Go.Op renaming equal->Xm,equalIn->Vy,operands->Tt
open Go.Operand renaming tmp->asI
open Go.Proofs.Tryz renaming f77->XK,f97->ar',prog->SC
open Go.Region renaming binds->Yl,linearise->Y_,schedule->VN,wanted->Tg
open Go.Region.linearise renaming go->UF
open Go.Result.ok renaming inj->ao_
open Go.Sem renaming runT->VI,runT_eq->TA
open Go.Value renaming agg->TC,bool->W8,cells->Z5,chan->XN,int->SF,map->Zq,nilFunc->YQ,slice->Us
open Go.stepG renaming exec->Ug
open Int renaming toNat_natCast->VQ
open List renaming all_cons->ZO,all_eq_true->Tv,any_cons->YP,any_eq_true->UI,append_assoc->SA,append_nil->SI,cons_append->Ve,contains_eq_mem->Uq,countP_le_length->Y1,drop_drop->ak',drop_eq_getElem_cons->TR,drop_eq_nil_of_le->TW,drop_zero->Xw,ext_getElem?->Yj,filter_congr->Vh,filter_cons_of_neg->Yr,filter_cons_of_pos->Yq,foldl_cons->UX,forIn_cons->WX,getD_eq_getElem?_getD->SD,getElem?_append_left->SY,getElem?_append_right->S8,getElem?_cons_succ->UM,getElem?_eq_getElem->SO,getElem?_eq_none->Uu,getElem?_eq_some_iff->SM,getElem?_map->Tn,getElem?_set_ne->T7,getElem?_set_self->W5,getElem?_take->Ul,getLastD_cons->Zp,length_append->SP,length_drop->Uo,length_map->Tm,length_set->TE,length_singleton->T8,length_take->Uf,mapM_cons->T_,mapM_nil->UC,mapM_toArray->XX,map_congr_left->VB,map_cons->UV,map_drop->ag2,map_map->XW,map_take->VX,mem_append->SV,mem_append_left->Tf,mem_append_right->S4,mem_cons->SL,mem_cons_of_mem->Tb,mem_cons_self->TB,mem_eraseDups->Y7,mem_filter->Uv,mem_filterMap->VW,mem_flatMap->S6,mem_map->Tl,mem_of_getElem?->Td,mem_range->TF,mem_range'->XV,mem_toArray->TJ,nil_append->UK,nodup_cons->VH,nodup_nil->WK,not_mem_nil->S0,range->SZ,range'->Ud,range'_append_1->Y6,range'_succ->VT,range_eq_range'->Vp,replicate->TG,replicate_succ->Wt,reverse_nil->XU,set_append_left->U2,set_append_right->T9,set_eq_take_append_cons_drop->XL,singleton_append->Y0,take_append_drop->Vd,take_of_length_le->SS,take_succ_cons->VS,take_zero->ak_
open Nat renaming add_mul->U9,add_zero->UD,le_refl->SR,le_trans->UL,lt_of_le_of_lt->Ze,lt_of_lt_of_le->Tc,lt_trans->Wn,lt_trichotomy->XT,min_eq_left->Ww,mod_lt->aq',mul_le_mul_right->Uh,mul_one->X9,or_lt_two_pow->WJ,pow_le_pow_right->Xj,pow_lt_pow_right->W7,reduceAdd->SX,sub_self->Va,sub_zero->ZW,testBit_or->Xi,testBit_two_pow->VR,zero_add->Wr,zero_le->Xz
open Option renaming bind_eq_some_iff->Te,getD_some->S7,map_eq_some_iff->Tp,map_some->UO,some->SN
open Option.some renaming injEq->Tj
open Std.Legacy.Range renaming forIn_eq_forIn_range'->Wv,size->Xq
namespace Go.Gg
open Go.Conc
structure Ih (k:AV->Prop):Type where
 n:Nat
structure Ig (X:Bool->Prop)(Z:Prop):Type where
 n:Nat
def QG (a:AV)(X:Bool->Prop)(Z:Prop)(_t:Ig X Z):Prop:=(∃b,a=.val (.bool b)/\X b)\/(a=.val undef/\Z)
theorem api(b:Bool)(X:Bool->Prop)(Z:Prop)(t:Ig X Z):QG (.val (.bool b)) X Z t=X b:=by
 unfold QG;refine propext ⟨λh=> ?_,λh=> .inl ⟨b,rfl,h⟩⟩;rcases h with⟨b',e,h⟩|⟨e,_⟩
 ·cases e;exact h
 ·cases e
theorem apj(X:Bool->Prop)(Z:Prop)(t:Ig X Z):QG (.val undef) X Z t=Z:=by
 unfold QG;refine propext ⟨λh=> ?_,λh=> .inr ⟨rfl,h⟩⟩;rcases h with⟨b',e,_⟩|⟨_,h⟩
 ·cases e
 ·exact h
def OC (lv:Bool)(P:SJ)(f:AV)(H:List aa)(aE:List AV)(k:AV->Prop)(_t:Ih k):Prop:=∃av,jo lv P f H aE (λb H'=>b=av/\H'=H) (λ_ _=>False)/\k av
def ad3 (lv:Bool)(P:SJ)(f:AV)(name:String)(H:List aa)(aE:List AV)(k:AV->Prop)(_t:Ih k):Prop:=∃av,Ev lv P f name H aE (λb H'=>b=av/\H'=H) (λ_ _=>False)/\k av
theorem iU{lv:Bool}{P:SJ}{f:AV}{H:List aa}{aE:List AV}{k:AV->Prop}{t:Ih k}(av:AV)(h:jo lv P f H aE (λb H'=>b=av/\H'=H) (λ_ _=>False))(hk:k av):OC lv P f H aE k t:=⟨av,h,hk⟩
section
variable (lv:Bool)(P:SJ)
def AQ (s:AS)(o:Tu)(k:AV->Prop):Prop:=match o.op with
 |.call c=>match c.callee with
  |.value x=>ao (s.ev x) λf=>ao (fD s c.args.toList) λaE=>OC lv P f s.H aE k ⟨0⟩
  |.invoke x name=>ao (s.ev x) λf=>ao (fD s c.args.toList) λaE=>ad3 lv P f name s.H aE k ⟨0⟩
  |.builtin .append=>match c.args.toList,c.argTypes.toList with
   |[x,y],[t,t']=>ao (j3 P t t') λ(_,sz,_)=>ao (s.ev x) λa=>ao (s.ev y) λb=>a.vT λn l e=>e=.exact/\ao (s.src sz b) λ(m,l')=>l.length=n* sz/\l'.length=m* sz/\n+m<=2^30/\k (.sl (n+m) (l++l') .shut)
   |_,_=>False
  |_=>lT P s o k
 |_=>lT P s o k
def nz (all:Array Tu):List Tu->AS->(AS->Prop)->Prop
 |[],s,K=>K s
 |o::rest,s,K=>match o.guard with
  |none=>AQ lv P s o λav=>nz all rest (s.put o.dst av) K
  |some (j,cj)=>ao ((all[j]?).bind (·.dst)) λd=>ao (look s.T d) λa=>QG a (λb=>rj b cj (AQ lv P ⟨(d,.val (.bool cj))::s.T,s.H⟩ o λav=>nz all rest ((⟨(d,.val (.bool cj))::s.T,s.H⟩:AS).put o.dst av) K) (nz all rest ((⟨(d,.val (.bool !cj))::s.T,s.H⟩:AS).put o.dst (.val undef)) K) ⟨0⟩) (nz all rest (s.put o.dst (.val undef)) K) ⟨0⟩
end
section
variable {lv:Bool}{P:SJ}{r:Option Nat}{o:Tu}{s:AS}
theorem ab8{a:Act}{E:Env}{V:View}{av:AV}{N:Act->View->Prop}{Q:Ex->Act->View->Prop}(h1:∀E' V' v,E.Le E'->V'.role=V.role->V'.deaf=V.deaf->Conc E' V' s.H->ap E' av v->N (a.put o.dst v) V'):
  (∀nx V',Nx lv P (ii E V (λb H'=>b=av/\H'=s.H) (λ_ _=>False)) nx V'->m9 lv P r o a N Q nx V')/\(∀v V',ii E V (λb H'=>b=av/\H'=s.H) (λ_ _=>False) (.panic [{v,recovered:=false}]) V'->Q (.panic [{v,recovered:=false}]) a V'):=by
 have hv:∀v V',ii E V (λb H'=>b=av/\H'=s.H) (λ_ _=>False) (.ret v) V'->N (a.put o.dst v) V':=λv V' ⟨b,E',H',hle,cp,fy,bm,bi,e1,e2⟩=>by
  subst e1 e2;exact h1 E' V' v hle cp fy bi bm
 have hp:∀ch V',ii E V (λb H'=>b=av/\H'=s.H) (λ_ _=>False) (.panic ch) V'->Q (.panic ch) a V':=λch V' ⟨pv,v,E',H',fx,hle,cp,fy,bm,bi,hk⟩=>hk.elim;refine⟨λnx V' hn=> ?_,λv V' h=>hp _ _ h⟩;cases nx with
 |value v=>exact hv _ _ hn
 |skip=>exact hv _ _ hn
 |enter f args=>
  refine Body.mono (R':=fun
   |.ret v,V'=>N (a.put o.dst v) V'
   |.panic ch,V'=>Q (.panic ch) a V') hn λot aT h=> ?_
  cases ot with
  |ret v=>exact hv _ _ h
  |panic ch=>exact hp _ _ h
 |round l f tmps aE b=>
  refine nB.mono (R':=fun
   |.ret v,V'=>N (a.put o.dst v) V'
   |.panic ch,V'=>Q (.panic ch) a V') hn λot aT h=> ?_
  cases ot with
  |ret v=>exact hv _ _ h
  |panic ch=>exact hp _ _ h
 |_=>exact hn.elim
theorem aoL{c:Xn}{x y:Th}{t t' elem:TypeId}{sz n m:Nat}{z:SQ}{l l':List AV}{av:AV}(ho:o.op=.call c)(aZ:c.callee=.builtin .append)(cS:c.args=#[x,y]) (dG:c.argTypes=#[t,t']) (ht:j3 P t t'=some (elem,sz,z))
  (hx:s.ev x=some (.sl n l .exact)) (hy:s.ev y=some av) (hs:s.src sz av=some (m,l')) (hl:l.length=n* sz) (eW:l'.length=m* sz) (hb:n+m<=2^30):dI lv P r o s (.sl (n+m) (l++l') .shut):=by
 intro E V a N Q hc aF bC hN;refine⟨bC,?_⟩;have dE:=ap.ev aF hx;have jc:=ap.ev aF hy;generalize kK:a.eval x=vx at dE;generalize sf:a.eval y=vy at jc;unfold execOp;rw[ho];dsimp only;unfold resolve;rw[aZ];dsimp only;refine az (aq ?_);unfold invoke builtin;dsimp only;refine az ?_;have nZ:c.args.map a.eval=#[vx,vy]:=by rw[cS];simp[kK,sf]
 rw[nZ,dG];obtain⟨base,cap,rfl⟩:∃base cap,vx=.slice base n cap:=by
  cases dE with
  |sl b o cap f ec he q1 q2=>exact⟨_,_,rfl⟩
  |nil he=>exact⟨_,_,rfl⟩
 have fX:cap=n:=by
  cases dE with
  |sl b o cap f ec he q1 q2=>exact he
  |nil he=>rfl
 subst fX;have tR:(l++l').length=(cap+m)* sz:=by rw[SP,hl,eW,U9]
 by_cases hm:m=0
 ·subst hm;have tI:l'=[]:=by simpa using eW
  subst tI;refine Hv hc ht jc hs eW (SR _) ?_;refine aq (hN E V _ (Env.Le.refl E) rfl rfl hc ?_);rw[UD,SI];exact iz _ _ _ _ _ dE
 ·refine Hu hc ht dE jc hs hl eW hb (by omega) λrr cs cap' hf bm hle aY=> ?_;obtain⟨bi,rT⟩:=hc.adn (el:=elem) hf aY hle;have u9:(cap+m)* sz<=cs.size:=by rw[aY];exact Uh _ hle
  refine aO.ghost (xQ (f:=(0,0)) (cs:=cs) (el:=elem) (p:=(·<(cap+m)* sz)) (by simp[View.upd]) (λo _=>hf.2 o)) ?_;have qG:=D8 (n:=s.H.length) (m:=s.H.length) (SR _) (by simp[Env.tok,hc.n]) rT hc.n;refine aq (hN _ _ _ qG rfl rfl (bi.trim hc.au) (I1 (I:=(V.laid rr cs elem (·<(cap+m)* sz)).ab) (e:=.shut) (sz:=sz) (cs:=cs) rfl (bm.mono qG) tR u9 (λo h=>GD (by simpa using h)) hle trivial))
theorem AQ.sound{k:AV->Prop}(h:AQ lv P s o k):∃av,dI lv P r o s av/\k av:=by
 unfold AQ at h;split at h
 ·rename_i c ho;split at h
  ·rename_i x aZ;obtain⟨f,h1,hA⟩:=h.out;obtain⟨aE,h2,hB⟩:=hA.out;obtain⟨av,h3,h4⟩:=hB;refine⟨av,λE V a N Q hc aF bC hN=> ?_,h4⟩;have se:=ab8 (lv:=lv) (P:=P) (r:=r) (o:=o) (Q:=Q) hN;refine⟨bC,?_⟩;unfold execOp;rw[ho];dsimp only;unfold resolve;rw[aZ];dsimp only;have e:c.args.map a.eval=(c.args.toList.map a.eval).toArray:=(by apply VE;simp);rw[e];exact(h3 E V (a.eval x) _ hc (ap.ev aF h1) (zN aF h2)).mono (λnx V' h=>se.1 nx V' h) (λv V' h=>se.2 v V' h)
  ·rename_i x name aZ;obtain⟨f,h1,hA⟩:=h.out;obtain⟨aE,h2,hB⟩:=hA.out;obtain⟨av,h3,h4⟩:=hB;refine⟨av,λE V a N Q hc aF bC hN=> ?_,h4⟩;have se:=ab8 (lv:=lv) (P:=P) (r:=r) (o:=o) (Q:=Q) hN;refine⟨bC,?_⟩;unfold execOp;rw[ho];dsimp only;unfold resolve;rw[aZ];dsimp only;refine az (aq ?_);have e:c.args.map a.eval=(c.args.toList.map a.eval).toArray:=(by apply VE;simp);rw[e];exact(h3 E V (a.eval x) _ hc (ap.ev aF h1) (zN aF h2)).mono (λnx V' h=>se.1 nx V' h) (λv V' h=>se.2 v V' h)
  ·rename_i aZ;split at h
   ·rename_i x y t t' ha ht;obtain⟨⟨elem,sz,z⟩,h1,hA⟩:=h.out;obtain⟨a,h2,hB⟩:=hA.out;obtain⟨b,h3,hC⟩:=hB.out;obtain⟨n,l,e,e1,e0,hD⟩:=OQ hC;subst e1 e0;obtain⟨⟨m,l'⟩,h4,h5,h6,h7,h8⟩:=hD.out;exact⟨_,aoL ho aZ (nF ha) (sG ht) h1 h2 h3 h4 h5 h6 h7,h8⟩
   ·exact h.elim
  ·exact h.sound
 ·exact h.sound
end
section
variable {lv:Bool}{P:SJ}{o:Tu}{T T':List (Nat×AV)}{H:List aa}{k:AV->Prop}
theorem B7:∀(l:List Th),(∀x∈l,AS.ev ⟨T,H⟩ x=AS.ev ⟨T',H⟩ x)->fD ⟨T,H⟩ l=fD ⟨T',H⟩ l
 |[],_=>rfl
 |x::l,h=>by simp only[fD,h x (TB ..),B7 l λy hy=>h y (Tb _ hy)]
theorem Jj:∀(l:List (Nat×Th)),(∀x∈l,AS.ev ⟨T,H⟩ x.2=AS.ev ⟨T',H⟩ x.2)->kC ⟨T,H⟩ l=kC ⟨T',H⟩ l
 |[],_=>rfl
 |x::l,h=>by simp only[kC,h x (TB ..),Jj l λy hy=>h y (Tb _ hy)]
theorem mapM_congr:∀(l:List Th),(∀x∈l,AS.ev ⟨T,H⟩ x=AS.ev ⟨T',H⟩ x)->l.mapM (AS.ev ⟨T,H⟩)=l.mapM (AS.ev ⟨T',H⟩)
 |[],_=>rfl
 |x::l,h=>by simp only[T_,h x (TB ..),mapM_congr l λy hy=>h y (Tb _ hy)]
theorem II(x:Option Th)(h:∀y,x=some y->AS.ev ⟨T,H⟩ y=AS.ev ⟨T',H⟩ y):AS.jq ⟨T,H⟩ x=AS.jq ⟨T',H⟩ x:=by
 cases x with
 |none=>rfl
 |some y=>simp only[AS.jq,h y rfl]
theorem aec{op:VZ}{t:TypeId}{y:Th}{a:AV}(h:AS.ev ⟨T,H⟩ y=AS.ev ⟨T',H⟩ y):iX P ⟨T,H⟩ op t y a k=iX P ⟨T',H⟩ op t y a k:=by
 unfold iX;split<;>first|rfl|rw[h]
theorem lT.congr(h:∀x∈o.op.operands,AS.ev ⟨T,H⟩ x=AS.ev ⟨T',H⟩ x)(ha:lT P ⟨T,H⟩ o k):lT P ⟨T',H⟩ o k:=by
 unfold lT at ha⊢;generalize o.op=op at h ha⊢;cases op with
 |call c=>
  have cS:∀x∈c.args,AS.ev ⟨T,H⟩ x=AS.ev ⟨T',H⟩ x:=λx hx=>h x (by simp[Tt,VP,hx]);dsimp only at ha⊢;split at ha
  ·obtain⟨x,h1,hA⟩:=ha.out;rw[h1,ao];obtain⟨t,h2,hB⟩:=hA.out;rw[h2,ao];rw[<- cS x (WZ h1)];obtain⟨a,h3,hC⟩:=hB.out;rw[h3,ao];exact hC
  ·split at ha
   ·rename_i x y Kg;have:=nF Kg;rw[this]at cS;rw[<- cS x (by simp),<- cS y (by simp)];exact ha
   ·exact ha.elim
  ·split at ha
   ·rename_i x y Kg;have:=nF Kg;rw[this]at cS;rw[<- cS x (by simp),<- cS y (by simp)];exact ha
   ·exact ha.elim
  ·exact ha.elim
 |build t parts=>
  dsimp only at ha⊢;rw[<- Jj parts.toList λx hx=>h x.2 (by simp only[Tt,TJ,Tl];exact⟨x,hx,rfl⟩)];exact ha
 |buildSlice t n parts=>
  dsimp only at ha⊢;rw[<- Jj parts.toList λx hx=>h x.2 (by simp only[Tt,TJ,Tl];exact⟨x,hx,rfl⟩)];exact ha
 |makeFunc f first c9=>
  dsimp only at ha⊢;rw[<- mapM_congr first.toList λx hx=>h x (by simp[Tt];exact .inl (by simpa using hx)),<- mapM_congr c9.toList λx hx=>h x (by simp[Tt];exact .inr (by simpa using hx))];exact ha
 |slice t x lo hi mx=>
  dsimp only at ha⊢;rw[<- h x (by simp[Tt]),<- II lo λy hy=>h y (by simp[Tt,hy]),<- II hi λy hy=>h y (by simp[Tt,hy]),<- II mx λy hy=>h y (by simp[Tt,hy])];exact ha
 |pick c a b=>dsimp only at ha⊢;rw[<- h c (by simp[Tt]),<- h a (by simp[Tt]),<- h b (by simp[Tt])];exact ha
 |binOp op t a b u=>
  dsimp only at ha⊢;rw[<- h a (by simp[Tt])];obtain⟨x,h1,hA⟩:=ha.out;rw[h1,ao];rw[<- aec (h b (by simp[Tt]))];exact hA
 |indexAddr t a b=>dsimp only at ha⊢;rw[<- h a (by simp[Tt]),<- h b (by simp[Tt])];exact ha
 |index t a b=>dsimp only at ha⊢;rw[<- h a (by simp[Tt]),<- h b (by simp[Tt])];exact ha
 |move x=>dsimp only at ha⊢;rw[<- h x (by simp[Tt])];exact ha
 |assign x=>dsimp only at ha⊢;rw[<- h x (by simp[Tt])];exact ha
 |unOp op t x=>cases op<;>dsimp only at ha⊢<;>first|exact ha.elim|(rw[<- h x (by simp[Tt])];exact ha)
 |convert a b x=>dsimp only at ha⊢;rw[<- h x (by simp[Tt])];exact ha
 |lookup t m x ok=>dsimp only at ha⊢;rw[<- h m (by simp[Tt]),<- h x (by simp[Tt])];exact ha
 |extract x i=>dsimp only at ha⊢;rw[<- h x (by simp[Tt])];exact ha
 |nilCheck x=>dsimp only at ha⊢;rw[<- h x (by simp[Tt])];exact ha
 |makeInterface t x=>dsimp only at ha⊢;rw[<- h x (by simp[Tt])];exact ha
 |typeAssert x a b c=>dsimp only at ha⊢;rw[<- h x (by simp[Tt])];exact ha
 |fieldAddr t x f=>dsimp only at ha⊢;rw[<- h x (by simp[Tt])];exact ha
 |field t x f=>dsimp only at ha⊢;rw[<- h x (by simp[Tt])];exact ha
 |load t x=>dsimp only at ha⊢;rw[<- h x (by simp[Tt])];exact ha
 |entry x=>dsimp only at ha⊢;rw[<- h x (by simp[Tt])];exact ha
 |_=>exact ha.elim
theorem aqF(sz:Nat)(a:AV):AS.src ⟨T,H⟩ sz a=AS.src ⟨T',H⟩ sz a:=by cases a<;>rfl
theorem AQ.congr(h:∀x∈o.op.operands,AS.ev ⟨T,H⟩ x=AS.ev ⟨T',H⟩ x)(ha:AQ lv P ⟨T,H⟩ o k):AQ lv P ⟨T',H⟩ o k:=by
 unfold AQ at ha⊢;split at ha
 ·rename_i c ho;have cS:∀x∈c.args.toList,AS.ev ⟨T,H⟩ x=AS.ev ⟨T',H⟩ x:=λx hx=>h x (by rw[ho];simp[Tt,VP];exact .inr (by simpa using hx));split at ha
  ·rename_i x aZ;rw[<- h x (by rw[ho];simp[Tt,VP,aZ]),<- B7 _ cS];exact ha
  ·rename_i x name aZ;rw[<- h x (by rw[ho];simp[Tt,VP,aZ]),<- B7 _ cS];exact ha
  ·split at ha
   ·rename_i x y t t' hx ht;rw[hx]at cS;rw[<- cS x (by simp),<- cS y (by simp)];simp only[aqF (T:=T) (T':=T')]at ha;exact ha
   ·exact ha.elim
  ·exact lT.congr h ha
 ·exact lT.congr h ha
end
def de (ops:Array Tu)(j:Nat):Option Nat:=(ops[j]?).bind (·.dst)
inductive Reach (ops:Array Tu):Nat->Nat->Prop
 |Jd {i j:Nat} {o:Tu} (ho:ops[i]?=some o) (hj:j∈cX o):Reach ops i j
 |more {i k j:Nat} {o:Tu} (ho:ops[i]?=some o) (hk:k∈cX o) (h:Reach ops k j):Reach ops i j
def ux (acc:List (List Nat))(o:Tu):List (List Nat):=acc++[(cX o++(cX o).flatMap λj=>acc.getD j []).eraseDups]
def IQ (ops:Array Tu):List (List Nat):=ops.toList.foldl ux []
theorem Pw(ops:Array Tu):∀(l:List Tu)(acc:List (List Nat))(i:Nat),acc.length=i->(∀k o,l[k]?=some o->ops[i+k]?=some o)->(∀a,a<acc.length->∀j∈acc.getD a [],Reach ops a j)->
  ∀a,∀j∈(l.foldl ux acc).getD a [],Reach ops a j
 |[],acc,i,_,_,h,a,j,hj=>by
  simp only[List.foldl_nil]at hj;by_cases ha:a<acc.length
  ·exact h a ha j hj
  ·rw[SD,Uu (by omega)]at hj;simp at hj
 |o::l,acc,i,hi,ho,h,a,j,hj=>by
  rw[UX]at hj;refine Pw ops l (ux acc o) (i+1) (by simp[ux,hi]) (λk o' hk=>by have:=ho (k+1) o' (by simpa using hk);rwa [show i+(k+1)=i+1+k by omega]at this) (λa ha j hj=> ?_) a j hj;have F3:ops[i]?=some o:=by have:=ho 0 o rfl;simpa using this
  have rQ:∀a,a<acc.length->(ux acc o).getD a []=acc.getD a []:=λa ha=>by
   simp[ux,SD,SY ha]
  by_cases gL:a<acc.length
  ·rw[rQ a gL]at hj;exact h a gL j hj
  ·have hae:a=acc.length:=(by simp[ux]at ha;omega);subst hae;have e:(ux acc o).getD acc.length []=(cX o++(cX o).flatMap λj=>acc.getD j []).eraseDups:=by
    simp[ux,SD]
   rw[e,Y7,SV]at hj;rw[hi];rcases hj with hj|hj
   ·exact .Jd F3 hj
   ·obtain⟨k,hk,hj⟩:=S6.1 hj;have CN:k<acc.length:=by
     apply Ts;intro hn;rw[SD,Uu (by omega)]at hj;simp at hj
    exact .more F3 hk (h k CN j hj)
def zI (nt p:Nat)(ops:Array Tu):Bool:=
 let cl:=IQ ops;decide (p<=ops.size)&&
 (SZ ops.size).all (λi=>match ops[i]?with
  |some o=>o.dst.all (·<nt)&& !mL o.op&&(cX o).all (·<i)&&
   (if i<p then
    (SZ i).all (λj=>match o.dst,de ops j with
     |some d,some d'=>d !=d'
     |_,_=>true)&&
    (o.op.operands.toList.all λx=>match x with
     |.tmp t=>(SZ p).all λj=>de ops j !=some t||(cX o).contains j
     |_=>true)&&
    (match o.guard with
     |some (j,_)=>(cX o).contains j
     |none=>true)
   else(SZ i).all λj=>(cl.getD i []).contains j)
  |none=>true)
structure zh (nt p:Nat)(ops:Array Tu):Prop where
 le:p<=ops.size
 dst:∀(i:Nat) o d,ops[i]?=some o->o.dst=some d->d<nt
 v4:∀(i:Nat) o,ops[i]?=some o->mL o.op=false
 low:∀(i:Nat) o,ops[i]?=some o->∀j∈cX o,j<i
 dV:∀(i j:Nat) o d,j<i->i<p->ops[i]?=some o->o.dst=some d->de ops j≠some d
 M1:∀(i:Nat) o t j,i<p->ops[i]?=some o-> .tmp t∈o.op.operands->j<p->de ops j=some t->j∈cX o
 Ci:∀(i:Nat) o j w,i<p->ops[i]?=some o->o.guard=some (j,w)->j∈cX o
 suf:∀(i j:Nat),p<=i->i<ops.size->j<i->Reach ops i j
theorem zI.out{nt p:Nat}{ops:Array Tu}(h:zI nt p ops=true):zh nt p ops:=by
 unfold zI at h;simp only[Ti,decide_eq_true_eq]at h;obtain⟨hle,h⟩:=h;have key:∀(i:Nat) o,ops[i]?=some o->(o.dst.all (·<nt)=true/\mL o.op=false/\(∀j∈cX o,j<i))/\
   (if i<p then
    (SZ i).all (λj=>match o.dst,de ops j with
     |some d,some d'=>d !=d'
     |_,_=>true)&&
    (o.op.operands.toList.all λx=>match x with
     |.tmp t=>(SZ p).all λj=>de ops j !=some t||(cX o).contains j
     |_=>true)&&
    (match o.guard with
     |some (j,_)=>(cX o).contains j
     |none=>true)
   else(SZ i).all λj=>((IQ ops).getD i []).contains j)=true:=λi o ho=>by
  have hi:i<ops.size:=(SU.1 ho).1;have:=Tv.1 h i (by simpa using hi);rw[ho]at this;simp only[Ti,Tv,TZ,decide_eq_true_eq]at this;exact⟨⟨this.1.1.1,this.1.1.2,this.1.2⟩,by simpa only[Ti,Tv]using this.2⟩
 refine⟨hle,λi o d ho hd=> ?_,λi o ho=>(key i o ho).1.2.1,λi o ho=>(key i o ho).1.2.2,λi j o d hj hp ho hd e=> ?_,λi o t j hp ho ht hj e=> ?_,λi o j w hp ho hg=> ?_,λi j hp hi hj=> ?_⟩
 ·have:=(key i o ho).1.1;rw[hd]at this;simpa using this
 ·have:=(key i o ho).2;rw[if_pos hp]at this;simp only[Ti,Tv]at this;have:=this.1.1 j (by simpa using hj);rw[hd,e]at this;simp at this
 ·have:=(key i o ho).2;rw[if_pos hp]at this;simp only[Ti,Tv]at this;have:=this.1.2 (.tmp t) (by simpa using ht);simp only[Tv]at this;have:=this j (by simpa using hj);rw[e]at this;simpa using this
 ·have:=(key i o ho).2;rw[if_pos hp]at this;simp only[Ti]at this;have:=this.2;rw[hg]at this;simpa using this
 ·have:=(key i ops[i] (SK hi)).2;rw[if_neg (by omega)]at this;simp only[Tv]at this;have:=this j (by simpa using hj);refine Pw ops ops.toList [] 0 rfl (λk o hk=>by simpa using hk) (by simp) i j ?_;simpa[IQ]using this
theorem Qo{α β:Type}{f g:α->Option β}:∀{l:List α},(∀x∈l,f x=g x)->l.filterMap f=l.filterMap g
 |[],_=>rfl
 |x::l,h=>by
  have ih:=Qo (l:=l) λy hy=>h y (Tb _ hy);simp only[List.filterMap_cons,h x (TB ..),ih]
def lx (ops:Array Tu)(f:Nat->AV)(o:Tu):List (Nat×AV):=(cX o).filterMap λj=>(de ops j).map λd=>(d,f j)
def vI (lv:Bool)(P:SJ)(r:Option Nat)(ops:Array Tu)(T0:List (Nat×AV))(H:List aa)(f:Nat->AV)(i:Nat)(o:Tu):Prop:=
 match o.guard with
 |none=>dI lv P r o ⟨lx ops f o++T0,H⟩ (f i)
 |some (j,cj)=>∃d,de ops j=some d/\((∃b,look (lx ops f o++T0) d=some (.val (.bool b))/\(b=cj->dI lv P r o ⟨lx ops f o++T0,H⟩ (f i))/\(b= !cj->f i=.val undef))\/(look (lx ops f o++T0) d=some (.val undef)/\f i=.val undef))
theorem vp(l m:List (Nat×AV))(t:Nat):look (l++m) t=(look l t).or (look m t):=by
 induction l with
 |nil=>rfl
 |cons x l ih=>
  obtain⟨k,a⟩:=x;simp only[Ve,look];split
  ·rfl
  ·exact ih
theorem oX{l:List (Nat×AV)}{t:Nat}{a:AV}(h:look l t=some a):(t,a)∈l:=by
 induction l with
 |nil=>cases h
 |cons x l ih=>
  obtain⟨k,b⟩:=x;simp only[look]at h;split at h
  ·rename_i e;subst e;cases h;exact TB ..
  ·exact Tb _ (ih h)
theorem MF{l:List (Nat×AV)}{t:Nat}(h:∀p∈l,p.1≠t):look l t=none:=by
 induction l with
 |nil=>rfl
 |cons x l ih=>
  obtain⟨k,b⟩:=x;simp only[look];rw[if_neg (h _ (TB ..))];exact ih λp hp=>h p (Tb _ hp)
theorem am2{l:List (Nat×AV)}{q:Nat->Bool}{t:Nat}:look (l.filter λp=>q p.1) t=if q t then look l t else none:=by
 induction l with
 |nil=>simp[look]
 |cons x l ih=>
  obtain⟨k,b⟩:=x;by_cases hk:q k=true
  ·rw[Yq (by simpa using hk)];simp only[look];by_cases e:k=t
   ·subst e;simp[hk]
   ·simp[e,ih]
  ·rw[Yr (by simpa using hk),ih];simp only[look];by_cases e:k=t
   ·subst e;simp[hk]
   ·simp[e]
section
variable {ops:Array Tu}{f:Nat->AV}{p:Nat}
theorem am0{o:Tu}{j t:Nat}(hj:j∈cX o)(ht:de ops j=some t)(yl:∀j'∈cX o,de ops j'=some t->j'=j):look (lx ops f o) t=some (f j):=by
 cases e:look (lx ops f o) t with
 |none=>
  exfalso;have hm:(t,f j)∈lx ops f o:=VW.2 ⟨j,hj,by rw[ht];rfl⟩;have:∀(l:List (Nat×AV)),(t,f j)∈l->look l t≠none:=by
   intro l;induction l with
   |nil=>intro h;cases h
   |cons x l ih=>
    intro h;obtain⟨k,b⟩:=x;simp only[look];split
    ·simp
    ·rename_i aG;rcases SL.1 h with h|h
     ·cases h;exact absurd rfl aG
     ·exact ih h
  exact this _ hm e
 |some a=>
  obtain⟨j',iO,e'⟩:=VW.1 (oX e);obtain⟨d,hd,e'⟩:=Tp.1 e';cases e';rw[yl j' iO hd]
theorem am1{o:Tu}{t:Nat}(h:∀j∈cX o,de ops j≠some t):look (lx ops f o) t=none:=by
 refine MF λx hx e=> ?_;obtain⟨j,hj,e'⟩:=VW.1 hx;obtain⟨d,hd,e'⟩:=Tp.1 e';cases e';exact h j hj (by rw[hd];exact congrArg some e)
end
section
variable {lv:Bool}{P:SJ}{r:Option Nat}{s:AS}{ops:Array Tu}{nt p:Nat}
def ut (s:AS)(ops:Array Tu)(p:Nat):List (Nat×AV):=s.T.filter λx=>(SZ p).all λj=>de ops j !=some x.1
theorem GL(t:Nat):look (ut s ops p) t=if(SZ p).all (λj=>de ops j !=some t)then look s.T t else none:=am2 (q:=λt=>(SZ p).all λj=>de ops j !=some t)
structure pf (s:AS)(ops:Array Tu)(fs:List AV)(s':AS):Prop where
 H:s'.H=s.H
 new:∀j t,j<fs.length->de ops j=some t->look s'.T t=fs[j]?
 old:∀t,(∀j,j<fs.length->de ops j≠some t)->look s'.T t=look s.T t
theorem pf.put(au:zh nt p ops){fs:List AV}{s':AS}(h:pf s ops fs s')(hp:fs.length<p){o:Tu}(ho:ops[fs.length]?=some o)(av:AV):pf s ops (fs++[av]) (s'.put o.dst av):=by
 have hd:de ops fs.length=o.dst:=by simp[de,ho]
 refine⟨by rw[fG];exact h.H,λj t hj ht=> ?_,λt ht=> ?_⟩
 ·simp only[SP,T8]at hj;by_cases KW:j=fs.length
  ·subst KW;rw[hd]at ht;rw[ht];simp[AS.put,look]
  ·have iO:j<fs.length:=(by omega);rw[SY iO,<- h.new j t iO ht];cases tC:o.dst with
   |none=>rfl
   |some d=>
    have aG:d≠t:=λe=>au.dV fs.length j o d iO hp ho tC (by rw[e];exact ht);simp[AS.put,look,aG]
 ·have hold:=h.old t λj hj=>ht j (by simp;omega);rw[<- hold];cases tC:o.dst with
  |none=>rfl
  |some d=>
   have aG:d≠t:=λe=>ht fs.length (by simp) (by rw[hd,tC,e]);simp[AS.put,look,aG]
theorem pf.sk{fs:List AV}{s':AS}(h:pf s ops fs s'){d:Nat}{a:AV}(hd:look s'.T d=some a):pf s ops fs ⟨(d,a)::s'.T,s'.H⟩:=by
 have e:∀t,look ((d,a)::s'.T) t=look s'.T t:=λt=>by
  simp only[look];split
  ·rename_i e;subst e;exact hd.symm
  ·rfl
 exact⟨h.H,λj t hj ht=>by rw[e];exact h.new j t hj ht,λt ht=>by rw[e];exact h.old t ht⟩
theorem pf.seen(au:zh nt p ops){fs gs:List AV}{s':AS}(h:pf s ops fs s')(hp:fs.length<p){o:Tu}(ho:ops[fs.length]?=some o){t:Nat}(ht:∀j,j<p->de ops j=some t->j∈cX o):
  look (lx ops (λj=>(fs++gs).getD j (.val undef)) o++ut s ops p) t=look s'.T t:=by
 have iH:=au.low fs.length o ho;have alF:∀j j',j<p->j'<p->de ops j=some t->de ops j'=some t->j'=j:=λj j' hj iO e e'=>by
  have get:∀i,i<p->∃o,ops[i]?=some o:=λi hi=>⟨_,SK (Tc hi au.le)⟩;rcases XT j j' with hlt|hlt|hlt
  ·obtain⟨o',bc⟩:=get j' iO;exact absurd e (au.dV j' j o' t hlt iO bc (by simpa[de,bc]using e'))
  ·exact hlt.symm
  ·obtain⟨o',bc⟩:=get j hj;exact absurd e' (au.dV j j' o' t hlt hj bc (by simpa[de,bc]using e))
 rw[vp];by_cases hex:∃j,j<p/\de ops j=some t
 ·obtain⟨j,hj,wy⟩:=hex;have dW:=ht j hj wy;have fE:=iH j dW;rw[am0 dW wy λj' iO e=>alF j j' hj (Wn (iH j' iO) hp) wy e];rw[h.new j t fE wy];simp[SD,SY fE,SO fE]
 ·have fM:∀j,j<p->de ops j≠some t:=λj hj e=>hex ⟨j,hj,e⟩;rw[am1 λj hj=>fM j (Wn (iH j hj) hp),Option.none_or,GL,if_pos (by simp only[Tv];intro j hj;simpa using fM j (by simpa using hj))];exact(h.old t λj hj=>fM j (by omega)).symm
theorem Hm(au:zh nt p ops){K:AS->Prop}:∀(n:Nat)(fs:List AV)(s':AS),fs.length+n=p->pf s ops fs s'->nz lv P ops ((ops.toList.take p).drop fs.length) s' K->
  ∃gs,(fs++gs).length=p/\(∀i o,fs.length<=i->i<p->ops[i]?=some o->vI lv P r ops (ut s ops p) s.H (λj=>(fs++gs).getD j (.val undef)) i o)/\∃dw,pf s ops (fs++gs) dw/\K dw
 |0,fs,s',hn,hr,h=>by
  have:(ops.toList.take p).drop fs.length=[]:=by
   apply TW;simp;omega
  rw[this]at h;exact⟨[],by simp;omega,λi o h1 h2=>absurd h2 (by omega),s',by simpa using hr,h⟩
 |n+1,fs,s',hn,hr,h=>by
  have hp:fs.length<p:=by omega
  have aY:fs.length<ops.size:=Tc hp au.le;have ho:ops[fs.length]?=some ops[fs.length]:=SK aY;generalize Lf:ops[fs.length]=o at ho;have hd:(ops.toList.take p).drop fs.length=o::(ops.toList.take p).drop (fs.length+1):=by
   rw[TR (by simp;omega)];simp[Lf]
  rw[hd]at h;have akW:∀t,asI t∈o.op.operands->∀j,j<p->de ops j=some t->j∈cX o:=λt ht j hj e=>au.M1 fs.length o t j hp ho ht hj e;have cC:∀(s1:AS)(gs:List AV),pf s ops fs s1->∀x∈o.op.operands,AS.ev s1 x=AS.ev ⟨lx ops (λj=>(fs++gs).getD j (.val undef)) o++ut s ops p,s.H⟩ x:=λs1 gs C0 x hx=>by
   cases x with
   |tmp t=>exact(C0.seen au hp ho (akW t hx)).symm
   |_=>rfl
  have go:∀(s1:AS),pf s ops fs s1->(AQ lv P s1 o λav=>nz lv P ops ((ops.toList.take p).drop (fs.length+1)) (s1.put o.dst av) K)->
    ∃av gs,(fs++av::gs).length=p/\dI lv P r o ⟨lx ops (λj=>(fs++av::gs).getD j (.val undef)) o++ut s ops p,s.H⟩ av/\(∀i o,fs.length+1<=i->i<p->ops[i]?=some o->vI lv P r ops (ut s ops p) s.H (λj=>(fs++av::gs).getD j (.val undef)) i o)/\∃dw,pf s ops (fs++av::gs) dw/\K dw:=λs1 C0 h1=>by
   obtain⟨av0,_,_⟩:=h1.sound (r:=r);have dN:s1=⟨s1.T,s.H⟩:=(by rw[<- C0.H]);rw[dN]at h1;have h2:=AQ.congr (T':=lx ops (λj=>(fs++[]).getD j (.val undef)) o++ut s ops p) (λx hx=>by rw[<- dN];exact cC s1 [] C0 x hx) h1;obtain⟨av,hq,h3⟩:=h2.sound (r:=r);obtain⟨gs,g1,g2,dw,g3,g4⟩:=Hm au n (fs++[av]) (s1.put o.dst av) (by simp;omega) (C0.put au hp ho av) (by rw[<- dN]at h3;simpa using h3);have e:fs++[av]++gs=fs++av::gs:=(by simp);rw[e]at g1 g2 g3;refine⟨av,gs,g1,?_,λi o hi=>g2 i o (by simpa using hi),dw,g3,g4⟩;have ed:lx ops (λj=>(fs++av::gs).getD j (.val undef)) o=lx ops (λj=>(fs++[]).getD j (.val undef)) o:=by
    unfold lx;apply Qo;intro j hj;have fE:=au.low fs.length o ho j hj;simp[SD,SY fE]
   rw[ed];exact hq
  simp only[nz]at h;split at h
  ·rename_i hg;obtain⟨av,gs,g1,g2,g3,g4⟩:=go s' hr h;refine⟨av::gs,g1,λi o' hi oR bc=> ?_,g4⟩;by_cases dF:i=fs.length
   ·subst dF;rw[ho]at bc;cases bc;unfold vI;rw[hg];simpa[SD]using g2
   ·exact g3 i o' (by omega) oR bc
  ·rename_i j cj hg;obtain⟨d,bY,hA⟩:=h.out;obtain⟨a,fF,hB⟩:=hA.out;have dW:=au.Ci fs.length o j cj hp ho hg;have fE:=au.low fs.length o ho j dW;have Lz:∀gs,look (lx ops (λj=>(fs++gs).getD j (.val undef)) o++ut s ops p) d=some a:=λgs=>by
    rw[hr.seen au hp ho λj' iO e=> ?_]
    ·exact fF
    ·have get:∀i,i<p->∃o,ops[i]?=some o:=λi hi=>⟨_,SK (Tc hi au.le)⟩;rcases XT j j' with hlt|hlt|hlt
     ·obtain⟨o',bc⟩:=get j' iO;exact absurd bY (au.dV j' j o' d hlt iO bc (by simpa[de,bc]using e))
     ·rw[<- hlt];exact dW
     ·obtain⟨o',bc⟩:=get j (by omega);exact absurd e (au.dV j j' o' d hlt (by omega) bc (by simpa[de,bc]using bY))
   rcases hB with⟨b,e1,hC,hD⟩|⟨e1,hZ⟩
   rotate_left
   ·subst e1;obtain⟨gs,g1,g2,dw,g3,g4⟩:=Hm au n (fs++[.val undef]) _ (by simp;omega) (hr.put au hp ho (.val undef)) (by simpa using hZ);have e:fs++[.val undef]++gs=fs++ .val undef::gs:=(by simp);rw[e]at g1 g2 g3;refine⟨.val undef::gs,g1,λi o' hi oR bc=> ?_,dw,g3,g4⟩;by_cases dF:i=fs.length
    ·subst dF;rw[ho]at bc;cases bc;unfold vI;rw[hg];exact⟨d,bY,.inr ⟨Lz _,by simp[SD]⟩⟩
    ·exact g2 i o' (by simp;omega) oR bc
   subst e1;by_cases hb:b=cj
   ·subst hb;obtain⟨av,gs,g1,g2,g3,g4⟩:=go _ (hr.sk fF) (hC rfl);refine⟨av::gs,g1,λi o' hi oR bc=> ?_,g4⟩;by_cases dF:i=fs.length
    ·subst dF;rw[ho]at bc;cases bc;unfold vI;rw[hg];refine⟨d,bY,.inl ⟨b,Lz _,λ_=>by simpa[SD]using g2,λe=>by cases b<;>cases e⟩⟩
    ·exact g3 i o' (by omega) oR bc
   ·have dL:b= !cj:=(by cases b<;>cases cj<;>simp_all);subst dL;have h3:=hD rfl;obtain⟨gs,g1,g2,dw,g3,g4⟩:=Hm au n (fs++[.val undef]) _ (by simp;omega) ((hr.sk fF).put au hp ho (.val undef)) (by simpa using h3);have e:fs++[.val undef]++gs=fs++ .val undef::gs:=(by simp);rw[e]at g1 g2 g3;refine⟨.val undef::gs,g1,λi o' hi oR bc=> ?_,dw,g3,g4⟩;by_cases dF:i=fs.length
    ·subst dF;rw[ho]at bc;cases bc;unfold vI;rw[hg];exact⟨d,bY,.inl ⟨!cj,Lz _,λe=>absurd e hb,λ_=>by simp[SD]⟩⟩
    ·exact g2 i o' (by simp;omega) oR bc
structure Ib (E:Env)(V:View)(ops:Array Tu)(T0:List (Nat×AV))(H:List aa)(f:Nat->AV)(X:List Nat)(a:Act)(nt:Nat):Prop where
 bu:Conc E V H
 base:cw E T0 a.tmps
 done:∀i∈X,∀d,de ops i=some d->ap E (f i) (a.tmps.getD d undef)
 size:a.tmps.size=nt
theorem AZ{X:List Nat}(hX:∀i∈X,∀o,ops[i]?=some o->∀j∈cX o,j∈X){i j:Nat}(h:Reach ops i j):((∀o,ops[i]?=some o->∀k∈cX o,k∈X))->j∈X:=by
 induction h with
 |Jd ho hj=>intro hd;exact hd _ ho _ hj
 |more ho hk _ ih=>intro hd;exact ih (hX _ (hd _ ho _ hk))
theorem ap5(au:zh nt p ops){X l:List Nat}(hs:mw ops X l):∀q,p<=q->q<=ops.size->(∀i,i∈X<->i<q)->(∀i∈X,∀o,ops[i]?=some o->∀j∈cX o,j∈X)->l=Ud q (ops.size-q):=by
 induction hs with
 |nil X h=>
  intro q hp hq hX _;have:ops.size<=q:=by
   apply Ts;intro hn;have:=(hX q).1 (h q (by omega));omega
  have:ops.size-q=0:=by omega
  rw[this];rfl
 |cons o ho hn hd _ ih=>
  rename_i X i l _;intro q hp hq hX hc;have hi:i<ops.size:=(SU.1 ho).1;have hiq:q<=i:=by
   apply Ts;intro h;exact hn ((hX i).2 (by omega))
  have hqi:i=q:=by
   apply Ts;intro aG;have:=AZ hc (au.suf i q (by omega) hi (by omega)) (λo' bc k hk=>by rw[ho]at bc;cases bc;exact hd k hk);have:=(hX q).1 this;omega
  subst hqi;have e:ops.size-i=(ops.size-(i+1))+1:=by omega
  rw[e,VT];congr 1;refine ih (i+1) (by omega) (by omega) (λk=> ?_) (λk hk o' bc j hj=> ?_)
  ·simp only[SL,hX];omega
  ·rcases SL.1 hk with rfl|hk
   ·rw[ho]at bc;cases bc;exact Tb _ (hd j hj)
   ·exact Tb _ (hc k hk o' bc j hj)
theorem ag3{T0:List (Nat×AV)}{H:List aa}{f:Nat->AV}(au:zh nt p ops)(ajP:∀j,j<p->∀d,de ops j=some d->look T0 d=none)(ay:∀(i:Nat) o,i<p->ops[i]?=some o->vI lv P r ops T0 H f i o){X l:List Nat}(hs:mw ops X l):
  (∀i∈X,i<p)->(∀i∈X,∀o,ops[i]?=some o->∀j∈cX o,j∈X)->∀(E:Env)(V:View)(a:Act)(Q:Ex->Act->View->Prop),Ib E V ops T0 H f X a nt->
   (∀E' V' a' X',Kept E E' V V' a a'->Ib E' V' ops T0 H f X' a' nt->(∀i,i<p->i∈X')->dz lv P r ops Q (Ud p (ops.size-p)) a' V')->dz lv P r ops Q l a V:=by
 have full:∀X:List Nat,(∀i∈X,i<p)->(∀i,i<p->i∈X)->∀i,i∈X<->i<p:=λX h1 h2 i=>⟨h1 i,h2 i⟩;induction hs with
 |nil X h=>
  intro hX hc E V a Q ah hQ;have dQ:p=ops.size:=by
   apply Ts;intro aG;have:=hX p (h p (by have:=au.le;omega));omega
  have:=hQ E V a X (Kept.refl E V a) ah (λi hi=>h i (by omega));rw[dQ,Va]at this;exact this
 |cons o ho hn hd l_ ih=>
  rename_i X i l;intro hX hc E V a Q ah hQ;have hi:i<ops.size:=(SU.1 ho).1;by_cases oR:i<p
  ·simp only[dz,ho];have oN:∀k∈i::X,k<p:=λk hk=>(SL.1 hk).elim (λe=>by rw[e];exact oR) (hX k);have bi:∀k∈i::X,∀o',ops[k]?=some o'->∀j∈cX o',j∈i::X:=λk hk o' bc j hj=>by
    rcases SL.1 hk with rfl|hk
    ·rw[ho]at bc;cases bc;exact Tb _ (hd j hj)
    ·exact Tb _ (hc k hk o' bc j hj)
   have tok:cw E (lx ops f o++T0) a.tmps:=by
    intro t av e;rw[vp]at e;cases hl:look (lx ops f o) t with
    |none=>rw[hl]at e;exact ah.base t av e
    |some x=>
     rw[hl]at e;cases e;obtain⟨j,hj,e⟩:=VW.1 (oX hl);obtain⟨d,cG,e⟩:=Tp.1 e;cases e;obtain⟨oj,k_,jw⟩:=Te.1 cG;exact⟨by rw[ah.size];exact au.dst j oj _ k_ jw,ah.done j (hd j hj) _ cG⟩
   have tC:de ops i=o.dst:=(by simp[de,ho]);have put:∀{E' V'}(v:SQ),E.Le E'->Conc E' V' H->ap E' (f i) v->Ib E' V' ops T0 H f (i::X) (a.put o.dst v) nt:=λ{E' V'} v hle cU hv=>by
    cases dB:o.dst with
    |none=>
     refine⟨cU,ah.base.mono hle,λk hk d eK=> ?_,ah.size⟩;rcases SL.1 hk with rfl|hk
     ·rw[tC,dB]at eK;cases eK
     ·exact(ah.done k hk d eK).mono hle
    |some d0=>
     have hlt:d0<a.tmps.size:=(by rw[ah.size];exact au.dst i o d0 ho dB);refine⟨cU,λt av e=> ?_,λk hk d eK=> ?_,by simp[XZ,ah.size]⟩
     ·have aG:d0≠t:=λe'=>(by rw[<- e',ajP i oR d0 (by rw[tC,dB])]at e;cases e);have:=ah.base.mono hle t av e;exact⟨by simpa[XZ]using this.1,by simpa[XZ,SH,SW aG]using this.2⟩
     ·by_cases rS:k=i
      ·subst rS;rw[tC,dB]at eK;cases eK;simpa[XZ,SH,S_ hlt]using hv
      ·have aJ:k∈X:=(SL.1 hk).resolve_left rS;have aG:d0≠d:=λe'=>by
        subst e';have R8:=hX k aJ;have get:∀i,i<p->∃o,ops[i]?=some o:=λi hi=>⟨_,SK (Tc hi au.le)⟩;rcases XT k i with hlt|hlt|hlt
        ·exact au.dV i k o d0 hlt oR ho dB eK
        ·exact rS hlt
        ·obtain⟨o',bc⟩:=get k R8;exact au.dV k i o' d0 hlt R8 bc (by simpa[de,bc]using eK) (by rw[tC,dB])
       have:=(ah.done k aJ d eK).mono hle;simpa[XZ,SH,SW aG]using this
   have go:dI lv P r o ⟨lx ops f o++T0,H⟩ (f i)->xo lv P r o a V (dz lv P r ops Q l) Q:=λhq=>
    hq E V a _ Q ah.bu tok (.inr (au.v4 i o ho)) λE' V' v hle cp fy cU hv=>
     ih oN bi E' V' (a.put o.dst v) Q (put v hle cU hv) λbW aT cx m_ hk dt fW=>
      hQ bW aT cx m_ ⟨hle.trans hk.le,hk.size.trans (ey _ _ _),hk.defers.trans (put_defers _ _ _),hk.role.trans cp,hk.deaf.trans fy⟩ dt fW
   have Af:=ay i o oR ho;unfold vI at Af;split at Af
   ·rename_i CK;have hw:Tg o (yielded ops a.tmps)=true:=(by unfold Tg;rw[CK]);rw[if_pos hw];exact .inl (go Af)
   ·rename_i j cj CK;obtain⟨d,bY,Af⟩:=Af;rcases Af with⟨b,bT,h1,h2⟩|⟨bT,hu⟩
    rotate_left
    ·obtain⟨hlt,hv⟩:=tok d _ bT;have hy:yielded ops a.tmps j≠some cj:=by
      obtain⟨oj,k_,jw⟩:=Te.1 bY;generalize hx:a.tmps.getD d undef=x at hv;cases hv;rw[SH,SK hlt]at hx;simp only[S7]at hx;simp[yielded,k_,jw,SK hlt,hx,undef]
     have hw:¬Tg o (yielded ops a.tmps)=true:=by
      unfold Tg;rw[CK];intro h;exact hy (by simpa using h)
     rw[if_neg hw];exact ih oN bi E V (a.put o.dst undef) Q (put undef (Env.Le.refl E) ah.bu (by rw[hu];exact .val _)) λbW aT cx m_ hk dt fW=>
      hQ bW aT cx m_ ⟨hk.le,hk.size.trans (ey _ _ _),hk.defers.trans (put_defers _ _ _),hk.role,hk.deaf⟩ dt fW
    obtain⟨hlt,hv⟩:=tok d _ bT;have hy:yielded ops a.tmps j=some b:=by
     obtain⟨oj,k_,jw⟩:=Te.1 bY;generalize hx:a.tmps.getD d undef=x at hv;cases hv;rw[SH,SK hlt]at hx;simp only[S7]at hx;simp[yielded,k_,jw,SK hlt,hx]
    by_cases hb:b=cj
    ·have hw:Tg o (yielded ops a.tmps)=true:=(by unfold Tg;rw[CK];simp[hy,hb]);rw[if_pos hw];exact .inl (go (h1 hb))
    ·have hw:¬Tg o (yielded ops a.tmps)=true:=(by unfold Tg;rw[CK];simp[hy,hb]);rw[if_neg hw];have hu:=h2 (by cases b<;>cases cj<;>simp_all);exact ih oN bi E V (a.put o.dst undef) Q (put undef (Env.Le.refl E) ah.bu (by rw[hu];exact .val _)) λbW aT cx m_ hk dt fW=>
      hQ bW aT cx m_ ⟨hk.le,hk.size.trans (ey _ _ _),hk.defers.trans (put_defers _ _ _),hk.role,hk.deaf⟩ dt fW
  ·have fW:∀k,k<p->k∈X:=λk hk=>AZ hc (au.suf i k (by omega) hi (by omega)) (λo' bc j hj=>by rw[ho]at bc;cases bc;exact hd j hj);have hl:=ap5 au (.cons o ho hn hd l_) p (SR _) au.le (full X hX fW) hc;rw[hl];exact hQ E V a X (Kept.refl E V a) ah fW
theorem afy{id:Nat}{Φ:an->AS->Prop}(hm:P.follows .mixedOrders=true)(p:Nat)(au:zI nt p ops=true)(h:nz lv P ops (ops.toList.take p) s (λs'=>iL lv P ops (ops.toList.drop p) s' (Φ .normal) (λpv s=>Φ (.panic pv) s))):aQ lv P r nt (.region id ops true) s Φ:=by
 intro E V a Q ah hQ;have au:=zI.out au;obtain⟨gs,g1,g2,dw,g3,g4⟩:=Hm (lv:=lv) (r:=r) au p [] s (by simp) ⟨rfl,by simp,by simp⟩ (by simpa using h);simp only[UK]at g1 g2 g3;refine Oe λt=> ?_;rw[show VN (P.follows .mixedOrders) ops t=UF .any ops ops.size t (TK ops.size false) [] by unfold VN;rw[hm];simp[Y_]];have hs:=aaW (ops:=ops) (λi o ho j hj=>au.low i o ho j hj) ops.size t (TK ops.size false) [] ⟨by simp,λi hi=>by simp[hi]⟩ (UL Y1 (by simp));refine ag3 (T0:=ut s ops p) (H:=s.H) au (λj hj d hd=> ?_) (λi o hi ho=>g2 i o (by simp) hi ho) hs (by simp) (by simp) E V a Q ⟨ah.bu,λt av e=> ?_,by simp,ah.size⟩ λE' V' a' X' hk aV fW=> ?_
 ·rw[GL,if_neg];simp only[Tv];intro h;have:=h j (by simpa using hj);rw[hd]at this;simp at this
 ·rw[GL]at e;split at e
  ·exact ah.tok t av e
  ·cases e
 ·refine AP (Φ:=Φ) (λo ho d e=> ?_) (λo ho=> .inr ?_) (ops.size-p) p dw (by have:=au.le;omega) g4 E' V' a' Q ⟨by rw[g3.H];exact aV.bu,λt av e=> ?_,aV.size⟩ (λae e bW aT cx s3 aJ qA he hΦ=>hQ ae e bW aT cx s3 (hk.trans aJ) qA he hΦ)
  ·obtain⟨i,hi⟩:=YC.1 ho;exact au.dst i o d hi e
  ·obtain⟨i,hi⟩:=YC.1 ho;exact au.v4 i o hi
  ·by_cases hex:∃j,j<p/\de ops j=some t
   ·obtain⟨j,hj,wy⟩:=hex;rw[g3.new j t (by omega) wy]at e;obtain⟨oj,k_,jw⟩:=Te.1 wy;refine⟨by rw[aV.size];exact au.dst j oj t k_ jw,?_⟩;have:=aV.done j (fW j hj) t wy;simpa[SD,e]using this
   ·have fM:∀j,j<p->de ops j≠some t:=λj hj e=>hex ⟨j,hj,e⟩;rw[g3.old t λj hj=>fM j (by omega)]at e;refine aV.base t av ?_;rw[GL,if_pos (by simp only[Tv];intro j hj;simpa using fM j (by simpa using hj))];exact e
end
def sQ (T base Vn:List (Nat×AV)):Prop:=T.drop (T.length-base.length)=base/\((T.take (T.length-base.length)).all λp=>(Vn.any λq=>q.1==p.1)|| !(base.any λq=>q.1==p.1))=true
theorem ae3{l:List (Nat×AV)}{t:Nat}{a:AV}(h:look l t=some a):(l.any λq=>q.1==t)=true:=UI.2 ⟨_,oX h,by simp⟩
theorem ME{l:List (Nat×AV)}{t:Nat}(h:(l.any λq=>q.1==t)=true):∃a,look l t=some a:=by
 induction l with
 |nil=>cases h
 |cons x l ih=>
  obtain⟨k,b⟩:=x;simp only[look];split
  ·exact⟨b,rfl⟩
  ·rename_i aG;refine ih ?_;simpa[YP,aG]using h
theorem sQ.look{T base Vn:List (Nat×AV)}(h:sQ T base Vn){t:Nat}{a:AV}(hb:look base t=some a)(hv:look Vn t=none):look T t=some a:=by
 obtain⟨h1,h2⟩:=h;have e:T=T.take (T.length-base.length)++base:=by
  have:=(Vd (T.length-base.length) T).symm;rwa [h1]at this
 rw[e,vp];cases hl:Gg.look (T.take (T.length-base.length)) t with
 |none=>exact hb
 |some x=>
  exfalso;have:=Tv.1 h2 _ (oX hl);simp only[X0,TZ]at this;rcases this with this|this
  ·obtain⟨y,hy⟩:=ME this;rw[hv]at hy;cases hy
  ·rw[ae3 hb]at this;cases this
def ru (base Vi Vn:List (Nat×AV))(Hn:List aa)(s':AS):Prop:=
 sQ s'.T (Vi++base) Vn/\(∀p∈Vn,∃b,look s'.T p.1=some b/\Wk b p.2)/\∃G,s'.H=Hn++G/\(G=[]\/(bM Hn/\∀p∈Vn,Lt Hn.length p.2))
section
variable {lv:Bool}{P:SJ}{r:Option Nat}{s:AS}
theorem zx{nt:Nat}{α:Type}{lt:α->α->Prop}(wf:WellFounded lt){c:Ua}{Φ:an->AS->Prop}(V:α->List (Nat×AV))(Hf:α->List aa)(ok:α->Prop)(m0:α)
  (uV:∀m m',(V m).map (·.1)=(V m').map (·.1)) (gY:∀p∈V m0,∃b,look s.T p.1=some b/\Wk b p.2) (uG:Hf m0=s.H) (hl:∀m,ok m->(Hf m).length=s.H.length) (hm:ok m0)
  (h:bM s.H->(∀t a,look s.T t=some a->Lt s.H.length a)->∀m,ok m->∀R:AS->Prop,(∀s',(∃m',lt m' m/\ok m'/\ru s.T (V m) (V m') (Hf m') s')->R s')->aQ lv P r nt c ⟨V m++s.T,Hf m⟩ (an.then R Φ)):aQ lv P r nt (.loop c) s Φ:=by
 have same:∀m m' t,look (V m) t=none->look (V m') t=none:=λm m' t h=>MF λp hp e=>by
  have h1:p.1∈(V m').map (·.1):=Tl.2 ⟨p,hp,rfl⟩;rw[uV m' m]at h1;obtain⟨q,hq,e'⟩:=Tl.1 h1;have h2:((V m).any λx=>x.1==t)=true:=UI.2 ⟨q,hq,by simp[e',e]⟩;obtain⟨a,ha⟩:=ME h2;rw[h]at ha;cases ha
 intro E V0 a Q ah hQ;have hlt:∀t a,look s.T t=some a->Lt s.H.length a:=λt x e=>by rw[<- ah.bu.n];exact(ah.tok t x e).2.lt
 have h0:s.Sub ⟨V m0++s.T,Hf m0⟩:=⟨λt x e=>by
  rw[vp]at e;cases hl:look (V m0) t with
  |none=>rw[hl]at e;exact⟨x,e,Wk.refl x⟩
  |some y=>rw[hl]at e;cases e;exact gY (t,x) (oX hl),uG.symm⟩
 refine O2 wf (s:=s) (λm=>⟨V m++s.T,Hf m⟩) ok m0 h0 hm (λm au=>by rw[hl m au];exact SR _) (λm au=> ?_) E V0 a Q ah hQ;refine(h ah.bu.au hlt m au _ λ_ h=>h).mono λe s' hΦ=> ?_;cases e with
 |normal=>
  obtain⟨m',q1,q2,hk,hv,G,hG,tE⟩:=hΦ;have tok:∀t x,look (V m'++s.T) t=some x->∃b,look s'.T t=some b/\Wk b x/\(look (V m') t=some x\/look s.T t=some x):=λt x e=>by
   rw[vp]at e;cases hl:look (V m') t with
   |none=>
    rw[hl]at e;have hb:look (V m++s.T) t=some x:=(by rw[vp,same m' m t hl];exact e);exact⟨x,hk.look hb hl,Wk.refl x,.inr e⟩
   |some y=>
    rw[hl]at e;cases e;obtain⟨b,h1,h2⟩:=hv (t,x) (oX hl);exact⟨b,h1,h2,.inl rfl⟩
  refine⟨m',q1,q2,?_⟩;rcases tE with rfl|⟨n5,K0⟩
  ·exact .inl ⟨λt x e=>by obtain⟨b,h1,h2,_⟩:=tok t x e;exact⟨b,h1,h2⟩,by rw[hG,SI]⟩
  ·refine .inr ⟨λt x e=> ?_,⟨G,hG⟩,n5⟩;obtain⟨b,h1,h2,h3⟩:=tok t x e;refine⟨b,h1,h2,?_⟩;rcases h3 with h3|h3
   ·exact K0 (t,x) (oX h3)
   ·show Lt (Hf m').length x;rw[hl m' q2];exact hlt t x h3
 |_=>exact hΦ
theorem iD{nt:Nat}{c:Ua}{Φ:an->AS->Prop}(n:Nat)(V:Nat->List (Nat×AV))(Hf:Nat->List aa)(ok:Nat->Prop)
  (uV:∀m m',(V m).map (·.1)=(V m').map (·.1)) (gY:∀p∈V 0,∃b,look s.T p.1=some b/\Wk b p.2) (uG:Hf 0=s.H) (hl:∀m,m<=n->ok m->(Hf m).length=s.H.length) (hm:ok 0)
  (h:bM s.H->(∀t a,look s.T t=some a->Lt s.H.length a)->∀m,m<=n->ok m->∀R:AS->Prop,(∀s',(m<n/\ok (m+1)/\ru s.T (V m) (V (m+1)) (Hf (m+1)) s')->R s')->aQ lv P r nt c ⟨V m++s.T,Hf m⟩ (an.then R Φ)):aQ lv P r nt (.loop c) s Φ:=by
 refine zx (measure λi=>n-i).wf V Hf (λi=>i<=n/\ok i) 0 uV gY uG (λm h=>hl m h.1 h.2) ⟨Xz _,hm⟩ (λh1 h2 m au R hR=> ?_);exact h h1 h2 m au.1 au.2 R λs' ⟨q1,q2,q3⟩=>hR s' ⟨m+1,(by show n-(m+1)<n-m;omega),⟨q1,q2⟩,q3⟩
end
theorem qS{T base Vn:List (Nat×AV)}(h1:T.drop (T.length-base.length)=base)(h2:((T.take (T.length-base.length)).all λp=>(Vn.any λq=>q.1==p.1)|| !(base.any λq=>q.1==p.1))=true):sQ T base Vn:=⟨h1,h2⟩
theorem lX{H L:List aa}{x:SQ}{k:AV->List aa->Prop}(hH:bM H)(h:k (.val x) H):cK H.length (H++L) (.val x) k:=kg (Wk.refl _) rfl (SR _) hH (.val x) h
theorem jN{H L:List aa}{a b:AV}{k:AV->List aa->Prop}(hH:bM H)(hw:Wk a b)(hl:Lt H.length b)(h:k b H):cK H.length (H++L) a k:=kg hw rfl (SR _) hH hl h
def aa.cellsOf:aa->Option (List AV)
 |.cells l _|.part _ l _|.own _ l _=>some l
 |_=>none
theorem agv(l:List AV)(e:TypeId):aa.cellsOf (.cells l e)=some l:=rfl
theorem agx(p:Nat)(l:List AV)(e:TypeId):aa.cellsOf (.part p l e)=some l:=rfl
def aa.rowOf:aa->Option (List AV)
 |.cells l _|.part _ l _|.own _ l _=>some l
 |_=>none
theorem apI(l:List AV)(e:TypeId):aa.rowOf (.cells l e)=some l:=rfl
theorem agw(p:Nat)(l:List AV)(e:TypeId):aa.cellsOf (.own p l e)=some l:=rfl
theorem apJ(p:Nat)(l:List AV)(e:TypeId):aa.rowOf (.own p l e)=some l:=rfl
theorem apK(p:Nat)(l:List AV)(e:TypeId):aa.rowOf (.part p l e)=some l:=rfl
theorem afv(T:List (Nat×AV))(H:List aa)(i off:Nat):AS.at ⟨T,H⟩ (.op i off)=((H[i]?).bind aa.cellsOf).map λl=>l.drop off:=by
 simp only[AS.at];cases H[i]?with
 |none=>rfl
 |some x=>cases x<;>rfl
theorem aoj(k:TY)(n:Int):AV.parts (.val (.int k n))=some [.val (.int k n)]:=rfl
theorem aof(b:Bool):AV.parts (.val (.bool b))=some [.val (.bool b)]:=rfl
theorem aot(b:ByteArray):AV.parts (.val (.string b))=some [.val (.string b)]:=rfl
theorem aoq(b:Option U1):AV.parts (.val (.pointer b))=some [.val (.pointer b)]:=rfl
theorem aom:AV.parts (.val .nilFunc)=some [.val .nilFunc]:=rfl
theorem aon:AV.parts (.val .nilIface)=some [.val .nilIface]:=rfl
theorem aok(r:Option Nat):AV.parts (.val (.map r))=some [.val (.map r)]:=rfl
theorem aoe(l:List AV):AV.parts (.agg l)=some l:=rfl
theorem aos(n:Nat)(l:List AV)(e:End):AV.parts (.sl n l e)=some [.sl n l e]:=rfl
theorem amI(n:Nat)(l:List AV)(e:End):AV.len (.sl n l e)=some n:=by rw[AV.len]
theorem amH(i o n c:Nat):AV.len (.bp i o n c)=some n:=by rw[AV.len]
attribute [seval] amI amH
theorem aop(i o n c:Nat):AV.parts (.bp i o n c)=some [.bp i o n c]:=rfl
theorem aor(l:List AV):AV.parts (.rp l)=some [.rp l]:=rfl
theorem aoo(i o:Nat):AV.parts (.op i o)=some [.op i o]:=rfl
theorem aoh(f:Fn)(l m:List AV):AV.parts (.fn f l m)=some [.fn f l m]:=rfl
theorem aoi(t:TypeId)(a:AV):AV.parts (.dh t a)=some [.dh t a]:=rfl
theorem aol(i:Nat):AV.parts (.mp i)=some [.mp i]:=rfl
theorem ams(k:TY)(n:Int):AV.leaf (.val (.int k n))=true:=rfl
theorem amo(b:Bool):AV.leaf (.val (.bool b))=true:=rfl
theorem amD(b:ByteArray):AV.leaf (.val (.string b))=true:=rfl
theorem amA(b:Option U1):AV.leaf (.val (.pointer b))=true:=rfl
theorem amv:AV.leaf (.val .nilFunc)=true:=rfl
theorem amw:AV.leaf (.val .nilIface)=true:=rfl
theorem amt(r:Option Nat):AV.leaf (.val (.map r))=true:=rfl
theorem amC(n:Nat)(l:List AV)(e:End):AV.leaf (.sl n l e)=true:=rfl
theorem amz(i o n c:Nat):AV.leaf (.bp i o n c)=true:=rfl
theorem amB(l:List AV):AV.leaf (.rp l)=true:=rfl
theorem amy(i o:Nat):AV.leaf (.op i o)=true:=rfl
theorem amq(f:Fn)(l m:List AV):AV.leaf (.fn f l m)=true:=rfl
theorem amr(t:TypeId)(a:AV):AV.leaf (.dh t a)=true:=rfl
theorem amu(i:Nat):AV.leaf (.mp i)=true:=rfl
theorem anO(k:TY)(n:Int):AV.p8 (.int k n)=.val (.int k n):=rfl
theorem anL(b:Bool):AV.p8 (.bool b)=.val (.bool b):=rfl
theorem anR:AV.p8 (.slice none 0 0)=.sl 0 [] .exact:=rfl
theorem anM:AV.p8 .nilFunc=.val .nilFunc:=rfl
theorem anN:AV.p8 .nilIface=.val .nilIface:=rfl
theorem anQ(a:Option U1):AV.p8 (.pointer a)=.val (.pointer a):=rfl
theorem anP(a:Option Nat):AV.p8 (.map a)=.val (.map a):=rfl
theorem asv(l:List SQ):mr (.agg l.toArray)=l.map AV.p8:=by simp[mr,Z5]
theorem asA(k:TY)(n:Int):mr (.int k n)=[.val (.int k n)]:=rfl
theorem asw(b:Bool):mr (.bool b)=[.val (.bool b)]:=rfl
theorem asD:mr (.slice none 0 0)=[.sl 0 [] .exact]:=rfl
theorem asy:mr .nilFunc=[.val .nilFunc]:=rfl
theorem asz:mr .nilIface=[.val .nilIface]:=rfl
theorem asC(a:Option U1):mr (.pointer a)=[.val (.pointer a)]:=rfl
theorem asB(a:Option Nat):mr (.map a)=[.val (.map a)]:=rfl
theorem ahB(s:AS):kC s []=some []:=rfl
theorem ahA(s:AS)(i:Nat)(x:Th)(l:List (Nat×Th)):kC s ((i,x)::l)=(s.ev x).bind λa=>(kC s l).map λaE=>(i,a)::aE:=by
 simp only[kC];cases s.ev x with
 |none=>rfl
 |some a=>cases kC s l<;>rfl
theorem aiN(p:Nat->Option (Nat×Nat))(c:List AV):oJ p c []=some c:=rfl
theorem aiM(p:Nat->Option (Nat×Nat))(c:List AV)(i:Nat)(a:AV)(r:List (Nat×AV)):oJ p c ((i,a)::r)=(p i).bind λx=>(a.parts).bind λlp=>if lp.length≠x.2\/x.1+lp.length>c.length then none else oJ p (iT c x.1 lp) r:=by
 simp only[oJ];cases p i with
 |none=>rfl
 |some x=>cases a.parts<;>rfl
theorem aoB(l:List (Nat×Nat))(i:Nat):iN.at (.fields l) i=l[i]?:=rfl
theorem aoA(sz i:Nat):iN.at (.elems sz) i=some (i* sz,sz):=rfl
theorem ast(z:SQ):ie z 0=[]:=rfl
theorem aqH(s:AS)(sz m:Nat)(l:List AV)(e:End):s.src sz (.sl m l e)=some (m,l.take (m* sz)):=rfl
theorem aqG(T:List (Nat×AV))(H:List aa)(sz i off m c:Nat):AS.src ⟨T,H⟩ sz (.bp i off m c)=((H[i]?).bind aa.rowOf).map λl=>(m,(l.drop off).take (m* sz)):=by
 simp only[AS.src];cases H[i]?with
 |none=>rfl
 |some x=>cases x<;>rfl
theorem afn(n:Nat)(l:List AV)(e:End)(kO:Nat->Nat->Nat->Nat->Prop)(k:Nat->List AV->End->Prop):AV.qp (.sl n l e) kO k=k n l e:=by rw[AV.qp]
theorem afm(i o n c:Nat)(kO:Nat->Nat->Nat->Nat->Prop)(k:Nat->List AV->End->Prop):AV.qp (.bp i o n c) kO k=kO i o n c:=by rw[AV.qp]
theorem ae6:type_of% @ui.eq_1:=by intros;rw[ui.eq_1]
theorem ae4(s:AS)(dst:Option Nat)(next:AS->Prop)(n m sz:Nat)(elem:TypeId)(l l':List AV):Bi s dst next n m sz elem l l' .exact=next ((⟨s.T,s.H++[.tail (n+m) sz elem]⟩:AS).put dst (.sl (n+m) (l++l') (.opn s.H.length))):=rfl
theorem ae5(s:AS)(dst:Option Nat)(next:AS->Prop)(n m sz:Nat)(elem:TypeId)(l l':List AV)(k:Nat):Bi s dst next n m sz elem l l' (.opn k)=((match s.H[k]?with
   |some (.tail n' eP ij)=>n'=n/\eP=sz/\ij=elem
   |_=>False)/\(∀a∈l',a.leaf=true)/\next ((⟨s.T,s.H.set k (.tail (n+m) sz elem)⟩:AS).put dst (.sl (n+m) (l++l') (.opn k)))):=rfl
theorem apy(P:SJ)(T:List (Nat×AV))(H:List aa)(b t:Nat):vv P ⟨T,H⟩ (.cell b t)=(look T b).bind λp=>((⟨T,H⟩:AS).at p).bind λl=>(Ty P t).bind λx=>if x.2 then(if x.1<=l.length then some (.agg (l.take x.1))else none)else l[0]?:=rfl
section
variable {lv:Bool}{P:SJ}{s s':AS}
@[congr] theorem atK {α : Type} {x y : Option α} {k : α -> Prop} (h : x = y) : ao x k = ao y k := by rw [h]
@[congr] theorem asS {a b : AV} {k : Bool -> Prop} (h : a = b) : AV.asBool a k = AV.asBool b k := by rw [h]
@[congr] theorem asT {a b : AV} {k : TY -> Int -> Prop} (h : a = b) : AV.asInt a k = AV.asInt b k := by rw [h]
@[congr] theorem asY {a b : AV} {k : List AV -> Prop} (h : a = b) : AV.xA a k = AV.xA b k := by rw [h]
@[congr] theorem asR {a b : AV} {k : List AV -> Prop} (h : a = b) : AV.asAgg a k = AV.asAgg b k := by rw [h]
@[congr] theorem asV {a b : AV} {k : Nat -> Nat -> Prop} (h : a = b) : AV.qn a k = AV.qn b k := by rw [h]
@[congr] theorem asU {a b : AV} {k : Nat -> Prop} (h : a = b) : AV.sX a k = AV.sX b k := by rw [h]
@[congr] theorem asX {a b : AV} {k : Nat -> List AV -> End -> Prop} (h : a = b) : AV.vT a k = AV.vT b k := by rw [h]
@[congr] theorem asW {a b : AV} {kO : Nat -> Nat -> Nat -> Nat -> Prop} {k : Nat -> List AV -> End -> Prop} (h : a = b) : AV.qp a kO k = AV.qp b kO k := by rw [h]
@[congr] theorem asP {H H' : List aa} {k : AV -> List aa -> Prop} {id oW off DF n n' c0 Pn m m' sz : Nat} {elem : TypeId} {l l' : List AV} (h0 : H = H') (h1 : id = oW) (h2 : off = DF) (h3 : n = n') (h4 : c0 = Pn) (h5 : m = m') (h6 : l = l') : ui H k id off n c0 m sz elem l = ui H' k oW DF n' Pn m' sz elem l' := by rw [h0, h1, h2, h3, h4, h5, h6]
@[congr] theorem asG {op : VZ} {t : TypeId} {a a' b b' : AV} {k : AV -> Prop} (h : a = a') (h' : b = b') : dR P op t a b k = dR P op t a' b' k := by rw [h, h']
@[congr] theorem asF {s' : AS} {op : VZ} {t : TypeId} {y : Th} {a a' : AV} {k : AV -> Prop} (hs : s = s') (h : a = a') : iX P s op t y a k = iX P s' op t y a' k := by rw [hs, h]
@[congr] theorem asK {a b : AV} {k : AV -> Prop} (h : a = b) : mV P a k = mV P b k := by rw [h]
@[congr] theorem asE {t : TypeId} {ok : Bool} {a b : AV} {k : AV -> Prop} (h : a = b) : Bg P t ok a k = Bg P t ok b k := by rw [h]
@[congr] theorem asJ {t : TypeId} {a b : AV} {k : AV -> Prop} (h : a = b) : sJ P s t a k = sJ P s t b k := by rw [h]
@[congr] theorem asN {t : TypeId} {a b : AV} {x y z : Option Int} {k : AV -> Prop} (h : a = b) : sK P t a x y z k = sK P t b x y z k := by rw [h]
@[congr] theorem asL {o : Tu} {k : AV -> Prop} (h : s = s') : lT P s o k = lT P s' o k := by rw [h]
@[congr] theorem asQ {o : Tu} {k : AV -> Prop} (h : s = s') : AQ lv P s o k = AQ lv P s' o k := by rw [h]
@[congr] theorem asO {o : Tu} {next : AS -> Prop} {bad : AV -> AS -> Prop} (h : s = s') : mW lv P s o next bad = mW lv P s' o next bad := by rw [h]
@[congr] theorem asM {all : Array Tu} {l : List Tu} {next : AS -> Prop} {bad : AV -> AS -> Prop} (h : s = s') : iL lv P all l s next bad = iL lv P all l s' next bad := by rw [h]
@[congr] theorem atM {all : Array Tu} {l l' : List Tu} {K : AS -> Prop} (hl : l = l') (h : s = s') : nz lv P all l s K = nz lv P all l' s' K := by rw [hl, h]
@[congr] theorem as1 {r : Option Nat} {nt : Nat} {c : Ua} {Φ : an -> AS -> Prop} (h : s = s') : aQ lv P r nt c s Φ = aQ lv P r nt c s' Φ := by rw [h]
@[congr] theorem atU {K : AS -> Prop} {Φ : an -> AS -> Prop} {e e' : an} (he : e = e') (h : s = s') : an.then K Φ e s = an.then K Φ e' s' := by rw [he, h]
@[congr] theorem atH {i : Nat} {Φ : an -> AS -> Prop} {e e' : an} (he : e = e') (h : s = s') : an.inBlock i Φ e s = an.inBlock i Φ e' s' := by rw [he, h]
end
theorem aew:type_of% @iL.eq_1:=by intros;rw[iL.eq_1]
theorem aev:type_of% @iL.eq_2:=by intros;rw[iL.eq_2]
theorem aeC:type_of% @mW.eq_1:=by intros;rw[mW.eq_1]
theorem aeu:type_of% @lT.eq_1:=by intros;rw[lT.eq_1]
theorem aoK:type_of% @nz.eq_1:=by intros;rw[nz.eq_1]
theorem aoJ:type_of% @nz.eq_2:=by intros;rw[nz.eq_2]
theorem aex:type_of% @AQ.eq_1:=by intros;rw[AQ.eq_1]
theorem apv:type_of% @iw.eq_1:=by intros;rw[iw.eq_1]
theorem apu:type_of% @iw.eq_2:=by intros;rw[iw.eq_2]
theorem apx:type_of% @jm.eq_1:=by intros;rw[jm.eq_1]
theorem ahD:type_of% @fD.eq_1:=by intros;rw[fD.eq_1]
theorem ahC:type_of% @fD.eq_2:=by intros;rw[fD.eq_2]
theorem ad9:type_of% @Bg.eq_1:=by intros;rw[Bg.eq_1]
theorem aoF:type_of% @iT.eq_1:=by intros;rw[iT.eq_1]
theorem apw:jm []=.aM []:=by rw[jm];simp
theorem acd(a b:AV)(l:List AV):jm (a::b::l)=.aM (a::b::l):=by rw[jm];simp
theorem arh(l:List AV):(AV.rp l).sure=true:=by simp[AV.sure]
theorem are(i j:Nat):(AV.op i j).sure=true:=by simp[AV.sure]
theorem ara(f:TO)(x y:List AV):(AV.fn (.func f) x y).sure=true:=by simp[AV.sure]
theorem arb(t:TypeId)(x:AV):(AV.dh t x).sure=true:=by simp[AV.sure]
theorem aeq(P:SJ)(k:AV->Prop)(name:String)(t:TypeId)(av:AV):mV P (.fn (.method name) [.dh t av] []) k=(Ij P t name/\k (.fn (.method name) [.dh t av] [])):=by rw[mV]
theorem aes(P:SJ)(k:AV->Prop)(l:List AV):mV P (.rp l) k=k (.rp l):=by simp[mV,AV.sure]
theorem aer(P:SJ)(k:AV->Prop)(i j:Nat):mV P (.op i j) k=k (.op i j):=by simp[mV,AV.sure]
theorem aeo(P:SJ)(k:AV->Prop)(f:TO)(x y:List AV):mV P (.fn (.func f) x y) k=k (.fn (.func f) x y):=by simp[mV,AV.sure]
theorem aet(P:SJ)(k:AV->Prop)(f)(x y:List AV):mV P (.fn (.yield f) x y) k=k (.fn (.yield f) x y):=by simp[mV,AV.sure]
theorem aep(P:SJ)(k:AV->Prop)(t:TypeId)(x:AV):mV P (.dh t x) k=k (.dh t x):=by simp[mV,AV.sure]
theorem aej(P:SJ)(s:AS)(op:VZ)(xt:TypeId)(t:Nat)(a:AV)(k:AV->Prop):iX P s op xt (.tmp t) a k=ao (s.ev (.tmp t)) λb=>dR P op xt a b k:=by rw[iX]<;>(intros;simp_all)
theorem aee(P:SJ)(s:AS)(op:VZ)(xt:TypeId)(j:TY)(m:Int)(a:AV)(k:AV->Prop):iX P s op xt (.const (.int j m)) a k=ao (s.ev (.const (.int j m))) λb=>dR P op xt a b k:=by rw[iX]<;>(intros;simp_all)
theorem aeb(P:SJ)(s:AS)(op:VZ)(xt:TypeId)(c:Bool)(a:AV)(k:AV->Prop):iX P s op xt (.const (.bool c)) a k=ao (s.ev (.const (.bool c))) λb=>dR P op xt a b k:=by rw[iX]<;>(intros;simp_all)
theorem aei(P:SJ)(s:AS)(op:VZ)(xt:TypeId)(c:ByteArray)(a:AV)(k:AV->Prop):iX P s op xt (.const (.string c)) a k=ao (s.ev (.const (.string c))) λb=>dR P op xt a b k:=by rw[iX]<;>(intros;simp_all)
theorem aea(P:SJ)(s:AS)(op:VZ)(xt:TypeId)(c:Array SQ)(a:AV)(k:AV->Prop):iX P s op xt (.const (.agg c)) a k=ao (s.ev (.const (.agg c))) λb=>dR P op xt a b k:=by rw[iX]<;>(intros;simp_all)
theorem aeh(P:SJ)(s:AS)(op:VZ)(xt:TypeId)(c:Option U1)(a:AV)(k:AV->Prop):iX P s op xt (.const (.pointer c)) a k=ao (s.ev (.const (.pointer c))) λb=>dR P op xt a b k:=by rw[iX]<;>(intros;simp_all)
theorem aef(P:SJ)(s:AS)(op:VZ)(xt:TypeId)(c:Option U1)(m n:Nat)(a:AV)(k:AV->Prop):iX P s op xt (.const (.slice c m n)) a k=ao (s.ev (.const (.slice c m n))) λb=>dR P op xt a b k:=by rw[iX]<;>(intros;simp_all)
theorem aeg(P:SJ)(s:AS)(op:VZ)(xt:TypeId)(k:AV->Prop):iX P s op xt (.const .nilIface) (.val .nilIface) k=(mM P xt=some true/\(op=.eql\/op=.neq)/\k (.val (.bool (if op== .neq then false else true)))):=by rw[iX]
theorem aed(P:SJ)(s:AS)(op:VZ)(xt t:TypeId)(x:AV)(k:AV->Prop):iX P s op xt (.const .nilIface) (.dh t x) k=(mM P xt=some true/\(op=.eql\/op=.neq)/\k (.val (.bool (if op== .neq then true else false)))):=by rw[iX]
theorem aho:((XE== .neq)=false):=rfl
theorem anB:((Wu== .neq)=true):=rfl
theorem ajd(z:SQ):AV.found z true none=.aM [AV.of z,.val (.bool false)]:=by rw[AV.found];simp
theorem aje(z:SQ)(x:Nat×SQ):AV.found z true (some x)=.aM [AV.of x.2,.val (.bool true)]:=by rw[AV.found];simp
attribute [seval] ajd aje
attribute [seval] aej aee aeb aei aea aeh aef aeg aed aho anB
attribute [seval] api apj ajC ajB ajA ajz AN ahz ahq ahu ahs ahy ahv ahw ahr aht am3 am4 aoH aoG arB arD arz arA arC age agh agb agf agc agd ajc aja ajb apA afh afj afq aff afl afk afo afn afm ae6 aeD aeP aeL aeF OI aeK aeJ aeH aeG true_and and_true Option.bind_some List.getElem?_toArray List.getElem?_cons_succ List.getElem?_cons_zero Bool.not_true Bool.not_false true_implies false_implies if_true if_false afw aqr aqs aqt apM apL List.drop_succ_cons List.drop_zero List.take_succ_cons List.take_zero List.cons_append List.nil_append List.length_cons List.length_nil Int.toNat_natCast decide_eq_true_eq decide_eq_false_iff_not Bool.not_eq_true' Bool.not_eq_false' Bool.not_eq_eq_eq_not afv agv agx apI apK apJ agw Option.map_some vQ ae8 vR afc ae7 afb Nat.zero_add List.set_cons_zero List.set_cons_succ aoj aof aot aoq aom aon aok aoe aos aop aor aoo aoh aoi aol List.forall_mem_cons List.not_mem_nil false_imp_iff implies_true ams amo amD amA amv amw amt amC amz amB amy amq amr amu anO anL anR anM anN anQ anP asv asA asw asD asy asz asC asB List.map_cons List.map_nil ahB ahA aiN aiM aoB aoA ast aqH aqG ae4 ae5 apy aen aem ne_eq not_true_eq_false not_false_eq_true gt_iff_lt Nat.lt_irrefl or_self or_false false_or Nat.le_refl Nat.mul_one Nat.one_mul Nat.zero_mul Nat.mul_zero bne_iff_ne bne_eq_false_iff_eq beq_iff_eq aew aev aeC aeu aoK aoJ aex apv apu apx apw acd ahD ahC ad9 aoF acd arh are ara arb aeq aes aer aeo aet aep
theorem apG{base Vi Vn T:List (Nat×AV)}{H:List aa}(hk:sQ T (Vi++base) Vn)(hv:∀p∈Vn,∃b,look T p.1=some b/\Wk b p.2):ru base Vi Vn H ⟨T,H⟩:=⟨hk,hv,[],by simp,.inl rfl⟩
theorem acf{base Vi Vn T:List (Nat×AV)}{H G:List aa}(hk:sQ T (Vi++base) Vn)(hv:∀p∈Vn,∃b,look T p.1=some b/\Wk b p.2)(au:bM H)(hlt:∀p∈Vn,Lt H.length p.2):ru base Vi Vn H ⟨T,H++G⟩:=⟨hk,hv,G,rfl,.inr ⟨au,hlt⟩⟩
theorem A0{base Vi Vn T:List (Nat×AV)}{H L G:List aa}(hk:sQ T (Vi++base) Vn)(hv:∀p∈Vn,∃b,look T p.1=some b/\Wk b p.2)(au:bM (H++L))(hlt:∀p∈Vn,Lt (H++L).length p.2):ru base Vi Vn (H++L) ⟨T,H++(L++G)⟩:=⟨hk,hv,G,(SA ..).symm,.inr ⟨au,hlt⟩⟩
def pick (ks:List Nat)(T:List (Nat×AV)):List (Nat×AV):=ks.filterMap λk=>(look T k).map λa=>(k,a)
theorem Iz{lv:Bool}{P:SJ}{r:Option Nat}{nt:Nat}{c:Ua}{T:List (Nat×AV)}{H:List aa}{Φ:an->AS->Prop}(ks:List Nat)(h:aQ lv P r nt c ⟨pick ks T,H⟩ Φ):aQ lv P r nt c ⟨T,H⟩ Φ:=by
 refine iZ (s':=⟨pick ks T,H⟩) ⟨λt a e=> ?_,rfl⟩ h;obtain⟨k,_,e'⟩:=VW.1 (oX e);obtain⟨b,hb,e'⟩:=Tp.1 e';cases e';exact⟨a,hb,Wk.refl a⟩
theorem My{ops:Array Tu}(mG:∀(i:Nat) o,ops[i]?=some o->∀j∈cX o,j<ops.size)(aah:∀X:List Nat,(∃i,i<ops.size/\i∉X)->∃i o,ops[i]?=some o/\i∉X/\∀j∈cX o,j∈X):∀(fuel t:Nat)(L:Array Bool)(X:List Nat),OD ops L X->(SZ ops.size).countP (λi=> !X.contains i)<=fuel->mw ops X (UF .any ops fuel t L [])
 |0,t,L,X,hr,hc=>by
  simp only[UF,XU];refine .nil X λi hi=> ?_;have:(SZ ops.size).countP (λi=> !X.contains i)=0:=by omega
  have:=List.countP_eq_zero.1 this i (by simpa using hi);simpa using this
 |fuel+1,t,L,X,hr,hc=>by
  have u6:∀i,i∈((SZ ops.size).filter λi=> !L.getD i true&&((ops[i]?).map (·.after.all λe=> !Region.binds .any e||L.getD e.on false)).getD false)<->∃o,ops[i]?=some o/\i∉X/\∀j∈cX o,j∈X:=by
   intro i;simp only[Uv,TF,Ti,TZ];constructor
   ·rintro⟨hi,h1,h2⟩
    have ho:=SK hi;refine⟨ops[i],ho,λhx=> ?_,λj hj=> ?_⟩
    ·have:=(hr.mem i hi).2 hx;rw[SH,this]at h1;cases h1
    ·obtain⟨e,he,hb,rfl⟩:=GO.1 hj;rw[ho]at h2;simp only[UO,S7,UJ]at h2;have:=h2 e he;rw[hb]at this;simp only[aj',Zu]at this;have hlt:e.on<ops.size:=mG i _ ho _ hj;refine(hr.mem _ hlt).1 ?_;rw[SH]at this;cases hx:L[e.on]?with
     |none=>rw[hx]at this;cases this
     |some b=>rw[hx]at this;cases b;cases this;rfl
   ·rintro⟨o,ho,h1,h2⟩
    have hi:i<ops.size:=(SU.1 ho).1;refine⟨hi,?_,?_⟩
    ·rw[SH,SK (by rw[hr.size];exact hi)];simp only[S7];cases hb:L[i]'(by rw[hr.size];exact hi)with
     |false=>rfl
     |true=>exact absurd ((hr.mem i hi).1 (by rw[SK (by rw[hr.size];exact hi),hb])) h1
    ·rw[ho];simp only[UO,S7,UJ];intro e he;cases hb:Yl .any e with
     |false=>rfl
     |true=>
      have hj:=GO.2 ⟨e,he,hb,rfl⟩;have hlt:e.on<ops.size:=mG i _ ho _ hj;have:=(hr.mem _ hlt).2 (h2 _ hj);simp[SH,this]
  simp only[UF];generalize C2:((SZ ops.size).filter λi=> !L.getD i true&&((ops[i]?).map (·.after.all λe=> !Region.binds .any e||L.getD e.on false)).getD false)=rs at u6;cases hi:rs[t % rs.length]?with
  |none=>
   have K_:rs=[]:=by
    cases rs with
    |nil=>rfl
    |cons x xs=>
     have hlt:t % (x::xs).length<(x::xs).length:=aq' _ (by simp);rw[List.getElem?_eq_none_iff]at hi;omega
   simp only[XU];refine .nil X λi hlt=> ?_;apply Ts;intro hx;obtain⟨i',o,h1,h2,h3⟩:=aah X ⟨i,hlt,hx⟩;have:i'∈rs:=(u6 i').2 ⟨o,h1,h2,h3⟩;rw[K_]at this;cases this
  |some i=>
   simp only[];obtain⟨o,ho,h1,h2⟩:=(u6 i).1 (Td hi);have hlt:i<ops.size:=(SU.1 ho).1;rw[linearise_go_acc,List.reverse_singleton,Y0];refine .cons o ho h1 h2 (My mG aah fuel _ _ (i::X) ⟨by simp[hr.size],λk hk=> ?_⟩ ?_)
   ·by_cases rS:k=i
    ·subst rS;simp[S_ (by rw[hr.size];exact hlt)]
    ·rw[SW (Ne.symm rS),hr.mem k hk];simp[rS]
   ·have fZ:i∈(SZ ops.size):=(by simpa using hlt);have:(SZ ops.size).countP (λk=> !(i::X).contains k)<(SZ ops.size).countP (λk=> !X.contains k):=by
     exact PB fZ (λk hk=>by simp only[TZ,Uq,decide_eq_false_iff_not]at hk⊢;exactλh=>hk (Tb _ h)) (by simpa using h1) (by simp)
    omega
theorem JB{X:List Nat}:∀{l:List Nat},(∃i∈l,i∉X)->∃A i B,l=A++i::B/\i∉X/\∀a∈A,a∈X
 |[],⟨_,h,_⟩=>by cases h
 |x::l,⟨i,h,hn⟩=>by
  by_cases hx:x∈X
  ·have hi:i∈l:=(SL.1 h).resolve_left λe=>hn (e▸hx);obtain⟨A,j,B,h1,h2,h3⟩:=JB ⟨i,hi,hn⟩;exact⟨x::A,j,B,by rw[h1];rfl,h2,λa ha=>(SL.1 ha).elim (λe=>e▸hx) (h3 a)⟩
  ·exact⟨[],x,l,rfl,hx,by simp⟩
structure Bt (k:AV->List aa->Prop):Type where
 n:Nat
def Eo (lv:Bool)(P:SJ)(f:AV)(H:List aa)(aE:List AV)(k:AV->List aa->Prop)(_t:Bt k):Prop:=∃av H',jo lv P f H aE (λb ul=>b=av/\ul=H') (λ_ _=>False)/\k av H'
def Ic (lv:Bool)(P:SJ)(f:AV)(name:String)(H:List aa)(aE:List AV)(k:AV->List aa->Prop)(_t:Bt k):Prop:=∃av H',Ev lv P f name H aE (λb ul=>b=av/\ul=H') (λ_ _=>False)/\k av H'
theorem kA{lv:Bool}{P:SJ}{f:AV}{H:List aa}{aE:List AV}{k:AV->List aa->Prop}{t:Bt k}(av:AV)(H':List aa)(h:jo lv P f H aE (λb ul=>b=av/\ul=H') (λ_ _=>False))(hk:k av H'):Eo lv P f H aE k t:=⟨av,H',h,hk⟩
def kz (x:Option aa)(X Y:Prop)(_t:mu X Y):Prop:=match x with
 |some (.own _ _ _)=>X
 |_=>Y
def ri (G H:List aa)(k:AV->List aa->Prop)(n m sz:Nat)(elem:TypeId)(l l':List AV):End->Prop
 |.exact=>kz G[H.length]? (0<m/\k (.bp H.length 0 (n+m) 0) (H++[.own sz (l++l') elem])) (k (.sl (n+m) (l++l') (.opn H.length)) (H++[.tail (n+m) sz elem])) ⟨0⟩
 |.opn i=>(match H[i]?with
   |some (.tail n' eP ij)=>n'=n/\eP=sz/\ij=elem
   |_=>False)/\(∀a∈l',a.leaf=true)/\k (.sl (n+m) (l++l') (.opn i)) (H.set i (.tail (n+m) sz elem))
 |.shut=>m=0/\k (.sl n l .shut) H
section
variable (lv:Bool)(P:SJ)
def kx (G:List aa)(s:AS)(o:Tu)(k:AV->List aa->Prop):Prop:=match o.op with
 |.box t x=>ao (s.ev x) λa=>ao a.parts λl=>k (.op s.H.length 0) (s.H++[.cells l t])
 |.alloc t=>ao (eY P t) λz=>k (.op s.H.length 0) (s.H++[.cells (mr z) t])
 |.store t x y=>ao (s.ev x) λp=>ao (s.ev y) λa=>ao a.parts λlp=>p.qn λid off=>match s.H[id]?with
  |some (.cells l el)=>(ao (Ty P t) λx=>lp.length=x.1)/\off+lp.length<=l.length/\(∀a∈lp,a.leaf=true)/\k (.val undef) (s.H.set id (.cells (iT l off lp) el))
  |some (.own p l el)=>(ao (Ty P t) λx=>lp.length=x.1)/\off+lp.length<=l.length/\(∀a∈lp,a.leaf=true)/\k (.val undef) (s.H.set id (.own p (iT l off lp) el))
  |_=>False
 |.call c=>match c.callee with
  |.builtin .append=>match c.args.toList,c.argTypes.toList with
   |[x,y],[t,t']=>ao (j3 P t t') λ(elem,sz,_)=>ao (s.ev x) λa=>ao (s.ev y) λb=>a.qp (λid off n c0=>ao (s.src sz b) λ(m,l')=>ui s.H k id off n c0 m sz elem l') λn l e=>ao (s.src sz b) λ(m,l')=>l.length=n* sz/\l'.length=m* sz/\n+m<=2^30/\ri G s.H k n m sz elem l l' e
   |_,_=>False
  |.value x=>ao (s.ev x) λf=>ao (fD s c.args.toList) λaE=>Eo lv P f s.H aE k ⟨0⟩
  |.invoke x name=>ao (s.ev x) λf=>ao (fD s c.args.toList) λaE=>Ic lv P f name s.H aE k ⟨0⟩
  |_=>False
 |.makeSlice t x y=>ao (Bv P t) λ(e,sz,z)=>ao (s.ev x) λa=>ao (s.ev y) λb=>a.asInt λ_ n=>b.asInt λ_ n'=>n'=n/\0<=n/\n<=2^30/\k (.bp s.H.length 0 n.toNat n.toNat) (s.H++[.cells (ie z (n.toNat* sz)) e])
 |.buildSlice t len parts=>ao (rz P t) λ(e,sz,z)=>len* sz<=2^24/\ao (kC s parts.toList) λmz=>ao (oJ (iN.at (.elems sz)) (ie z (len* sz)) mz) λl=>k (.bp s.H.length 0 len len) (s.H++[.cells l e])
 |_=>False
end
section
variable {lv:Bool}{P:SJ}{r:Option Nat}{o:Tu}{s:AS}{k:AV->List aa->Prop}
theorem Step.drop{G:List aa}{av na:AV}{bad:AV->AS->Prop}(h:Step lv P r o s (λs'=>s'=(⟨s.T,s.H++G⟩:AS).put o.dst av) bad)(hw:Wk av na)(hl:∀(E:Env)(V:View)(a:Act),Conc E V s.H->cw E s.T a.tmps->Lt s.H.length na):Step lv P r o s (λs'=>s'=(⟨s.T,s.H⟩:AS).put o.dst na) bad:=λE V a N Q hc ht hd hf n1 n2=>by
 refine h E V a N Q hc ht hd hf (λE' V' a' s' q1 q2 q3 q4=> ?_) n2;subst q4;rw[fG]at q2;have fY:((⟨s.T,s.H++G⟩:AS).put o.dst av).Ia ((⟨s.T,s.H⟩:AS).put o.dst na):=by
  refine⟨λt x e=> ?_,⟨G,by rw[fG,fG]⟩,by rw[fG];exact hc.au⟩;rw[fG];have hold:look s.T t=some x->Lt s.H.length x:=λe=>by rw[<- hc.n];exact(ht t x e).2.lt
  cases dB:o.dst with
  |none=>
   rw[dB]at e;simp only[AS.put]at e⊢;exact⟨x,e,Wk.refl x,hold e⟩
  |some d=>
   rw[dB]at e;simp only[AS.put,look]at e⊢;by_cases RI:d=t
   ·rw[if_pos RI]at e⊢;cases e;exact⟨av,rfl,hw,hl E V a hc ht⟩
   ·rw[if_neg RI]at e⊢;exact⟨x,e,Wk.refl x,hold e⟩
 have ah:At E' V' ((⟨s.T,s.H++G⟩:AS).put o.dst av) a' a'.tmps.size:=⟨by rw[fG];exact q2,q3,rfl⟩;have aV:=ah.cut fY;rw[fG]at aV;refine n1 _ V' a' _ ⟨D8 (SR _) (by rw[q2.n];simp) q1.le hc.n,q1.size,q1.defers,q1.role,q1.deaf⟩ aV.bu aV.tok rfl
end
section
variable {lv:Bool}{P:SJ}{r:Option Nat}{o:Tu}{s:AS}{G:List aa}{k:AV->List aa->Prop}
theorem eC{α:Type}{x:Option α}{a:α}{k:α->Prop}(h:x=some a)(hk:k a):ao x k:=by rw[h,ao];exact hk
theorem QN{x:Option aa}{X Y:Prop}{t:mu X Y}(h:kz x X Y t):((∃a b c,x=some (.own a b c))/\X)\/((∀a b c,x≠some (.own a b c))/\Y):=by
 unfold kz at h;split at h
 ·exact .inl ⟨⟨_,_,_,rfl⟩,h⟩
 ·rename_i hx;exact .inr ⟨λa b c e=>hx a b c e,h⟩
theorem ajo{x:Option aa}{X Y:Prop}{t:mu X Y}{a:Nat}{b:List AV}{c:TypeId}(h:x=some (.own a b c))(hX:X):kz x X Y t:=by subst h;exact hX
theorem ajr{x:Option aa}{X Y:Prop}{t:mu X Y}(h:∀a b c,x≠some (.own a b c))(hY:Y):kz x X Y t:=by
 unfold kz;split
 ·exact absurd rfl (h _ _ _)
 ·exact hY
theorem ri.ex{H:List aa}{n m sz:Nat}{elem:TypeId}{l l':List AV}{e:End}(h:ri G H k n m sz elem l l' e):∃av H',ri G H (λa h=>a=av/\h=H') n m sz elem l l' e/\k av H':=by
 cases e with
 |exact=>
  rcases QN (t:=⟨0⟩) h with⟨⟨a,b,c,e⟩,h0,h1⟩|⟨e,h1⟩
  ·exact⟨_,_,ajo (t:=⟨0⟩) e ⟨h0,rfl,rfl⟩,h1⟩
  ·exact⟨_,_,ajr (t:=⟨0⟩) e ⟨rfl,rfl⟩,h1⟩
 |shut=>exact⟨_,_,⟨h.1,rfl,rfl⟩,h.2⟩
 |opn i=>exact⟨_,_,⟨h.1,h.2.1,rfl,rfl⟩,h.2.2⟩
theorem ui.ex{H:List aa}{id off n c0 m sz:Nat}{elem:TypeId}{l':List AV}(h:ui H k id off n c0 m sz elem l'):∃av H',ui H (λa h=>a=av/\h=H') id off n c0 m sz elem l'/\k av H':=by
 obtain⟨h1,h2,h3,h4,h5,h6⟩:=h;split at h6
 ·rename_i hk;obtain⟨g1,g2,g3,g4⟩:=h6;refine⟨_,_,⟨h1,h2,h3,h4,h5,?_⟩,g4⟩;rw[hk];exact⟨g1,g2,g3,rfl,rfl⟩
 ·exact h6.elim
end
section
variable {lv:Bool}{P:SJ}{r:Option Nat}{o:Tu}{s:AS}{next:AS->Prop}{bad:AV->AS->Prop}
theorem ac2{t e:TypeId}{len sz:Nat}{z:SQ}{parts:Array (Nat×Th)}{mz:List (Nat×AV)}{l:List AV}(ho:o.op=.buildSlice t len parts)(ht:rz P t=some (e,sz,z))(aY:len* sz<=2^24)(hp:kC s parts.toList=some mz)
  (hl:oJ (iN.at (.elems sz)) (ie z (len* sz)) mz=some l) (hn:next ((⟨s.T,s.H++[.cells l e]⟩:AS).put o.dst (.bp s.H.length 0 len len))):Step lv P r o s next bad:=by
 intro E V a N Q hc aF hd bC h1 _;unfold rz at ht;split at ht
 ·rename_i e' hu;obtain⟨i,hi,ht⟩:=Te.1 ht;obtain⟨z',hz,ht⟩:=Tp.1 ht;cases ht;refine⟨bC,?_⟩;unfold execOp;rw[ho];dsimp only;refine az ?_;unfold Instr.buildSlice;refine eD hu ?_;dsimp only;refine kv hi ?_;rw[if_neg (by omega)];obtain⟨hlen,bm⟩:=Fa aF hp;obtain⟨eZ,nW,uM⟩:=B8 (I4 (E:=E) z (len* i.size)) hlen bm hl;have fin:∀(rr:Nat),V.fresh rr->aO P (V.upd rr (.cells eZ e)) (pure (W1 (.slice (some ⟨rr,0,none⟩) len len))) (m9 lv P r o a N Q) (λv V'=>Q (.panic [{v,recovered:=false}]) a V'):=λrr hf=>by
   have oT:E.Le (E.add rr V.ab):=E.qT rr (λb o v h=>by rw[<- hc.I];exact h);have bi:Conc (E.add rr V.ab) (V.upd rr (.cells eZ e)) (s.H++[.cells l e]):=by
    refine hc.add hf _ ⟨⟨_,?_,uM.mono oT⟩,λo=> ?_⟩ (λb e=> ?_)
    ·rw[Env.dU];simp[View.upd]
    ·rw[Env.dU];exact hf.2 o
    ·simp only[bQ,Env.dU,Tj]at e;exact e.symm
   have pF:ap (E.add rr V.ab) (.bp s.H.length 0 len len) (.slice (some ⟨rr,0,none⟩) len len):=by
    have:=ap.bp (E:=E.add rr V.ab) (id:=s.H.length) (off:=0) (n:=len) (cap:=len) (cap':=len) (by show _<E.n+1;rw[hc.n];omega) ⟨by omega,λ_=>rfl,λh=>absurd h (by omega)⟩;have e:(E.add rr V.ab).blk s.H.length=rr:=(by rw[<- hc.n];exact E.dU rr _);rwa [e]at this
   exact aq (h1 _ _ (a.put o.dst _) _ ⟨oT,ey _ _ _,put_defers _ _ _,rfl,rfl⟩ (by rw[fG];exact bi) (cw.iu (s:=⟨s.T,s.H++[.cells l e]⟩) (aF.mono oT) hd pF) hn)
  have e2:(λj=>some (j* i.size,i.size))=iN.at (.elems i.size):=rfl;rw[e2];by_cases h0:len* i.size=0
  ·rw[if_pos h0];refine az (aq ?_);rw[h0]at nW⊢;rw[show WI 0=#[]from rfl]at nW⊢;simp only[List.map_toArray,List.map_nil,VM]at nW⊢;rw[nW];unfold newRow;exact az (az (az (o0 λrr hf=>cO (aq (aq (aq (fin rr hf)))))))
  ·rw[if_neg h0];refine az (az ?_);unfold typeInfo;refine az (qX (cO ?_));rw[hi];refine aq ?_;rw[hz];refine aq (az (aq ?_));rw[VM,nW];unfold newRow;exact az (az (az (o0 λrr hf=>cO (aq (aq (aq (fin rr hf)))))))
 ·cases ht
end
section
variable {lv:Bool}{P:SJ}{r:Option Nat}{o:Tu}{s:AS}{G:List aa}{k:AV->List aa->Prop}
theorem kx.ex(h:kx lv P G s o k):∃av H',kx lv P G s o (λa h=>a=av/\h=H')/\k av H':=by
 unfold kx at h⊢;generalize o.op=op at h⊢;cases op with
 |box t x=>
  obtain⟨a,h1,h⟩:=h.out;obtain⟨l,h2,h⟩:=h.out;exact⟨_,_,eC h1 (eC h2 ⟨rfl,rfl⟩),h⟩
 |alloc t=>
  obtain⟨z,h1,h⟩:=h.out;exact⟨_,_,eC h1 ⟨rfl,rfl⟩,h⟩
 |store t x y=>
  obtain⟨p,h1,hA⟩:=h.out;obtain⟨a,h2,hB⟩:=hA.out;obtain⟨lp,h3,hC⟩:=hB.out;obtain⟨id,off,e1,hD⟩:=BT hC;subst e1;clear h hA hB hC;split at hD
  ·rename_i l el hk;refine⟨_,_,eC h1 (eC h2 (eC h3 ?_)),hD.2.2.2⟩;unfold AV.qn;dsimp only;rw[hk];exact⟨hD.1,hD.2.1,hD.2.2.1,rfl,rfl⟩
  ·rename_i p l el hk;refine⟨_,_,eC h1 (eC h2 (eC h3 ?_)),hD.2.2.2⟩;unfold AV.qn;dsimp only;rw[hk];exact⟨hD.1,hD.2.1,hD.2.2.1,rfl,rfl⟩
  ·exact hD.elim
 |call c=>
  dsimp only at h⊢;generalize c.callee=cl at h⊢;generalize c.args.toList=xs at h⊢;generalize c.argTypes.toList=ts at h⊢;cases cl with
  |builtin b=>
   cases b with
   |append=>
    dsimp only at h⊢;split at h
    ·obtain⟨⟨elem,sz,z⟩,h1,hA⟩:=h.out;obtain⟨a,h2,hB⟩:=hA.out;obtain⟨b,h3,hC⟩:=hB.out;rcases Iv hC with⟨id,off,n,c0,e1,hD⟩|⟨n,l,e,e1,hD⟩
     ·obtain⟨⟨m,l'⟩,h4,h5⟩:=hD.out;subst e1;obtain⟨av,H',g1,g2⟩:=h5.ex;refine⟨av,H',eC h1 (eC h2 (eC h3 ?_)),g2⟩;simp only[AV.qp];exact eC h4 g1
     ·obtain⟨⟨m,l'⟩,h4,h5,h6,h7,h8⟩:=hD.out;subst e1;obtain⟨av,H',g1,g2⟩:=h8.ex;refine⟨av,H',eC h1 (eC h2 (eC h3 ?_)),g2⟩;simp only[AV.qp];exact eC h4 ⟨h5,h6,h7,g1⟩
    ·exact h.elim
   |_=>exact h.elim
  |value x=>
   obtain⟨f,h1,hA⟩:=h.out;obtain⟨aE,h2,hB⟩:=hA.out;obtain⟨av,H',g1,g2⟩:=hB;exact⟨av,H',eC h1 (eC h2 ⟨av,H',g1,rfl,rfl⟩),g2⟩
  |invoke x name=>
   obtain⟨f,h1,hA⟩:=h.out;obtain⟨aE,h2,hB⟩:=hA.out;obtain⟨av,H',g1,g2⟩:=hB;exact⟨av,H',eC h1 (eC h2 ⟨av,H',g1,rfl,rfl⟩),g2⟩
 |makeSlice t x y=>
  obtain⟨⟨e,sz,z⟩,h1,hA⟩:=h.out;obtain⟨a,h2,hB⟩:=hA.out;obtain⟨b,h3,hC⟩:=hB.out;obtain⟨j,n,e1,hD⟩:=oE hC;obtain⟨j',n',e2,hE⟩:=oE hD;clear h hA hB hC hD;subst e1 e2;exact⟨_,_,eC h1 (eC h2 (eC h3 ⟨hE.1,hE.2.1,hE.2.2.1,rfl,rfl⟩)),hE.2.2.2⟩
 |buildSlice t len parts=>
  obtain⟨⟨e,sz,z⟩,h1,h2,hA⟩:=h.out;obtain⟨mz,h3,hB⟩:=hA.out;obtain⟨l,h4,hC⟩:=hB.out;exact⟨_,_,eC h1 ⟨h2,eC h3 (eC h4 ⟨rfl,rfl⟩)⟩,hC⟩
 |_=>exact h.elim
theorem kx.step{av:AV}{H':List aa}{bad:AV->AS->Prop}(h:kx lv P G s o (λa h=>a=av/\h=H')):Step lv P r o s (λs'=>s'=(⟨s.T,H'⟩:AS).put o.dst av) bad:=by
 unfold kx at h;split at h
 ·rename_i t x ho;obtain⟨a,h1,h⟩:=h.out;obtain⟨l,h2,h⟩:=h.out;obtain⟨e1,e2⟩:=h;exact ac1 ho h1 h2 (by rw[e1,e2])
 ·rename_i t ho;obtain⟨z,h1,h⟩:=h.out;obtain⟨e1,e2⟩:=h;exact acY ho h1 (by rw[e1,e2])
 ·rename_i t x y ho;obtain⟨p,h1,hA⟩:=h.out;obtain⟨a,h2,hB⟩:=hA.out;obtain⟨lp,h3,hC⟩:=hB.out;obtain⟨id,off,e1,hD⟩:=BT hC;clear h hA hB hC;subst e1;split at hD
  ·rename_i l el hk;obtain⟨q1,q2,q3,q4,Nu⟩:=hD;obtain⟨⟨n,g⟩,q5,q6⟩:=q1.out;exact ac6 ho q5 h1 hk h2 h3 q6 q2 q3 (by rw[q4,Nu])
  ·rename_i p l el hk;obtain⟨q1,q2,q3,q4,Nu⟩:=hD;obtain⟨⟨n,g⟩,q5,q6⟩:=q1.out;exact ac7 ho q5 h1 hk h2 h3 q6 q2 q3 (by rw[q4,Nu])
  ·exact hD.elim
 ·rename_i c ho;split at h
  ·rename_i aZ;split at h
   ·rename_i x y t t' ha ht;obtain⟨⟨elem,sz,z⟩,h1,hA⟩:=h.out;obtain⟨a,h2,hB⟩:=hA.out;obtain⟨b,h3,hC⟩:=hB.out;rcases Iv hC with⟨id,off,n,c0,e1,hD⟩|⟨n,l,e,e1,hD⟩
    ·clear h hA hB hC;subst e1;obtain⟨⟨m,l'⟩,h4,rfl,g2,g3,g4,g5,hE⟩:=hD.out;split at hE
     ·rename_i hk;obtain⟨rfl,rfl,g6,g7,g8⟩:=hE;exact acZ ho aZ (nF ha) (sG ht) h1 h2 g2 hk rfl h3 h4 g6 g3 g4 g5 (by rw[g7,g8])
     ·exact hE.elim
    ·clear h hA hB hC;subst e1;obtain⟨⟨m,l'⟩,h4,h5,h6,h7,h8⟩:=hD.out;cases e with
     |exact=>
      rcases QN (t:=⟨0⟩) h8 with⟨_,h0,e1,e2⟩|⟨_,e1,e2⟩
      ·exact ac0 ho aZ (nF ha) (sG ht) h1 h2 h3 h4 h5 h6 h7 h0 (by rw[e1,e2])
      ·exact step_append ho aZ (nF ha) (sG ht) h1 h2 h3 h4 h5 h6 h7 (by show (_:AS)=_;rw[<- e1,<- e2])
     |shut=>
      obtain⟨e0,e1,e2⟩:=h8;exact step_append ho aZ (nF ha) (sG ht) h1 h2 h3 h4 h5 h6 h7 ⟨e0,by rw[<- e1,<- e2]⟩
     |opn i=>
      obtain⟨e0,e0',e1,e2⟩:=h8;exact step_append ho aZ (nF ha) (sG ht) h1 h2 h3 h4 h5 h6 h7 ⟨e0,e0',by rw[<- e1,<- e2]⟩
   ·exact h.elim
  ·rename_i x aZ;obtain⟨f,h1,hA⟩:=h.out;obtain⟨aE,h2,hB⟩:=hA.out;obtain⟨a0,H0,g1,g2,g3⟩:=hB;subst g2 g3;exact NS ho aZ h1 h2 (g1.mono (λa H h=>by rw[h.1,h.2]) λ_ _ h=>h.elim)
  ·rename_i x name aZ;obtain⟨f,h1,hA⟩:=h.out;obtain⟨aE,h2,hB⟩:=hA.out;obtain⟨a0,H0,g1,g2,g3⟩:=hB;subst g2 g3;exact ac3 ho aZ h1 h2 (λE V cv vs hc hd pG=>(g1 E V cv vs hc hd pG).mono (λ_ _ x=>Nx.mono (λ_ _ y=>y.mono (λa H h=>by rw[h.1,h.2]) λ_ _ h=>h.elim) x) λ_ _ y=>y.mono (λa H h=>by rw[h.1,h.2]) λ_ _ h=>h.elim)
  ·exact h.elim
 ·rename_i t x y ho;obtain⟨⟨e,sz,z⟩,h1,hA⟩:=h.out;obtain⟨a,h2,hB⟩:=hA.out;obtain⟨b,h3,hC⟩:=hB.out;obtain⟨j,n,e1,hD⟩:=oE hC;obtain⟨j',n',e2,hE⟩:=oE hD;clear h hA hB hC hD;subst e1 e2;obtain⟨e3,h4,h5,h6,h7⟩:=hE;subst e3;obtain⟨m,rfl⟩:∃m:Nat,n'=m:=⟨n'.toNat,by omega⟩;exact ac4 ho h1 h2 h3 (by omega) (by rw[VQ]at h6 h7;rw[h6,h7])
 ·rename_i t len parts ho;obtain⟨⟨e,sz,z⟩,h1,h2,hA⟩:=h.out;obtain⟨mz,h3,hB⟩:=hA.out;obtain⟨l,h4,h5,h6⟩:=hB.out;exact ac2 ho h1 h2 h3 h4 (by rw[h5,h6])
 ·exact h.elim
theorem kx.congr{T T':List (Nat×AV)}{H:List aa}(h:∀x∈o.op.operands,AS.ev ⟨T,H⟩ x=AS.ev ⟨T',H⟩ x)(ha:kx lv P G ⟨T,H⟩ o k):kx lv P G ⟨T',H⟩ o k:=by
 unfold kx at ha⊢;generalize o.op=op at h ha⊢;cases op with
 |box t x=>dsimp only at ha⊢;rw[<- h x (by simp[Tt])];exact ha
 |alloc t=>exact ha
 |store t x y=>dsimp only at ha⊢;rw[<- h x (by simp[Tt]),<- h y (by simp[Tt])];exact ha
 |call c=>
  have cS:∀x∈c.args.toList,AS.ev ⟨T,H⟩ x=AS.ev ⟨T',H⟩ x:=λx hx=>h x (by simp[Tt,VP];exact .inr (by simpa using hx));dsimp only at ha⊢;split at ha
  ·split at ha
   ·rename_i x y t t' hx ht;rw[hx]at cS;rw[<- cS x (by simp),<- cS y (by simp)];exact ha
   ·exact ha.elim
  ·rename_i x aZ;rw[<- h x (by simp[Tt,VP,aZ]),<- B7 _ cS];exact ha
  ·rename_i x name aZ;rw[<- h x (by simp[Tt,VP,aZ]),<- B7 _ cS];exact ha
  ·exact ha.elim
 |makeSlice t x y=>dsimp only at ha⊢;rw[<- h x (by simp[Tt]),<- h y (by simp[Tt])];exact ha
 |buildSlice t len parts=>
  have e:kC ⟨T',H⟩ parts.toList=kC ⟨T,H⟩ parts.toList:=by
   have hp:∀p∈parts.toList,AS.ev ⟨T,H⟩ p.2=AS.ev ⟨T',H⟩ p.2:=λp hp=>h p.2 (by simp[Tt];exact⟨p.1,by simpa using hp⟩);clear ha;generalize parts.toList=l at hp;induction l with
   |nil=>rfl
   |cons p l ih=>simp only[kC,hp p TB,ih λq hq=>hp q (Tb _ hq)]
  dsimp only at ha⊢;rw[e];exact ha
 |_=>exact ha.elim
end
def nO (acc:List (Nat×List Nat))(j:Nat):List Nat:=((acc.find? (·.1==j)).map (·.2)).getD []
def gX (ops:Array Tu):List Nat->List (Nat×List Nat)->List (Nat×List Nat)
 |[],acc=>acc
 |i::l,acc=>match ops[i]?with
  |some o=>gX ops l ((i,(cX o++(cX o).flatMap (nO acc)).eraseDups)::acc)
  |none=>gX ops l acc
def uh:List Nat->List (List Nat)
 |[]=>[[]]
 |x::l=>uh l++(uh l).map (x::·)
def wT (cl:List (Nat×List Nat))(es:List Nat)(i:Nat)(D:List Nat):Bool:=
 !D.contains i&&es.all λe=>(!(nO cl i).contains e||D.contains e)&&(!D.contains e||(!(nO cl e).contains i&&es.all λe'=> !(nO cl e).contains e'||D.contains e'))
def tW (es:List Nat)(i:Nat)(D:List Nat):List Nat:=es.filter λe=>e==i||D.contains e
structure rn where
 i:Nat
 eff:Bool
 aft:List Nat
 M3:List (List Nat×List Nat)
 deriving DecidableEq
def entry (cl:List (Nat×List Nat))(es X:List Nat)(i:Nat):rn:=
 let cur:=es.filter λe=>X.contains e
 ⟨i,es.contains i,tW es i cur,((uh es).filter λD=>wT cl es i D&&D !=cur).map λD=>(D,tW es i D)⟩
def qV (cl:List (Nat×List Nat))(es:List Nat):List Nat->List Nat->List rn
 |_,[]=>[]
 |X,i::B=>entry cl es X i::qV cl es (i::X) B
def abY (ops:Array Tu)(es ord:List Nat):List rn:=qV (gX ops ord []) es [] ord
def kN (ops:Array Tu):List Nat->List Nat->Bool
 |_,[]=>true
 |X,i::B=> !X.contains i&&(match ops[i]?with
  |some o=>(cX o).all X.contains
  |none=>false)&&kN ops (i::X) B
def rF (nt:Nat)(ops:Array Tu)(es ord:List Nat):Bool:=
 let cl:=gX ops ord [];decide (ord.length=ops.size)&&kN ops [] ord&&ord.all λi=>match ops[i]?with
  |some o=>o.dst.all (·<nt)&& !mL o.op&&o.guard.isNone&&
   (ord.all λj=>i==j||match o.dst,de ops j with
    |some d,some d'=>d !=d'
    |_,_=>true)&&
   (o.op.operands.toList.all λx=>match x with
    |.tmp t=>ord.all λj=>de ops j !=some t||(cX o).contains j||(nO cl j).contains i
    |_=>true)
  |none=>false
theorem QQ{acc:List (Nat×List Nat)}{j k:Nat}(h:k∈nO acc j):∃l,(j,l)∈acc/\k∈l:=by
 unfold nO at h;cases e:acc.find? (·.1==j)with
 |none=>rw[e]at h;simp at h
 |some x=>
  rw[e]at h;obtain⟨j',l⟩:=x;have h1:=List.mem_of_find?_eq_some e;have h2:=List.find?_some e;simp only[beq_iff_eq]at h2;subst h2;exact⟨l,h1,by simpa using h⟩
theorem IR{ops:Array Tu}:∀(ord:List Nat)(acc:List (Nat×List Nat)),(∀i l,(i,l)∈acc->∀j∈l,Reach ops i j)->∀i l,(i,l)∈gX ops ord acc->∀j∈l,Reach ops i j
 |[],acc,h=>h
 |x::ord,acc,h=>by
  unfold gX;split
  ·rename_i o ho;refine IR ord _ λi l hm j hj=> ?_;rcases SL.1 hm with e|hm
   ·cases e;rw[Y7,SV]at hj;rcases hj with hj|hj
    ·exact .Jd ho hj
    ·obtain⟨k,hk,hj⟩:=S6.1 hj;obtain⟨l',h1,h2⟩:=QQ hj;exact .more ho hk (h _ _ h1 _ h2)
   ·exact h i l hm j hj
  ·exact IR ord acc h
theorem zE{ops:Array Tu}{ord:List Nat}{i j:Nat}(h:j∈nO (gX ops ord []) i):Reach ops i j:=by
 obtain⟨l,h1,h2⟩:=QQ h;exact IR ord [] (by simp) i l h1 j h2
theorem Ff(p:Nat->Bool):∀l:List Nat,l.filter p∈uh l
 |[]=>by simp[uh]
 |x::l=>by
  unfold uh;rw[SV];by_cases h:p x=true
  ·rw[Yq h];exact .inr (Tl.2 ⟨_,Ff p l,rfl⟩)
  ·rw[Yr h];exact .inl (Ff p l)
structure zg (nt:Nat)(ops:Array Tu)(ord:List Nat):Prop where
 full:∀i,i<ops.size->i∈ord
 lt:∀i∈ord,i<ops.size
 top:kN ops [] ord=true
 dst:∀(i:Nat) o d,ops[i]?=some o->o.dst=some d->d<nt
 v4:∀(i:Nat) o,ops[i]?=some o->mL o.op=false
 Ci:∀(i:Nat) o,ops[i]?=some o->o.guard=none
 A':∀(i j d:Nat),de ops i=some d->de ops j=some d->i=j
 M1:∀(i:Nat) o t j,ops[i]?=some o-> .tmp t∈o.op.operands->de ops j=some t->j∈cX o\/Reach ops j i
theorem D6{ops:Array Tu}:∀{ord X:List Nat},kN ops X ord=true->ord.Nodup/\(∀i∈ord,i∉X)/\∀i∈ord,i<ops.size
 |[],_,_=>⟨WK,by simp,by simp⟩
 |i::B,X,h=>by
  simp only[kN,Ti,TZ,Uq,decide_eq_false_iff_not]at h;obtain⟨⟨h1,h2⟩,h3⟩:=h;obtain⟨q1,q2,q3⟩:=D6 h3;refine⟨VH.2 ⟨λhm=>q2 i hm (TB ..),q1⟩,λj hj=> ?_,λj hj=> ?_⟩
  ·rcases SL.1 hj with rfl|hj
   ·exact h1
   ·exactλhx=>q2 j hj (Tb _ hx)
  ·rcases SL.1 hj with rfl|hj
   ·apply Ts;intro hn;rw[Yw (by omega)]at h2;cases h2
   ·exact q3 j hj
theorem rF.out{nt:Nat}{ops:Array Tu}{es ord:List Nat}(h:rF nt ops es ord=true):zg nt ops ord:=by
 unfold rF at h;simp only[Ti,decide_eq_true_eq]at h;obtain⟨⟨hlen,oc⟩,h⟩:=h;obtain⟨wB,_,hlt⟩:=D6 oc;have Ag:∀i,i<ops.size->i∈ord:=λi hi=>by
  apply Ts;intro hn;have mc:(i::ord)⊆SZ ops.size:=λj hj=>by
   rcases SL.1 hj with rfl|hj
   ·simpa using hi
   ·simpa using hlt j hj
  have:=(VH.2 ⟨hn,wB⟩).length_le_of_subset mc;simp at this;omega
 have key:∀(i:Nat) o,ops[i]?=some o->o.dst.all (·<nt)=true/\mL o.op=false/\o.guard.isNone=true/\(∀j∈ord,(i==j||match o.dst,de ops j with
    |some d,some d'=>d !=d'
    |_,_=>true)=true)/\(∀x∈o.op.operands.toList,(match x with
    |.tmp t=>ord.all λj=>de ops j !=some t||(cX o).contains j||(nO (gX ops ord []) j).contains i
    |_=>true)=true):=λi o ho=>by
  have hi:i<ops.size:=(SU.1 ho).1;have:=Tv.1 h i (Ag i hi);rw[ho]at this;simp only[Ti,Tv,TZ]at this;exact⟨this.1.1.1.1,this.1.1.1.2,this.1.1.2,this.1.2,this.2⟩
 have RF:∀j d,de ops j=some d->j<ops.size:=λj d e=>by
  apply Ts;intro hn;rw[de,Yw (by omega)]at e;cases e
 refine⟨Ag,hlt,oc,λi o d ho hd=> ?_,λi o ho=>(key i o ho).2.1,λi o ho=>by simpa using(key i o ho).2.2.1,λi j d hi hj=> ?_,λi o t j ho ht hj=> ?_⟩
 ·have:=(key i o ho).1;rw[hd]at this;simpa using this
 ·apply Ts;intro aG;obtain⟨o,ho,tC⟩:=Te.1 hi;have:=(key i o ho).2.2.2.1 j (Ag j (RF j d hj));rw[tC,hj]at this;simp[aG]at this
 ·have:=(key i o ho).2.2.2.2 (.tmp t) (by simpa using ht);simp only[Tv]at this;have:=this j (Ag j (RF j t hj));rw[hj]at this;simp only[bne_self_eq_false,Zu,X0,Uq,decide_eq_true_eq]at this;exact this.imp id zE
section
variable (lv:Bool)(P:SJ)(Hf:List Nat->List aa)
def BQ (T:List (Nat×AV))(o:Tu)(av:AV):List (List Nat×List Nat)->Prop
 |[]=>True
 |(D,_)::l=>(AQ lv P ⟨T,Hf D⟩ o λa=>a=av)/\BQ T o av l
def BE (T:List (Nat×AV))(o:Tu)(av:AV):List (List Nat×List Nat)->Prop
 |[]=>True
 |(D,D')::l=>(kx lv P (Hf D') ⟨T,Hf D⟩ o λa H'=>a=av/\H'=Hf D')/\BE T o av l
structure Bs (K:AS->Prop):Type where
 n:Nat
def gG (ops:Array Tu):List rn->AS->(K:AS->Prop)->Bs K->Prop
 |[],s,K,_=>K s
 |⟨i,false,_,l⟩::rest,s,K,t=>ao (ops[i]?) λo=>AQ lv P s o λav=>BQ lv P Hf s.T o av l/\gG ops rest (s.put o.dst av) K t
 |⟨i,true,D,l⟩::rest,s,K,t=>ao (ops[i]?) λo=>kx lv P (Hf D) s o λav H'=>H'=Hf D/\BE lv P Hf s.T o av l/\gG ops rest ((⟨s.T,H'⟩:AS).put o.dst av) K t
end
def TX (ops:Array Tu)(T0:List (Nat×AV))(f:Nat->AV):List Nat->List (Nat×AV)
 |[]=>T0
 |i::X=>match de ops i with
  |some d=>(d,f i)::TX ops T0 f X
  |none=>TX ops T0 f X
section
variable {ops:Array Tu}{T0:List (Nat×AV)}{f g:Nat->AV}
theorem BD:∀{X:List Nat},(∀j∈X,f j=g j)->TX ops T0 f X=TX ops T0 g X
 |[],_=>rfl
 |i::X,h=>by
  simp only[TX,BD (X:=X) λj hj=>h j (Tb _ hj),h i (TB ..)]
theorem BF(aas:∀(i j d:Nat),de ops i=some d->de ops j=some d->i=j):∀{X:List Nat}{j t:Nat},j∈X->de ops j=some t->look (TX ops T0 f X) t=some (f j)
 |i::X,j,t,hj,ht=>by
  by_cases kI:i=j
  ·subst kI;simp[TX,ht,look]
  ·have iO:j∈X:=(SL.1 hj).resolve_left (Ne.symm kI);have ih:=BF aas (X:=X) iO ht;unfold TX;split
   ·rename_i d hd;have:d≠t:=λe=>kI (aas i j d hd (by rw[e];exact ht));simp only[look,if_neg this];exact ih
   ·exact ih
theorem xr:∀{X:List Nat}{t:Nat},(∀j∈X,de ops j≠some t)->look (TX ops T0 f X) t=look T0 t
 |[],_,_=>rfl
 |i::X,t,h=>by
  have ih:=xr (X:=X) (t:=t) λj hj=>h j (Tb _ hj);unfold TX;split
  ·rename_i d hd;have:d≠t:=λe=>h i (TB ..) (by rw[hd,e]);simp only[look,if_neg this];exact ih
  ·exact ih
theorem xu{H:List aa}{X:List Nat}{i:Nat}{o:Tu}{av:AV}(ho:ops[i]?=some o)(hf:f i=av):(⟨TX ops T0 f X,H⟩:AS).put o.dst av=⟨TX ops T0 f (i::X),H⟩:=by
 have hd:de ops i=o.dst:=by simp[de,ho]
 have e:TX ops T0 f (i::X)=match de ops i with
  |some d=>(d,f i)::TX ops T0 f X
  |none=>TX ops T0 f X:=rfl
 rw[e,hd];cases o.dst with
 |none=>rfl
 |some d=>simp[AS.put,hf]
def lq (ops:Array Tu)(X:List Nat):Prop:=∀i∈X,∀o,ops[i]?=some o->∀j∈cX o,j∈X
theorem lq.reach{X:List Nat}(hX:lq ops X){i j:Nat}(hi:i∈X)(h:Reach ops i j):j∈X:=AZ hX h λo ho k hk=>hX i hi o ho k hk
theorem lq.cons{X:List Nat}(hX:lq ops X){i:Nat}{o:Tu}(ho:ops[i]?=some o)(hd:∀j∈cX o,j∈X):lq ops (i::X):=λk hk o' bc j hj=>by
 rcases SL.1 hk with rfl|hk
 ·rw[ho]at bc;cases bc;exact Tb _ (hd j hj)
 ·exact Tb _ (hX k hk o' bc j hj)
theorem ad8{nt:Nat}{ord:List Nat}(au:zg nt ops ord){X X':List Nat}{i:Nat}{o:Tu}(ho:ops[i]?=some o)(hX:lq ops X)(oN:lq ops X')(hi:i∉X)(cu:i∉X')(hd:∀j∈cX o,j∈X)(cG:∀j∈cX o,j∈X'){t:Nat}(ht: .tmp t∈o.op.operands):
  look (TX ops T0 f X) t=look (TX ops T0 f X') t:=by
 by_cases hex:∃j,de ops j=some t
 ·obtain⟨j,hj⟩:=hex;rcases au.M1 i o t j ho ht hj with h|h
  ·rw[BF au.A' (hd j h) hj,BF au.A' (cG j h) hj]
  ·rw[xr λj' iO e=>hi (hX.reach (au.A' j j' t hj e▸iO) h),xr λj' iO e=>cu (oN.reach (au.A' j j' t hj e▸iO) h)]
 ·rw[xr λj _ e=>hex ⟨j,e⟩,xr λj _ e=>hex ⟨j,e⟩]
end
section
variable {lv:Bool}{P:SJ}{r:Option Nat}{ops:Array Tu}{Hf:List Nat->List aa}{T0:List (Nat×AV)}{es ord:List Nat}{nt:Nat}
def done (es X:List Nat):List Nat:=es.filter λe=>X.contains e
theorem EY{X:List Nat}{i:Nat}:tW es i (done es X)=done es (i::X):=by
 unfold tW done;apply Vh;intro e he;by_cases h:e=i
 ·subst h;simp
 ·simp[Uv,he,h]
theorem I7{X:List Nat}{i:Nat}(hi:i∉es):done es (i::X)=done es X:=by
 unfold done;apply Vh;intro e he;have:e≠i:=λh=>hi (h▸he);simp[this]
theorem I8{X:List Nat}(hX:lq ops X){i:Nat}{o:Tu}(ho:ops[i]?=some o)(hi:i∉X)(hd:∀j∈cX o,j∈X):wT (gX ops ord []) es i (done es X)=true:=by
 have cV:∀e,e∈es->(e∈done es X<->e∈X):=λe he=>by simp[done,Uv,he]
 have hX2:=hX.cons ho hd;unfold wT;simp only[Ti,TZ,Uq,decide_eq_false_iff_not,Tv,X0,decide_eq_true_eq];refine⟨λh=>hi (by simpa[done]using(Uv.1 h).2),λe he=>⟨?_,?_⟩⟩
 ·by_cases h:e∈nO (gX ops ord []) i
  ·right;rw[cV e he];exact AZ hX (zE h) λo' bc k hk=>by rw[ho]at bc;cases bc;exact hd k hk
  ·exact .inl h
 ·by_cases h:e∈X
  ·right;refine⟨λhm=>hi (hX.reach h (zE hm)),λe' kG=> ?_⟩;by_cases hm:e'∈nO (gX ops ord []) e
   ·right;rw[cV e' kG];exact hX.reach h (zE hm)
   ·exact .inl hm
  ·left;rw[cV e he];exact h
def OB (lv:Bool)(P:SJ)(r:Option Nat)(ops:Array Tu)(Hf:List Nat->List aa)(T0:List (Nat×AV))(es:List Nat)(f:Nat->AV)(i:Nat)(o:Tu)(X:List Nat):Prop:=
 if i∈es then kx lv P (Hf (done es (i::X))) ⟨TX ops T0 f X,Hf (done es X)⟩ o (λa H'=>a=f i/\H'=Hf (done es (i::X)))
 else∃T,(∀t a,look T t=some a->look (TX ops T0 f X) t=some a)/\dI lv P r o ⟨T,Hf (done es X)⟩ (f i)
theorem BQ.mem{T:List (Nat×AV)}{o:Tu}{av:AV}:∀{l:List (List Nat×List Nat)},BQ lv P Hf T o av l->∀p∈l,AQ lv P ⟨T,Hf p.1⟩ o λa=>a=av
 |(D,D')::l,h,p,hp=>by
  rcases SL.1 hp with rfl|hp
  ·exact h.1
  ·exact BQ.mem h.2 p hp
theorem BE.mem{T:List (Nat×AV)}{o:Tu}{av:AV}:∀{l:List (List Nat×List Nat)},BE lv P Hf T o av l->∀p∈l,kx lv P (Hf p.2) ⟨T,Hf p.1⟩ o λa H'=>a=av/\H'=Hf p.2
 |(D,D')::l,h,p,hp=>by
  rcases SL.1 hp with rfl|hp
  ·exact h.1
  ·exact BE.mem h.2 p hp
def canon (T:List (Nat×AV)):List Th->List (Nat×AV)
 |[]=>[]
 |.tmp t::l=>match look T t with
  |some a=>(t,a)::canon T l
  |none=>canon T l
 |_::l=>canon T l
theorem IP{T:List (Nat×AV)}:∀{l:List Th}{t:Nat}{a:AV},look (canon T l) t=some a->look T t=some a
 |[],_,_,h=>by cases h
 |x::l,t,a,h=>by
  have ih:=@IP T l t a;cases x with
  |tmp t'=>
   simp only[canon]at h;split at h
   ·rename_i b hb;simp only[look]at h;split at h
    ·rename_i e;subst e;cases h;exact hb
    ·exact ih h
   ·exact ih h
  |_=>exact ih h
theorem Pu{T:List (Nat×AV)}:∀{l:List Th}{t:Nat},.tmp t∈l->look (canon T l) t=look T t
 |x::l,t,h=>by
  by_cases hx:x=.tmp t
  ·subst hx;simp only[canon];split
   ·rename_i b hb;simp[look,hb]
   ·rename_i hb;rw[hb];cases e:look (canon T l) t with
    |none=>rfl
    |some a=>have:=IP e;rw[hb]at this;cases this
  ·have hm: .tmp t∈l:=(SL.1 h).resolve_left (Ne.symm hx);have ih:=Pu (T:=T) hm;cases x with
   |tmp t'=>
    have aG:t'≠t:=λe=>hx (by rw[e]);simp only[canon];split
    ·simp only[look,if_neg aG];exact ih
    ·exact ih
   |_=>exact ih
theorem Pt{T:List (Nat×AV)}:∀{l:List Th}{t:Nat}{a:AV},look (canon T l) t=some a-> .tmp t∈l
 |[],_,_,h=>by cases h
 |x::l,t,a,h=>by
  have ih:=@Pt T l t a;cases x with
  |tmp t'=>
   simp only[canon]at h;split at h
   ·simp only[look]at h;split at h
    ·rename_i e;subst e;exact TB ..
    ·exact Tb _ (ih h)
   ·exact Tb _ (ih h)
  |_=>exact Tb _ (ih h)
theorem Ps{T:List (Nat×AV)}{H:List aa}{l:List Th}{x:Th}(h:x∈l):AS.ev ⟨T,H⟩ x=AS.ev ⟨canon T l,H⟩ x:=by
 cases x with
 |tmp t=>exact(Pu h).symm
 |_=>rfl
theorem BX(au:zg nt ops ord){K:AS->Prop}{tk:Bs K}:∀(B X:List Nat)(acc:Nat->AV),kN ops X B=true->lq ops X->gG lv P Hf ops (qV (gX ops ord []) es X B) ⟨TX ops T0 acc X,Hf (done es X)⟩ K tk->
  ∃f,(∀j∈X,f j=acc j)/\(∀i∈B,∀o,ops[i]?=some o->∀X',lq ops X'->i∉X'->(∀j∈cX o,j∈X')->OB lv P r ops Hf T0 es f i o X')/\K ⟨TX ops T0 f (B.reverse++X),Hf (done es (B.reverse++X))⟩
 |[],X,acc,_,_,h=>⟨acc,λ_ _=>rfl,by simp,by simpa[qV,gG]using h⟩
 |i::B,X,acc,oc,hX,h=>by
  have atG:=oc;simp only[kN,Ti,TZ,Uq,decide_eq_false_iff_not]at oc;obtain⟨⟨hi,h2⟩,h3⟩:=oc;cases ho:ops[i]?with
  |none=>rw[ho]at h2;cases h2
  |some o=>
  rw[ho]at h2;have hd:∀j∈cX o,j∈X:=λj hj=>by have:=Tv.1 h2 j hj;simpa using this
  have oN:=hX.cons ho hd;have atr:wT (gX ops ord []) es i (done es X)=true:=I8 hX ho hi hd;have M3:∀D,D∈uh es->wT (gX ops ord []) es i D=true->D≠done es X->(D,tW es i D)∈((uh es).filter λD=>wT (gX ops ord []) es i D&&D !=done es X).map λD=>(D,tW es i D):=λD h1 h2 h3=>Tl.2 ⟨D,Uv.2 ⟨h1,by simp[h2,h3]⟩,rfl⟩;have OJ:∀av:AV,TX ops T0 acc X=TX ops T0 (λj=>if j=i then av else acc j) X:=λav=>BD λj hj=>by
   have:j≠i:=λe=>hi (e▸hj);simp[this]
  have seen:∀(f:Nat->AV) X',(∀j∈X,f j=acc j)->lq ops X'->i∉X'->(∀j∈cX o,j∈X')->∀(H:List aa),∀x∈o.op.operands,AS.ev ⟨TX ops T0 acc X,H⟩ x=AS.ev ⟨TX ops T0 f X',H⟩ x:=λf X' hf hc hn cG H x hx=>by
   cases x with
   |tmp t=>
    show look _ t=look _ t;rw[<- BD (f:=f) (g:=acc) hf];exact ad8 au ho hX hc hi hn hd cG hx
   |_=>rfl
  unfold qV at h;by_cases dF:i∈es
  ·have Kz:entry (gX ops ord []) es X i=⟨i,true,tW es i (done es X),((uh es).filter λD=>wT (gX ops ord []) es i D&&D !=done es X).map λD=>(D,tW es i D)⟩:=by
    unfold entry done;simp[dF]
   rw[Kz,gG,ho,ao]at h;obtain⟨av,H',g1,e1,g2,g3⟩:=h.ex;subst e1;rw[EY]at g1 g3;rw[OJ av,xu ho (by simp)]at g3;obtain⟨f,q1,q2,q3⟩:=BX au B (i::X) _ h3 oN g3;have KB:f i=av:=(by have:=q1 i (TB ..);simpa using this);have CI:∀j∈X,f j=acc j:=λj hj=>by
    have:=q1 j (Tb _ hj);have aG:j≠i:=λe=>hi (e▸hj);simpa[aG]using this
   refine⟨f,CI,λk hk o' bc X' hc hn cG=> ?_,by simpa using q3⟩;rcases SL.1 hk with rfl|hk
   ·rw[ho]at bc;cases bc;unfold OB;rw[if_pos dF,KB];refine kx.congr (T:=TX ops T0 acc X) (seen f X' CI hc hn cG _) ?_;by_cases hD:done es X'=done es X
    ·rw[<- EY,hD,EY];exact g1
    ·have:=g2.mem _ (M3 _ (Ff _ es) (I8 hc ho hn cG) hD);rw[<- EY];exact this
   ·exact q2 k hk o' bc X' hc hn cG
  ·have Kz:entry (gX ops ord []) es X i=⟨i,false,tW es i (done es X),((uh es).filter λD=>wT (gX ops ord []) es i D&&D !=done es X).map λD=>(D,tW es i D)⟩:=by
    unfold entry done;simp[dF]
   rw[Kz,gG,ho,ao]at h;have h':=AQ.congr (T':=canon (TX ops T0 acc X) o.op.operands.toList) (λx hx=>Ps (by simpa using hx)) h;obtain⟨av,g1,g2,g3⟩:=h'.sound (r:=r);rw[OJ av,xu ho (by simp),<- I7 (X:=X) dF]at g3;obtain⟨f,q1,q2,q3⟩:=BX au B (i::X) _ h3 oN g3;have KB:f i=av:=(by have:=q1 i (TB ..);simpa using this);have CI:∀j∈X,f j=acc j:=λj hj=>by
    have:=q1 j (Tb _ hj);have aG:j≠i:=λe=>hi (e▸hj);simpa[aG]using this
   refine⟨f,CI,λk hk o' bc X' hc hn cG=> ?_,by simpa using q3⟩;rcases SL.1 hk with rfl|hk
   ·rw[ho]at bc;cases bc;unfold OB;rw[if_neg dF,KB];refine⟨canon (TX ops T0 acc X) o.op.operands.toList,λt a e=> ?_,?_⟩
    ·have h1:=seen f X' CI hc hn cG [] (.tmp t) (by simpa using Pt e);have h2:look (TX ops T0 acc X) t=look (TX ops T0 f X') t:=h1;rw[<- h2];exact IP e
    ·by_cases hD:done es X'=done es X
     ·rw[hD];exact g1
     ·have h1:=g2.mem _ (M3 _ (Ff _ es) (I8 hc ho hn cG) hD);have h2:=AQ.congr (T':=canon (TX ops T0 acc X) o.op.operands.toList) (λx hx=>Ps (by simpa using hx)) h1;obtain⟨na,h3,rfl⟩:=h2.sound (r:=r);exact h3
   ·exact q2 k hk o' bc X' hc hn cG
theorem EB{f:Nat->AV}(au:zg nt ops ord){X X':List Nat}(h:∀i,i∈X<->i∈X')(t:Nat):look (TX ops T0 f X) t=look (TX ops T0 f X') t:=by
 by_cases hex:∃j∈X,de ops j=some t
 ·obtain⟨j,hj,hd⟩:=hex;rw[BF au.A' hj hd,BF au.A' ((h j).1 hj) hd]
 ·rw[xr λj hj e=>hex ⟨j,hj,e⟩,xr λj hj e=>hex ⟨j,(h j).2 hj,e⟩]
theorem EZ{X X':List Nat}(h:∀i,i∈X<->i∈X'):done es X=done es X':=by
 unfold done;apply Vh;intro e _;have:=h e;by_cases h1:e∈X
 ·have h2:=this.1 h1;simp[h1,h2]
 ·have h2:e∉X':=λx=>h1 (this.2 x);simp[h1,h2]
theorem ag1{f:Nat->AV}(au:zg nt ops ord)(ay:∀i∈ord,∀o,ops[i]?=some o->∀X',lq ops X'->i∉X'->(∀j∈cX o,j∈X')->OB lv P r ops Hf T0 es f i o X'){X l:List Nat}(hs:mw ops X l):
  (∀i∈X,i<ops.size)->lq ops X->∀(E:Env)(V:View)(a:Act)(Q:Ex->Act->View->Prop),At E V ⟨TX ops T0 f X,Hf (done es X)⟩ a nt->
   (∀E' V' a' X',Kept E E' V V' a a'->At E' V' ⟨TX ops T0 f X',Hf (done es X')⟩ a' nt->(∀i,i∈X'<->i<ops.size)->Q .normal a' V')->dz lv P r ops Q l a V:=by
 induction hs with
 |nil X h=>
  intro hX hc E V a Q ah hQ;exact hQ E V a X (Kept.refl E V a) ah λi=>⟨hX i,h i⟩
 |cons o ho hn hd l_ ih=>
  rename_i X i l;intro hX hc E V a Q ah hQ;have hi:i<ops.size:=(SU.1 ho).1;simp only[dz,ho];have oN:∀k∈i::X,k<ops.size:=λk hk=>(SL.1 hk).elim (λe=>by rw[e];exact hi) (hX k);have bi:=hc.cons ho hd;have hw:Tg o (yielded ops a.tmps)=true:=by unfold Tg;rw[au.Ci i o ho]
  rw[if_pos hw];refine .inl ?_;have dB:∀d,o.dst=some d->d<a.tmps.size:=λd e=>by rw[ah.size];exact au.dst i o d ho e
  have l9:=ay i (au.full i hi) o ho X hc hn hd;unfold OB at l9;by_cases dF:i∈es
  ·rw[if_pos dF]at l9;have aR:=l9.step (r:=r) (bad:=λ_ _=>False);refine aR E V a _ Q ah.bu ah.tok dB (.inr (au.v4 i o ho)) (λE' V' a' s' hk cU ht e=> ?_) λ_ _ _ _ _ _ _ _ _ h=>h.elim;subst e;rw[xu ho rfl]at ht cU;exact ih oN bi E' V' a' Q ⟨cU,ht,hk.size.trans ah.size⟩ λbW aT cx m_ aJ dt fW=>hQ bW aT cx m_ (hk.trans aJ) dt fW
  ·rw[if_neg dF]at l9;obtain⟨T,hT,hq⟩:=l9;refine hq E V a _ Q ah.bu (λt av e=>ah.tok t av (hT t av e)) (.inr (au.v4 i o ho)) λE' V' v hle cp fy cU hv=> ?_;have ht:cw E' ((⟨TX ops T0 f X,Hf (done es X)⟩:AS).put o.dst (f i)).T (a.put o.dst v).tmps:=cw.iu (s:=⟨TX ops T0 f X,Hf (done es X)⟩) (ah.tok.mono hle) dB hv;rw[xu ho rfl]at ht;refine ih oN bi E' V' (a.put o.dst v) Q ⟨by rw[I7 dF];exact cU,ht,(ey _ _ _).trans ah.size⟩ λbW aT cx m_ hk dt fW=>
    hQ bW aT cx m_ ⟨hle.trans hk.le,hk.size.trans (ey _ _ _),hk.defers.trans (put_defers _ _ _),hk.role.trans cp,hk.deaf.trans fy⟩ dt fW
theorem afz{s:AS}{id:Nat}{Φ:an->AS->Prop}(es ord:List Nat)(pl:List rn)(Hf:List Nat->List aa)(hm:P.follows .mixedOrders=true)(au:rF nt ops es ord=true)(cN:abY ops es ord=pl)(h0:s.H=Hf [])
  (h:gG lv P Hf ops pl s (Φ .normal) ⟨0⟩):aQ lv P r nt (.region id ops true) s Φ:=by
 intro E V a Q ah hQ;have au:=rF.out au;obtain⟨wB,_,hlt⟩:=D6 au.top;have cH:s=⟨TX ops s.T (λ_=> .val undef) [],Hf (done es [])⟩:=by
  have:done es []=[]:=by simp[done]
  rw[this,<- h0];rfl
 subst cN;have h':gG lv P Hf ops (qV (gX ops ord []) es [] ord) ⟨TX ops s.T (λ_=> .val undef) [],Hf (done es [])⟩ (Φ .normal) ⟨0⟩:=by rw[<- cH];exact h
 obtain⟨f,_,q2,q3⟩:=BX (r:=r) au ord [] _ au.top (λi hi=>by cases hi) h';have Ag:∀i,i∈ord<->i<ops.size:=λi=>⟨hlt i,au.full i⟩;refine Oe λt=> ?_;rw[show VN (P.follows .mixedOrders) ops t=UF .any ops ops.size t (TK ops.size false) [] by unfold VN;rw[hm];simp[Y_]];have binds:∀(A B:List Nat)(X:List Nat),kN ops X (A++B)=true->True:=λ_ _ _ _=>trivial;have ready:∀(ord X:List Nat),kN ops X ord=true->∀A i B,ord=A++i::B->∃o,ops[i]?=some o/\∀j∈cX o,j∈A\/j∈X:=by
  intro ord;induction ord with
  |nil=>intro X _ A i B e;cases A<;>cases e
  |cons x l ih=>
   intro X oc A i B e;simp only[kN,Ti,TZ,Uq,decide_eq_false_iff_not]at oc;obtain⟨⟨h1,h2⟩,h3⟩:=oc;cases A with
   |nil=>
    have e1:x=i:=(by have:=congrArg List.head? e;simpa using this);rw[e1]at h2;cases ho:ops[i]?with
    |none=>rw[ho]at h2;cases h2
    |some o=>
     rw[ho]at h2;exact⟨o,rfl,λj hj=> .inr (by have:=Tv.1 h2 j hj;simpa using this)⟩
   |cons y A=>
    cases e;obtain⟨o,ho,hb⟩:=ih (x::X) h3 A i B rfl;refine⟨o,ho,λj hj=> ?_⟩;rcases hb j hj with h|h
    ·exact .inl (Tb _ h)
    ·rcases SL.1 h with rfl|h
     ·exact .inl (TB ..)
     ·exact .inr h
 have hs:=My (ops:=ops) (λi o ho j hj=>by
   obtain⟨A,B,e⟩:=List.append_of_mem (au.full i (SU.1 ho).1);obtain⟨o',bc,hb⟩:=ready ord [] au.top A i B e;rw[ho]at bc;cases bc;rcases hb j hj with h|h
   ·exact hlt j (by rw[e];exact Tf _ h)
   ·cases h)
  (λX ⟨i,hi,hn⟩=>by
   obtain⟨A,i',B,e,h1,h2⟩:=JB (X:=X) ⟨i,au.full i hi,hn⟩;obtain⟨o',bc,hb⟩:=ready ord [] au.top A i' B e;refine⟨i',o',bc,h1,λj hj=> ?_⟩;rcases hb j hj with h|h
   ·exact h2 j h
   ·cases h)
  ops.size t (TK ops.size false) [] ⟨by simp,λi hi=>by simp[hi]⟩ (UL Y1 (by simp))
 have tw:At E V ⟨TX ops s.T f [],Hf (done es [])⟩ a nt:=by
  have e:(⟨TX ops s.T f [],Hf (done es [])⟩:AS)=s:=cH.symm;rw[e];exact ah
 refine ag1 (Hf:=Hf) (es:=es) au q2 hs (by simp) (λi hi=>by cases hi) E V a Q tw λE' V' a' X' hk aV fW=> ?_;have fZ:∀i,i∈X'<->i∈ord.reverse++[]:=λi=>by simp[fW,Ag]
 refine hQ .normal .normal E' V' a' _ hk ⟨?_,λt x e=> ?_,aV.size⟩ trivial q3
 ·rw[<- EZ fZ];exact aV.bu
 ·rw[<- EB au fZ]at e;exact aV.tok t x e
end
open Go.Proofs
theorem F.Oy:lU SC 77=(SN Go.Gg.zn.map):=by kernel_rfl
theorem F.OG:eY SC 4=(SN (W8 Bool.false)):=by kernel_rfl
theorem F.OH:eY SC 88=(SN (TC #[(W8 Bool.false),(Zq Option.none),(SF S5 (0)),(SF S5 (0)),(SF S5 (0)),(SF S5 (0)),(SF S5 (0)),(SF S5 (0)),(SF S5 (0)),(SF S5 (0)),(SF S5 (0)),(SF S5 (0)),(SF S5 (0)),(SF S5 (0)),(SF S5 (0)),(SF S5 (0)),(SF S5 (0)),(SF SE (0)),(SF SE (0)),(SF SE (0)),(SF SE (0)),(SF SE (0)),(SF SE (0)),(SF SE (0)),(SF SE (0)),(SF SE (0)),(SF SE (0)),(SF SE (0))])):=by kernel_rfl
theorem F.alQ:mM SC 116=(SN Bool.false):=by kernel_rfl
theorem F.Dh:mM SC 126=(SN Bool.true):=by kernel_rfl
theorem F.Md:mM SC 136=(SN Bool.false):=by kernel_rfl
theorem F.alR:mM SC 156=(SN Bool.false):=by kernel_rfl
theorem F.aaB:mM SC 97=(SN Bool.false):=by kernel_rfl
theorem F.f31:SC.funcs[31]?=some Tryz.f31:=by kernel_rfl
theorem F.f71:SC.funcs[71]?=some Tryz.f71:=by kernel_rfl
theorem F.f77:SC.funcs[77]?=some XK:=by kernel_rfl
theorem F.f91:SC.funcs[91]?=some Tryz.f91:=by kernel_rfl
theorem F.f95:SC.funcs[95]?=some Tryz.f95:=by kernel_rfl
theorem F.f97:SC.funcs[97]?=some ar':=by kernel_rfl
theorem F.mixed:SC.follows .mixedOrders=true:=by kernel_rfl
inductive dS (lv:Bool)(P:SJ)(r:Option Nat)(nt:Nat):Ua->(an->AS->Prop)->Ua->(an->AS->Prop)->Prop
 |base {c:Ua} {Φ:an->AS->Prop}:dS lv P r nt c Φ c Φ
 |seq {x y h:Ua} {Φ Ψ:an->AS->Prop} (i:dS lv P r nt x (an.then (λs=>aQ lv P r nt y s Φ) Φ) h Ψ):dS lv P r nt (.seq x y) Φ h Ψ
 |block {id:Nat} {x h:Ua} {Φ Ψ:an->AS->Prop} (i:dS lv P r nt x (an.inBlock id Φ) h Ψ):dS lv P r nt (.block id x) Φ h Ψ
section
variable {lv:Bool}{P:SJ}{r:Option Nat}{s:AS}{nt id:Nat}{ops:Array Tu}{c h:Ua}{Φ Ψ:an->AS->Prop}
theorem bL{f:TO}{H:List aa}{args:List AV}{k kp:AV->List aa->Prop}{rs:List UN}(fn:Yz)
  (h:bM H->(∀a∈args,Lt H.length a)->aQ lv P none nt c ⟨bt 0 args,H⟩ (sO P rs H.length k kp)) (hf:P.funcs[f]?=some fn:=by kernel_rfl) (hb:fn.body=some c:=by rfl) (hr:fn.results=rs.toArray:=by rfl) (hn:fn.ntmps=nt:=by rfl) (cS:args.length<=nt:=by simp):bk lv P f H args k kp:=ai1 hf hb hr hn cS h
theorem dS.go(i:dS lv P r nt c Φ h Ψ):∀{s:AS},aQ lv P r nt h s Ψ->aQ lv P r nt c s Φ:=by
 induction i with
 |base=>exactλh=>h
 |seq _ ih=>exactλk=>iY (ih k)
 |block _ ih=>exactλk=>OX (ih k)
theorem ai(h:iL lv P ops ops.toList s (Ψ .normal) (λpv s=>Ψ (.panic pv) s))(i:dS lv P r nt c Φ (.region id ops false) Ψ:=by repeat first|exact .base|apply dS.seq|apply dS.block)(hd:j_ nt ops=true:=by kernel_rfl):aQ lv P r nt c s Φ:=i.go (O5 hd h)
theorem as0{o:Th}{x y:Ua}(h:ao (s.ev o) λa=>a.asBool λb=>(b=true->aQ lv P r nt x s Ψ)/\(b=false->aQ lv P r nt y s Ψ))(i:dS lv P r nt c Φ (.cond o x y) Ψ:=by repeat first|exact .base|apply dS.seq|apply dS.block):aQ lv P r nt c s Φ:=i.go (OY h)
theorem afH(h:Ψ .normal s)(i:dS lv P r nt c Φ .skip Ψ:=by repeat first|exact .base|apply dS.seq|apply dS.block):aQ lv P r nt c s Φ:=i.go (O9 h)
theorem nH(h:Ψ .ret s)(i:dS lv P r nt c Φ .ret Ψ:=by repeat first|exact .base|apply dS.seq|apply dS.block):aQ lv P r nt c s Φ:=i.go (O7 h)
theorem as3(h:Ψ (.exit id) s)(i:dS lv P r nt c Φ (.exit id) Ψ:=by repeat first|exact .base|apply dS.seq|apply dS.block):aQ lv P r nt c s Φ:=i.go (OZ h)
theorem cL{x:Ua}(h:aQ lv P r nt x s (an.inBlock id Ψ))(i:dS lv P r nt c Φ (.block id x) Ψ:=by repeat first|exact .base|apply dS.seq|apply dS.block):aQ lv P r nt c s Φ:=i.go (OX h)
theorem ak{p:Prop}(h:p)(i:dS lv P r nt c Φ (.region id ops false) Ψ:=by repeat first|exact .base|apply dS.seq|apply dS.block)(e:iL lv P ops ops.toList s (Ψ .normal) (λpv s=>Ψ (.panic pv) s)=p:=by conv=>lhs;simp only[seval])(hd:j_ nt ops=true:=by kernel_rfl):aQ lv P r nt c s Φ:=i.go (O5 hd (e.mpr h))
theorem aD{p:Prop}{o:Th}{x y:Ua}(h:p)(i:dS lv P r nt c Φ (.cond o x y) Ψ:=by repeat first|exact .base|apply dS.seq|apply dS.block)(e:(ao (s.ev o) λa=>a.asBool λb=>(b=true->aQ lv P r nt x s Ψ)/\(b=false->aQ lv P r nt y s Ψ))=p:=by conv=>lhs;simp only[seval]):aQ lv P r nt c s Φ:=i.go (OY (e.mpr h))
theorem aN{p:Prop}(h:p)(i:dS lv P r nt c Φ .skip Ψ:=by repeat first|exact .base|apply dS.seq|apply dS.block)(e:Ψ .normal s=p:=by conv=>lhs;simp only[seval]):aQ lv P r nt c s Φ:=i.go (O9 (e.mpr h))
theorem bf{p:Prop}(h:p)(i:dS lv P r nt c Φ .ret Ψ:=by repeat first|exact .base|apply dS.seq|apply dS.block)(e:Ψ .ret s=p:=by conv=>lhs;simp only[seval]):aQ lv P r nt c s Φ:=i.go (O7 (e.mpr h))
theorem cq{p:Prop}(h:p)(i:dS lv P r nt c Φ (.exit id) Ψ:=by repeat first|exact .base|apply dS.seq|apply dS.block)(e:Ψ (.exit id) s=p:=by conv=>lhs;simp only[seval]):aQ lv P r nt c s Φ:=i.go (OZ (e.mpr h))
theorem eU{Φ Ψ:an->AS->Prop}{c:Ua}(p:Nat)(h:nz lv P ops (ops.toList.take p) s (λs'=>iL lv P ops (ops.toList.drop p) s' (Ψ .normal) (λpv s=>Ψ (.panic pv) s)))(i:dS lv P r nt c Φ (.region id ops true) Ψ:=by repeat first|exact .base|apply dS.seq|apply dS.block)(hm:P.follows .mixedOrders=true:=by kernel_rfl)(au:zI nt p ops=true:=by kernel_rfl):aQ lv P r nt c s Φ:=i.go (afy hm p au h)
theorem pu{Φ Ψ:an->AS->Prop}{c:Ua}(es ord:List Nat)(pl:List rn)(Hf:List Nat->List aa)(h:gG lv P Hf ops pl s (Ψ .normal) ⟨0⟩)(i:dS lv P r nt c Φ (.region id ops true) Ψ:=by repeat first|exact .base|apply dS.seq|apply dS.block)(hm:P.follows .mixedOrders=true:=by kernel_rfl)(au:rF nt ops es ord=true:=by kernel_rfl)(cN:abY ops es ord=pl:=by kernel_rfl)(h0:s.H=Hf []:=by first|rfl|simp only[seval]):aQ lv P r nt c s Φ:=i.go (afz es ord pl Hf hm au cN h0 h)
theorem sY(n:Nat)(V:Nat->List (Nat×AV))(Hf:Nat->List aa)(ok:Nat->Prop)(hm:ok 0)
  (h:bM s.H->(∀t a,look s.T t=some a->Lt s.H.length a)->∀m,m<=n->ok m->∀R:AS->Prop,(∀s',(m<n/\ok (m+1)/\ru s.T (V m) (V (m+1)) (Hf (m+1)) s')->R s')->aQ lv P r nt c ⟨V m++s.T,Hf m⟩ (an.then R Φ)) (uV:∀m m',(V m).map (·.1)=(V m').map (·.1):=by exactλ_ _=>rfl) (gY:∀p∈V 0,∃b,look s.T p.1=some b/\Wk b p.2:=by(simp only[seval];simp[bw,Wk.refl])) (uG:Hf 0=s.H:=by rfl) (hl:∀m,m<=n->ok m->(Hf m).length=s.H.length:=by exactλ_ _ _=>rfl):aQ lv P r nt (.loop c) s Φ:=iD n V Hf ok uV gY uG hl hm h
theorem dn{base Vi Vn T:List (Nat×AV)}{H:List aa}(hk:sQ T (Vi++base) Vn:=by exact qS rfl rfl)(hv:∀p∈Vn,∃b,look T p.1=some b/\Wk b p.2:=by(simp only[seval];simp[bw,Wk.refl])):ru base Vi Vn H ⟨T,H⟩:=apG hk hv
theorem acg{base Vi Vn T:List (Nat×AV)}{H H':List aa}(au:bM H)(hg:∃G,H++G=H':=by first|exact⟨_,rfl⟩|exact⟨_,SA ..⟩)(hk:sQ T (Vi++base) Vn:=by exact qS rfl rfl)(hv:∀p∈Vn,∃b,look T p.1=some b/\Wk b p.2:=by(simp only[seval];simp[bw,Wk.refl]))(hlt:∀p∈Vn,Lt H.length p.2:=by simp[fe]):ru base Vi Vn H ⟨T,H'⟩:=by
 obtain⟨G,rfl⟩:=hg;exact acf hk hv au hlt
theorem bX{H:List aa}{args:List AV}{k kp:AV->List aa->Prop}{g:TO}{first c9:List AV}(hf:bk lv P g H (first++args++c9) k kp)(hg:rf P g=true:=by kernel_rfl):jo lv P (.fn (.func g) first c9) H args k kp:=IL hg hf
end
theorem aI{lv:Bool}{P:SJ}{H:List aa}{args:List AV}{k kp:AV->List aa->Prop}{g:TO}{first c9:List AV}{t:Ew k kp}(hf:bk lv P g H (first++args++c9) k kp)(hg:rf P g=true:=by kernel_rfl):Bj lv P (.fn (.func g) first c9) H args k kp t:=xD (IL hg hf)
theorem F.q0:j3 SC 22 22=(SN (3,(1,(SF SE (0)))))/\j3 SC 23 23=(SN (61,(3,(TC #[(SF SE (0)),(SF SE (0)),(SF SE (0))]))))/\j3 SC 24 24=(SN (48,(4,(TC #[(SF SE (0)),(SF SE (0)),(SF SE (0)),(SF SE (0))]))))/\j3 SC 57 57=(SN (22,(1,(Us Option.none 0 0))))/\pc SC 136=(SN ((Go.Gg.iN.fields []),(TC #[])))/\pc SC 26=(SN ((Go.Gg.iN.fields [(0,1),(1,1),(2,1),(3,1),(4,1),(5,1)]),(TC #[(SF SE (0)),(SF SE (0)),(SF SE (0)),(Us Option.none 0 0),(Us Option.none 0 0),(Us Option.none 0 0)])))/\pc SC 46=(SN ((Go.Gg.iN.fields [(0,1),(1,1)]),(TC #[(SF SE (0)),(SF SE (0))])))/\pc SC 48=(SN ((Go.Gg.iN.fields [(0,2),(2,2)]),(TC #[(SF SE (0)),(SF SE (0)),(SF SE (0)),(SF SE (0))])))/\pc SC 61=(SN ((Go.Gg.iN.fields [(0,1),(1,2)]),(TC #[(SF SE (0)),(SF SE (0)),(SF SE (0))])))/\pc SC 73=(SN ((Go.Gg.iN.fields [(0,1),(1,1),(2,1)]),(TC #[(Us Option.none 0 0),(SF SE (0)),(SF Tx (0))])))/\pc SC 76=(SN ((Go.Gg.iN.fields [(0,6)]),(TC #[(SF SE (0)),(SF SE (0)),(SF SE (0)),(Us Option.none 0 0),(Us Option.none 0 0),(Us Option.none 0 0)])))/\pc SC 86=(SN ((Go.Gg.iN.fields [(0,4),(4,4),(8,3)]),(TC #[(SF SE (0)),(SF SE (0)),(SF SE (0)),(SF SE (0)),(SF SE (0)),(SF SE (0)),(SF SE (0)),(SF SE (0)),(SF SE (0)),(SF SE (0)),(SF SE (0))])))/\pc SC 88=(SN ((Go.Gg.iN.fields [(0,1),(1,1),(2,4),(6,4),(10,4),(14,3),(17,11)]),(TC #[(W8 Bool.false),(Zq Option.none),(SF S5 (0)),(SF S5 (0)),(SF S5 (0)),(SF S5 (0)),(SF S5 (0)),(SF S5 (0)),(SF S5 (0)),(SF S5 (0)),(SF S5 (0)),(SF S5 (0)),(SF S5 (0)),(SF S5 (0)),(SF S5 (0)),(SF S5 (0)),(SF S5 (0)),(SF SE (0)),(SF SE (0)),(SF SE (0)),(SF SE (0)),(SF SE (0)),(SF SE (0)),(SF SE (0)),(SF SE (0)),(SF SE (0)),(SF SE (0)),(SF SE (0))])))/\pc SC 97=(SN ((Go.Gg.iN.fields [(0,1),(1,1)]),(TC #[(SF SE (0)),(SF SE (0))])))/\Bl SC 3 71=(SN (SN Tx))/\Bl SC 71 3=(SN (SN SE)):=by and_intros<;>kernel_rfl
theorem F.q1:fC SC 112 0=(SN 0)/\fC SC 112 1=(SN 1)/\fC SC 112 2=(SN 2)/\fC SC 26 0=(SN 0)/\fC SC 26 1=(SN 1)/\fC SC 26 2=(SN 2)/\fC SC 26 3=(SN 3)/\fC SC 26 4=(SN 4)/\fC SC 26 5=(SN 5)/\fC SC 46 0=(SN 0)/\fC SC 46 1=(SN 1)/\fC SC 48 0=(SN 0)/\fC SC 48 1=(SN 2)/\fC SC 61 0=(SN 0)/\fC SC 61 1=(SN 1)/\fC SC 73 0=(SN 0):=by and_intros<;>kernel_rfl
theorem F.q2:fC SC 73 1=(SN 1)/\fC SC 73 2=(SN 2)/\fC SC 76 0=(SN 0)/\fC SC 86 0=(SN 0)/\fC SC 86 1=(SN 4)/\fC SC 86 2=(SN 8)/\fC SC 88 0=(SN 0)/\fC SC 88 1=(SN 1)/\fC SC 88 2=(SN 2)/\fC SC 88 3=(SN 6)/\fC SC 88 4=(SN 10)/\fC SC 88 5=(SN 14)/\fC SC 88 6=(SN 17)/\fC SC 97 0=(SN 0)/\fC SC 97 1=(SN 1)/\oy SC 22=(SN (Option.none,1)):=by and_intros<;>kernel_rfl
theorem F.q3:oy SC 23=(SN (Option.none,3))/\oy SC 24=(SN (Option.none,4))/\oy SC 57=(SN (Option.none,1))/\oy SC 80=(SN ((SN 4),1))/\oy SC 81=(SN ((SN 3),1))/\oy SC 82=(SN ((SN 4),1))/\oy SC 83=(SN ((SN 4),1))/\oy SC 84=(SN ((SN 3),1))/\xj SC 82=(SN (4,1))/\xj SC 83=(SN (4,1))/\xj SC 84=(SN (3,1))/\kQ SC 22=(SN (3,1))/\kQ SC 24=(SN (48,4))/\kQ SC 82=Option.none/\kQ SC 83=Option.none/\kQ SC 84=Option.none:=by and_intros<;>kernel_rfl
theorem F.q4:lU SC 22=(SN Go.Gg.zn.slice)/\lU SC 23=(SN Go.Gg.zn.slice)/\lU SC 24=(SN Go.Gg.zn.slice)/\lU SC 57=(SN Go.Gg.zn.slice)/\Bv SC 22=(SN (3,(1,(SF SE (0)))))/\pj SC 77=(SN (83,4))/\rz SC 22=(SN (3,(1,(SF SE (0)))))/\rz SC 23=(SN (61,(3,(TC #[(SF SE (0)),(SF SE (0)),(SF SE (0))]))))/\rz SC 24=(SN (48,(4,(TC #[(SF SE (0)),(SF SE (0)),(SF SE (0)),(SF SE (0))]))))/\rz SC 57=(SN (22,(1,(Us Option.none 0 0))))/\Ty SC 130=(SN (1,Bool.false))/\Ty SC 132=(SN (1,Bool.false))/\Ty SC 136=(SN (0,Bool.true))/\Ty SC 139=(SN (1,Bool.false))/\Ty SC 157=(SN (1,Bool.false))/\Ty SC 22=(SN (1,Bool.false)):=by and_intros<;>kernel_rfl
theorem F.q5:Ty SC 23=(SN (1,Bool.false))/\Ty SC 24=(SN (1,Bool.false))/\Ty SC 26=(SN (6,Bool.true))/\Ty SC 3=(SN (1,Bool.false))/\Ty SC 4=(SN (1,Bool.false))/\Ty SC 46=(SN (2,Bool.true))/\Ty SC 48=(SN (4,Bool.true))/\Ty SC 61=(SN (3,Bool.true))/\Ty SC 68=(SN (1,Bool.false))/\Ty SC 71=(SN (1,Bool.false))/\Ty SC 76=(SN (6,Bool.true))/\Ty SC 77=(SN (1,Bool.false))/\Ty SC 79=(SN (1,Bool.false))/\Ty SC 81=(SN (3,Bool.true))/\Ty SC 83=(SN (4,Bool.true))/\Ty SC 86=(SN (11,Bool.true)):=by and_intros<;>kernel_rfl
theorem F.q6:Ty SC 88=(SN (28,Bool.true))/\Ty SC 97=(SN (2,Bool.true))/\eY SC 112=(SN (TC #[(SF SE (0)),(SF SE (0)),(W8 Bool.false)]))/\eY SC 116=(SN (TC #[(SF SE (0)),(SF SE (0))]))/\eY SC 136=(SN (TC #[]))/\eY SC 139=(SN (XN Option.none))/\eY SC 147=(SN (TC #[(SF Tx (0)),(SF ai_ (0))]))/\eY SC 153=(SN (TC #[(SF SE (0)),(SF SE (0))]))/\eY SC 157=(SN YQ)/\eY SC 26=(SN (TC #[(SF SE (0)),(SF SE (0)),(SF SE (0)),(Us Option.none 0 0),(Us Option.none 0 0),(Us Option.none 0 0)]))/\eY SC 3=(SN (SF SE (0)))/\eY SC 46=(SN (TC #[(SF SE (0)),(SF SE (0))]))/\eY SC 48=(SN (TC #[(SF SE (0)),(SF SE (0)),(SF SE (0)),(SF SE (0))]))/\eY SC 61=(SN (TC #[(SF SE (0)),(SF SE (0)),(SF SE (0))]))/\eY SC 68=(SN YQ)/\eY SC 76=(SN (TC #[(SF SE (0)),(SF SE (0)),(SF SE (0)),(Us Option.none 0 0),(Us Option.none 0 0),(Us Option.none 0 0)])):=by and_intros<;>kernel_rfl
theorem F.q7:eY SC 79=(SN (SF S5 (0)))/\eY SC 80=(SN (TC #[(SF S5 (0)),(SF S5 (0)),(SF S5 (0)),(SF S5 (0))]))/\eY SC 81=(SN (TC #[(SF S5 (0)),(SF S5 (0)),(SF S5 (0))]))/\eY SC 83=(SN (TC #[(SF SE (0)),(SF SE (0)),(SF SE (0)),(SF SE (0))]))/\eY SC 86=(SN (TC #[(SF SE (0)),(SF SE (0)),(SF SE (0)),(SF SE (0)),(SF SE (0)),(SF SE (0)),(SF SE (0)),(SF SE (0)),(SF SE (0)),(SF SE (0)),(SF SE (0))]))/\eY SC 97=(SN (TC #[(SF SE (0)),(SF SE (0))])):=by and_intros<;>kernel_rfl
attribute [seval] F.q0 F.q1 F.q2 F.q3 F.q4 F.q5 F.q6 F.q7 F.Oy F.OH
def isDone (j:Nat)(D:List Nat):Bool:=D.contains j
theorem alP(j:Nat):isDone j []=false:=by simp[isDone]
theorem alO(i j:Nat)(D:List Nat):isDone j (i::D)=((j==i)||isDone j D):=by
 by_cases h:j=i<;>simp[isDone,h]
theorem agq(lv:Bool)(P:SJ)(Hf:List Nat->List aa)(T:List (Nat×AV))(o:Tu)(av:AV):BQ lv P Hf T o av []=True:=by rw[BQ]
theorem agp(lv:Bool)(P:SJ)(Hf:List Nat->List aa)(T:List (Nat×AV))(o:Tu)(av:AV)(D D':List Nat)(l:List (List Nat×List Nat)):BQ lv P Hf T o av ((D,D')::l)=((AQ lv P ⟨T,Hf D⟩ o λa=>a=av)/\BQ lv P Hf T o av l):=by rw[BQ]
theorem afX(lv:Bool)(P:SJ)(Hf:List Nat->List aa)(T:List (Nat×AV))(o:Tu)(av:AV):BE lv P Hf T o av []=True:=by rw[BE]
theorem afW(lv:Bool)(P:SJ)(Hf:List Nat->List aa)(T:List (Nat×AV))(o:Tu)(av:AV)(D D':List Nat)(l:List (List Nat×List Nat)):BE lv P Hf T o av ((D,D')::l)=((kx lv P (Hf D') ⟨T,Hf D⟩ o λa H'=>a=av/\H'=Hf D')/\BE lv P Hf T o av l):=by rw[BE]
theorem afT:type_of% @gG.eq_1:=by intros;rw[gG.eq_1]
theorem afU:type_of% @gG.eq_2:=by intros;rw[gG.eq_2]
theorem afS:type_of% @gG.eq_3:=by intros;rw[gG.eq_3]
theorem aek:type_of% @kx.eq_1:=by intros;rw[kx.eq_1]
theorem ahd(G H:List aa)(k:AV->List aa->Prop)(n m sz:Nat)(elem:TypeId)(l l':List AV):ri G H k n m sz elem l l' .exact=kz G[H.length]? (0<m/\k (.bp H.length 0 (n+m) 0) (H++[.own sz (l++l') elem])) (k (.sl (n+m) (l++l') (.opn H.length)) (H++[.tail (n+m) sz elem])) ⟨0⟩:=by rw[ri]
theorem ajm(X Y:Prop)(t:mu X Y):kz none X Y t=Y:=by rw[kz];simp
theorem ajn(a:Nat)(b:List AV)(c:TypeId)(X Y:Prop)(t:mu X Y):kz (some (.own a b c)) X Y t=X:=by rw[kz]
theorem ajl(b:List AV)(c:TypeId)(X Y:Prop)(t:mu X Y):kz (some (.cells b c)) X Y t=Y:=by rw[kz];simp
theorem ajq(a b:Nat)(c:TypeId)(X Y:Prop)(t:mu X Y):kz (some (.tail a b c)) X Y t=Y:=by rw[kz];simp
theorem ajk(b:Obj)(X Y:Prop)(t:mu X Y):kz (some (.obj b)) X Y t=Y:=by rw[kz];simp
theorem ajp(a:Nat)(b:List AV)(c:TypeId)(X Y:Prop)(t:mu X Y):kz (some (.part a b c)) X Y t=Y:=by rw[kz];simp
@[congr] theorem atk {x x' : Option aa} {X Y : Prop} {t : mu X Y} (h : x = x') : kz x X Y t = kz x' X Y t := by rw [h]
theorem ahe(G H:List aa)(k:AV->List aa->Prop)(n m sz:Nat)(elem:TypeId)(l l':List AV)(i:Nat):ri G H k n m sz elem l l' (.opn i)=((match H[i]?with
   |some (.tail n' eP ij)=>n'=n/\eP=sz/\ij=elem
   |_=>False)/\(∀a∈l',a.leaf=true)/\k (.sl (n+m) (l++l') (.opn i)) (H.set i (.tail (n+m) sz elem))):=by first|(rw[ri];done)|(rw[ri];rfl)
section
variable {lv:Bool}{P:SJ}{s s':AS}
@[congr] theorem asH {G G' : List aa} {o : Tu} {k : AV -> List aa -> Prop} (hG : G = G') (h : s = s') : kx lv P G s o k = kx lv P G' s' o k := by rw [hG, h]
@[congr] theorem as8 {Hf : List Nat -> List aa} {ops : Array Tu} {l l' : List rn} {K : AS -> Prop} {t : Bs K} (hl : l = l') (h : s = s') : gG lv P Hf ops l s K t = gG lv P Hf ops l' s' K t := by rw [hl, h]
@[congr] theorem atb {Hf : List Nat -> List aa} {T T' : List (Nat × AV)} {o : Tu} {av na : AV} {l l' : List (List Nat × List Nat)} (h1 : T = T') (h2 : av = na) (h3 : l = l') : BQ lv P Hf T o av l = BQ lv P Hf T' o na l' := by rw [h1, h2, h3]
@[congr] theorem as9 {Hf : List Nat -> List aa} {T T' : List (Nat × AV)} {o : Tu} {av na : AV} {l l' : List (List Nat × List Nat)} (h1 : T = T') (h2 : av = na) (h3 : l = l') : BE lv P Hf T o av l = BE lv P Hf T' o na l' := by rw [h1, h2, h3]
@[congr] theorem atf {f f' : AV} {H H' : List aa} {aE us : List AV} {k : AV -> List aa -> Prop} {t : Bt k} (h1 : f = f') (h2 : H = H') (h3 : aE = us) : Eo lv P f H aE k t = Eo lv P f' H' us k t := by rw [h1, h2, h3]
@[congr] theorem atg {f f' : AV} {name : String} {H H' : List aa} {aE us : List AV} {k : AV -> List aa -> Prop} {t : Bt k} (h1 : f = f') (h2 : H = H') (h3 : aE = us) : Ic lv P f name H aE k t = Ic lv P f' name H' us k t := by rw [h1, h2, h3]
@[congr] theorem ate {G G' H H' : List aa} {k : AV -> List aa -> Prop} {n n' m m' sz : Nat} {elem : TypeId} {l l' x x' : List AV} {e e' : End} (hG : G = G') (h0 : H = H') (h1 : n = n') (h2 : m = m') (h3 : l = l') (h4 : x = x') (h5 : e = e') : ri G H k n m sz elem l x e = ri G' H' k n' m' sz elem l' x' e' := by rw [hG, h0, h1, h2, h3, h4, h5]
end
attribute [seval] alP alO agq agp afX afW afT afU afS aek ahd ahe ajm ajn ajl ajq ajk ajp Bool.true_or Bool.false_or Bool.or_true Bool.or_false cond_true cond_false
def an.stay (Φ:an->AS->Prop):an->AS->Prop
 |.goto _,_=>False
 |e,s=>Φ e s
theorem aqU(Φ:an->AS->Prop)(s:AS):an.stay Φ .normal s=Φ .normal s:=by rw[an.stay];simp
theorem aqW(Φ:an->AS->Prop)(s:AS):an.stay Φ .ret s=Φ .ret s:=by rw[an.stay];simp
theorem aqT(Φ:an->AS->Prop)(i:Nat)(s:AS):an.stay Φ (.exit i) s=Φ (.exit i) s:=by rw[an.stay];simp
theorem aqV(Φ:an->AS->Prop)(a:AV)(s:AS):an.stay Φ (.panic a) s=Φ (.panic a) s:=by rw[an.stay];simp
theorem O8{lv:Bool}{P:SJ}{r:Option Nat}{s:AS}{nt:Nat}{c:Ua}{Φ:an->AS->Prop}(h:aQ lv P r nt c s (an.stay Φ)):aQ lv P r nt (.scope c) s Φ:=by
 refine afG (λ_ _ _=>False) ⟨0,h.mono λe s hs=> ?_⟩ λ_ _ _ _ _ hf=>hf.elim;cases e<;>first|exact hs|exact hs.elim
@[congr] theorem atQ {s s' : AS} {Φ : an -> AS -> Prop} {e e' : an} (he : e = e') (h : s = s') : an.stay Φ e s = an.stay Φ e' s' := by rw [he, h]
attribute [seval] aqU aqW aqT aqV
theorem alM{α:Type}(n:Nat)(x:α):(if(n:Int)<0 then none else some x)=some x:=by rw[if_neg (by omega)]
theorem agn:(XE==Wu)=false:=by decide
theorem ago:(Wu==Wu)=true:=by decide
theorem ars{α β:Type}(f:α->β)(xs:List α):(xs.map f).take xs.length=xs.map f:=SS (by simp)
theorem anY(o:VZ):(o=o\/o=.neq)=True:=by simp
theorem anZ:(Wu=.eql\/Wu=.neq)=True:=by simp
theorem alT{α:Type}(a b:α):(if false=true then a else b)=b:=by simp
theorem alU{α:Type}(a b:α):(if true=true then a else b)=a:=by simp
theorem agj(s:AS):s.jq none=some none:=by rw[AS.jq]
theorem agk(s:AS)(x:Th):s.jq (some x)=(s.ev x).bind λa=>a.vS.map some:=by
 rw[AS.jq];cases s.ev x<;>rfl
theorem afi(j:TY)(n:Int):AV.vS (.val (.int j n))=some n:=by rw[AV.vS]
theorem aez(P:SJ)(t:TypeId)(id off:Nat)(l h m:Option Int)(k:AV->Prop):sK P t (.op id off) l h m k=ao (xj P t) λp=>sS id off p.1 p.1 p.2 l h m k:=by rw[sK]
theorem aeA(P:SJ)(t:TypeId)(id off n c:Nat)(l h m:Option Int)(k:AV->Prop):sK P t (.bp id off n c) l h m k=ao (kQ P t) λp=>sS id off n c p.2 l h m k:=by rw[sK]
theorem aeB(P:SJ)(t:TypeId)(n:Nat)(li:List AV)(e:End)(l h m:Option Int)(k:AV->Prop):sK P t (.sl n li e) l h m k=ao (kQ P t) λp=>xq n li e p.2 l h m k:=by rw[sK]
theorem an5:type_of% @sS.eq_1:=by intros;rw[sS.eq_1]
theorem aqv:type_of% @xq.eq_1:=by intros;rw[xq.eq_1]
@[congr] theorem atL {id oW off DF n n' cap cap' sz eP : Nat} {lo Dq hi cu mx Dv : Option Int} {k : AV -> Prop} (h1 : id = oW) (h2 : off = DF) (h3 : n = n') (h4 : cap = cap') (h5 : sz = eP) (h6 : lo = Dq) (h7 : hi = cu) (h8 : mx = Dv) : sS id off n cap sz lo hi mx k = sS oW DF n' cap' eP Dq cu Dv k := by rw [h1, h2, h3, h4, h5, h6, h7, h8]
@[congr] theorem atO {n n' sz eP : Nat} {l l' : List AV} {e e' : End} {lo Dq hi cu mx Dv : Option Int} {k : AV -> Prop} (h3 : n = n') (h1 : l = l') (h2 : e = e') (h5 : sz = eP) (h6 : lo = Dq) (h7 : hi = cu) (h8 : mx = Dv) : xq n l e sz lo hi mx k = xq n' l' e' eP Dq cu Dv k := by rw [h1, h2, h3, h5, h6, h7, h8]
theorem anu:((1:Nat):Int)=1:=rfl
theorem anv:((2:Nat):Int)=2:=rfl
theorem anw:((3:Nat):Int)=3:=rfl
theorem anx:((4:Nat):Int)=4:=rfl
theorem anz:((5:Nat):Int)=5:=rfl
theorem anA:((6:Nat):Int)=6:=rfl
theorem arQ(p:Prop):(True\/p)=True:=by simp
theorem an3(p:Prop):(p\/True)=True:=by simp
attribute [seval] anu anv anw anx anz anA arQ an3 Int.le_refl List.length_map
theorem ae9(H L:List aa):(H++L)[H.length+1+1]?=L[2]?:=vQ H L 2
theorem afa(H L:List aa):(H++L)[H.length+1+1+1]?=L[3]?:=vQ H L 3
theorem afd(H L:List aa)(x:aa):(H++L).set (H.length+1+1) x=H++L.set 2 x:=vR H L 2 x
theorem afe(H L:List aa)(x:aa):(H++L).set (H.length+1+1+1) x=H++L.set 3 x:=vR H L 3 x
attribute [seval] ae9 afa afd afe
attribute [seval] agj agk afi aez aeA aeB an5 aqv Option.getD_none Option.getD_some Int.toNat_zero Nat.sub_zero Option.bind_some Option.map_some Nat.zero_le Option.isSome_none Option.isSome_some Bool.false_eq_true false_implies
attribute [seval] alM agn ago ars anY anZ alT alU
section
variable {P:SJ}{α β:Type}
theorem iV(a:α):cR P (pure a) a:=λw es=>by simp only[pure,VI]
theorem lR{x:Sem α}{f:α->Sem β}{a:α}{b:β}(h:cR P x a)(k:cR P (f a) b):cR P (x>>=f) b:=λw es=>by
 show (x.bind f).runT P w es=_;rw[Sem.runT_bind',h w es];exact k w es
theorem arf{k:SJ->Sem α}{a:α}(h:cR P (k P) a):cR P (.program k) a:=λw es=>by simp only[VI];exact h w es
theorem NU{k:SJ->Sem α}{a:α}(h:cR P (k P) a):cR P (program>>=k) a:=lR (a:=P) (arf (iV P)) h
theorem yZ{t:TypeId}{d:TypeDesc}{k:TypeDesc->Sem α}{a:α}(h:P.underlying t=some d)(hk:cR P (k d) a):cR P (underlying t>>=k) a:=by
 unfold underlying;refine lR (a:=d) (NU ?_) hk;rw[h];exact iV d
def zu:TypeDesc->Bool
 |.struct _|.array _ _=>true
 |_=>false
theorem adh{t:TypeId}{d:TypeDesc}{k:Bool->Sem α}{a:α}(h:P.underlying t=some d)(hk:cR P (k (zu d)) a):cR P (isAgg t>>=k) a:=by
 unfold isAgg;refine lR (yZ (a:=zu d) h ?_) hk;cases d<;>exact iV _
theorem NV{t:TypeId}{i:Wj}{k:Nat->Sem α}{a:α}(h:P.info? t=some i)(hk:cR P (k i.size) a):cR P (sizeOf t>>=k) a:=by
 unfold sizeOf typeInfo;refine lR (lR (a:=i) (NU ?_) (iV _)) hk;rw[h];exact iV i
theorem D4{t:TypeId}{d:TypeDesc}{xs:Array SQ}{off:Nat}{v:SQ}{k:SQ->Sem α}{a:α}(h:P.underlying t=some d)(hd:zu d=false)(hv:xs[off]?=some v)(hk:cR P (k v) a):cR P (part t xs off>>=k) a:=by
 unfold part;refine lR (a:=v) (adh h ?_) hk;rw[hd,hv];exact iV v
theorem adi{t:TypeId}{d:TypeDesc}{i:Wj}{xs:Array SQ}{off:Nat}{k:SQ->Sem α}{a:α}(h:P.underlying t=some d)(hd:zu d=true)(hi:P.info? t=some i)(hk:cR P (k (.agg (xs.extract off (off+i.size)))) a):cR P (part t xs off>>=k) a:=by
 unfold part;refine lR (adh h ?_) hk;rw[hd];exact NV hi (iV _)
theorem adg{t:TypeId}{k0 k:TY}{d:Nat}{x y:Int}(h:P.underlying t=some (.int k0)):cR P (Vy (d+1) t (.int k x) (.int k y)) (x==y):=by
 rw[Vy];refine yZ h ?_;dsimp only;rw[if_pos rfl];exact iV _
theorem ac9{ι:Type}{body:ι->Option Bool×Unit->Sem (ForInStep (Option Bool×Unit))}{p:ι->Bool}:∀(l:List ι),(∀i∈l,cR P (body i (none,())) (if p i then .yield (none,())else .done (some false,())))->cR P (forIn l (none,()) body) (if l.all p then(none,())else(some false,()))
 |[],_=>by simpa using iV (none,())
 |i::l,h=>by
  rw[WX];refine lR (h i (TB ..)) ?_;by_cases hp:p i=true
  ·simp only[hp,if_true,ZO,Vs];exact ac9 l λj hj=>h j (Tb _ hj)
  ·have Ap:p i=false:=(by simpa using hp);simp only[Ap,TM,if_false,ZO,YB];exact iV _
theorem ae1{α:Type}[BEq α][LawfulBEq α]{xs ys:List α}{n:Nat}(hx:xs.length=n)(hy:ys.length=n):((Ud 0 n).all λi=>xs[i]?==ys[i]?)=(xs==ys):=by
 rw[Vo,Tv,beq_iff_eq];constructor
 ·intro h;apply Yj;intro i;by_cases hi:i<n
  ·have:=h i (by simp[XV];omega);simpa using this
  ·rw[Uu (by omega),Uu (by omega)]
 ·rintro rfl i _;simp
theorem arc{t e:TypeId}{k0 k:TY}{n d:Nat}{i:Wj}{xs ys:List Int}(ht:P.underlying t=some (.array n e))(he:P.underlying e=some (.int k0))(hi:P.info? e=some i)(hs:i.size=1)(hx:xs.length=n)(hy:ys.length=n):
  cR P (Vy (d+2) t (.agg (xs.map (SF k)).toArray) (.agg (ys.map (SF k)).toArray)) (xs==ys):=by
 rw[Vy];refine yZ ht ?_;dsimp only;refine NV hi ?_;rw[hs];simp only[Wv,Xq];refine lR (a:=if(xs==ys)then(none,())else(some false,())) ?_ (by cases xs==ys<;>exact iV _);have hn:(n-0+1-1)/1=n:=by simp
 rw[hn,<- ae1 hx hy];refine ac9 _ λj hj=> ?_;have pJ:j<n:=by simp[XV]at hj;omega
 have gx:xs[j]?=some (xs[j]'(by omega)):=SO _;have gy:ys[j]?=some (ys[j]'(by omega)):=SO _;rw[X9];refine D4 he rfl (v:=.int k (xs[j]'(by omega))) (by simp[gx]) ?_;refine D4 he rfl (v:=.int k (ys[j]'(by omega))) (by simp[gy]) ?_;refine lR (adg he) ?_;rw[gx,gy];by_cases h:xs[j]'(by omega)=ys[j]'(by omega)
 ·rw[h];simp;exact iV _
 ·have h1:(xs[j]'(by omega)==ys[j]'(by omega))=false:=by simpa using h
  have h2:(some (xs[j]'(by omega))==some (ys[j]'(by omega)))=false:=by simpa using h
  rw[h1,h2];exact iV _
theorem cR.uniq{x:Sem α}{a b:α}(h:cR P x a)(k:cR P x b):a=b:=by
 have e:=(h default #[]).symm.trans (k default #[]);have e1:=congrArg Prod.fst e;exact(ao_ e1).1
theorem adc{t e:TypeId}{k0:TY}{n:Nat}{i:Wj}{xs ys:List Int}(ht:P.underlying t=some (.array n e))(he:P.underlying e=some (.int k0))(hi:P.info? e=some i)(hs:i.size=1)(hx:xs.length=n)(hy:ys.length=n):
  cR P (Xm t (.agg (xs.map (SF .i64)).toArray) (.agg (ys.map (SF .i64)).toArray)) (xs==ys):=arc (d:=9998) ht he hi hs hx hy
theorem yQ(xs:List Int):AV.raw (.agg (xs.map iv))=some (.agg (xs.map (SF .i64)).toArray):=by
 have:∀l:List Int,(l.map iv).mapM AV.AY=some (l.map (SF .i64)):=by
  intro l;induction l with
  |nil=>rfl
  |cons x l ih=>simp only[UV,T_,ih];rfl
 simp only[AV.raw,this];rfl
theorem aoE{xs:List Int}{i:Nat}{y:Int}(h:i<xs.length):iT (xs.map iv) i [iv y]=(xs.set i y).map iv:=by
 unfold iT;rw[List.map_set,XL,if_pos (by simpa using h)];simp
theorem w6{xs:List Int}{i:Nat}{y:Int}(h:i<xs.length):(xs.map iv).take i++[iv y]++(xs.map iv).drop (i+1)=(xs.set i y).map iv:=aoE h
theorem ly{xs:List Int}{i:Nat}{x:Int}(h:xs[i]?=some x):(xs.map iv).drop i=iv x::(xs.drop (i+1)).map iv:=by
 have h1:=e_ h;rw[<- ag2,TR h1,UV];rw[SO h1]at h;cases h;rfl
end
theorem aaR(xs:List Int):(∀a∈xs.map iv,a.leaf=true)=True:=by
 simp only[Tl,eq_iff_iff,iff_true]
 rintro a ⟨x,_,rfl⟩;rfl
attribute [seval] List.append_nil aaR
def zf (lv:Bool)(P:SJ)(g:TO)(args:Array SQ)(md:U6)(V:View)(R:U6->View->Prop):Prop:=
 ∀(main:Bool)(J:View->SG->Prop),Closed lv P main J->∀(fr:Uc)(cs:List Uc),fr.mode=md->(∀oi V',R oi V'->J V' (G {fr with mode:=oi} cs))->J V (G (Frame.enter P g args .deferred) (fr::cs))
def rC:U6->U6
 |.panicking ({recovered:=true, .. }::M0)=>match M0.dropWhile (!·.goexit)with
  |[]=> .returning
  |rest=> .panicking rest
 |m=>m
theorem aaS{lv:Bool}{P:SJ}{main:Bool}{J:View->SG->Prop}(C:Closed lv P main J){fr c:Uc}{cs:List Uc}{f:TO}{v:SQ}{V:View}(h:Leaves P fr f .deferred (.ret v) V)(hJ:J V (G {c with mode:=rC c.mode} cs)):J V (G fr (c::cs)):=by
 obtain⟨rfl,hd,hk,fn,hf,hm,hr⟩:=h;refine C.step _ _ rfl λw hw=> ?_;obtain⟨es,w',V',h1,h2,h3⟩:=hr.runs hw;rcases h3 with⟨x,h3,rfl,rfl⟩|⟨_,_,h⟩
 ·refine⟨G {c with mode:=rC c.mode} cs,w',seen P fr.fn es,V',?_,h1.seen P fr.fn,hJ⟩;simp only[G,stepG,unwind,doReturn,hm,hd,hk,hf,TA,h3,h2,T5];cases F0:c.mode with
  |run=>simp[rC,<- F0]
  |returning=>simp[rC,<- F0]
  |panicking ch=>
   cases ch with
   |nil=>simp[rC,<- F0]
   |cons p M0=>
    obtain⟨v,rec,ge⟩:=p;cases rec with
    |false=>simp[rC,<- F0]
    |true=>
     simp only[rC];cases hdw:M0.dropWhile (!·.goexit)with
     |nil=>simp
     |cons x y=>simp
 ·exact h.elim
theorem Qe{ρ:Th->SQ}{o:Tu}{cl:Xn}(ay:o.op=.call cl)(aZ:cl.callee=.builtin .recover)(P:SJ)(w:To)(es:Array Ur):(execOp ρ o).runT P w es=(.ok .recover w,es):=by
 unfold execOp;rw[ay];dsimp only;unfold resolve;rw[aZ];rfl
theorem apX{P:SJ}{main:Bool}{b c:Uc}{a:Act}{k:List WR}{cs:List Uc}{w:To}{ops:Array Tu}{i:Nat}{rest:List Nat}{o:Tu}{cl:Xn}{v:SQ}(ho:ops[i]?=some o)(hg:o.guard=none)(ay:o.op=.call cl)(aZ:cl.callee=.builtin .recover)(hb:b.kind=.deferred)(hr:b.roundOf=none)
  (hm:c.mode=.panicking [{v,recovered:=false}]):stepG P main (G (on b a (.inRegion ops (i::rest)::k)) (c::cs)) w=.go (G (on b (a.put o.dst v) (.inRegion ops rest::k)) ({c with mode:=.panicking [{v,recovered:=true}]}::cs)) w #[]:=by
 have eB:(on b a (.inRegion ops (i::rest)::k)).finish v=on b (a.put o.dst v) (.inRegion ops rest::k):=by
  rw[AM,ho];rfl
 rw[s_op ho (by unfold Tg;rw[hg]) (.inl hr),<- eB];have ki:((on b a (.inRegion ops (i::rest)::k)).kind==U3)=false:=by simp[on,hb]
 simp only[stepG.apply,if_true,Qe ay aZ,ki,T5,TM,if_false];have h1:(on b a (.inRegion ops (i::rest)::k)).roundOf=none:=hr;have h2:(on b a (.inRegion ops (i::rest)::k)).kind=.deferred:=hb;rw[h1];simp only[tryRecover,h2,hm];simp[seen,G]
theorem apY{P:SJ}{main:Bool}{b c:Uc}{a:Act}{k:List WR}{cs:List Uc}{w:To}{ops:Array Tu}{i:Nat}{rest:List Nat}{o:Tu}{cl:Xn}(ho:ops[i]?=some o)(hg:o.guard=none)(ay:o.op=.call cl)(aZ:cl.callee=.builtin .recover)(hb:b.kind=.deferred)(hr:b.roundOf=none)
  (hm:c.mode=.returning):stepG P main (G (on b a (.inRegion ops (i::rest)::k)) (c::cs)) w=.go (G (on b (a.put o.dst .nilIface) (.inRegion ops rest::k)) (c::cs)) w #[]:=by
 have eB:(on b a (.inRegion ops (i::rest)::k)).finish .nilIface=on b (a.put o.dst .nilIface) (.inRegion ops rest::k):=by
  rw[AM,ho];rfl
 rw[s_op ho (by unfold Tg;rw[hg]) (.inl hr),<- eB];have ki:((on b a (.inRegion ops (i::rest)::k)).kind==U3)=false:=by simp[on,hb]
 simp only[stepG.apply,if_true,Qe ay aZ,ki,T5,TM,if_false];have h1:(on b a (.inRegion ops (i::rest)::k)).roundOf=none:=hr;have h2:(on b a (.inRegion ops (i::rest)::k)).kind=.deferred:=hb;rw[h1];simp only[tryRecover,h2,hm];simp[seen,G]
def Ep (P:SJ)(fn:Yz)(K:View->Prop):Ex->Act->View->Prop
 |.normal,a,V|.ret,a,V=>a.defers=[]/\∃v,aO P V (results fn a.tmps) (λx V'=>x=v/\V'=V) (λ_ _=>False)/\K V
 |_,_,_=>False
theorem agM{lv:Bool}{P:SJ}{g:TO}{fn:Yz}{id:Nat}{ops:Array Tu}{c2:Ua}{o:Tu}{cl:Xn}{args:Array SQ}{md:U6}{v0:SQ}{V:View}{R:U6->View->Prop}
  (hf:P.funcs[g]?=some fn) (hb:fn.body=some (.seq (.region id ops false) c2)) (ho:ops[0]?=some o) (hg:o.guard=none) (ay:o.op=.call cl) (aZ:cl.callee=.builtin .recover)
  (qI:md=.panicking [{v:=v0,recovered:=false}]\/(md=.returning/\v0=.nilIface))
  (h:dz lv P none ops (Ex.then (WP lv P none c2 (Ep P fn (R .returning))) (Ep P fn (R .returning))) (Ud 1 (ops.size-1)) (({tmps:=args++TK (fn.ntmps-args.size) undef,defers:=[]}:Act).put o.dst v0) V):zf lv P g args md V R:=by
 intro main J C fr cs mF hR;let b:Uc:={(default:Uc)with fn:=g,kind:=.deferred,roundOf:=none};have uO:Frame.enter P g args .deferred=on b {tmps:=args++TK (fn.ntmps-args.size) undef,defers:=[]} [.code (.seq (.region id ops false) c2)]:=by
  simp[Frame.enter,on,hf,hb,b]
 rw[uO];have aY:0<ops.size:=(SU.1 ho).1;have Lu:SZ ops.size=0::Ud 1 (ops.size-1):=by
  rw[Vp];obtain⟨n,hn⟩:∃n,ops.size=n+1:=⟨ops.size-1,by omega⟩;rw[hn,VT];rfl
 refine C.idle rfl (λ_=>acm) (C.idle rfl (λ_=>acl) ?_);rw[Lu];have fin:∀(c:Uc),rC c.mode=.returning->{c with mode:=rC c.mode}={fr with mode:=.returning}->∀e a' V',Ep P fn (R .returning) e a' V'->vL J b [] (c::cs) e a' V':=by
  intro c hc wm e a' V' q;cases e with
  |normal=>
   obtain⟨hd,v,hs,hr⟩:=q;refine C.idle rfl (λw=>DR rfl) (aaS (f:=g) (v:=v) C ⟨rfl,hd,rfl,fn,hf,rfl,hs⟩ ?_);rw[wm];exact hR _ _ hr
  |ret=>
   obtain⟨hd,v,hs,hr⟩:=q;intro k;refine C.idle rfl (λw=>DT rfl) (aaS (f:=g) (v:=v) C ⟨rfl,hd,rfl,fn,hf,rfl,hs⟩ ?_);rw[wm];exact hR _ _ hr
  |_=>exact q.elim
 have run:∀(c:Uc),rC c.mode=.returning->{c with mode:=rC c.mode}={fr with mode:=.returning}->J V (G (on b (({tmps:=args++TK (fn.ntmps-args.size) undef,defers:=[]}:Act).put o.dst v0) (.inRegion ops (Ud 1 (ops.size-1))::[.code c2])) (c::cs)):=by
  intro c hc wm;refine wp_ops _ _ V h main J C b [.code c2] (c::cs) (by show YK≠U3;decide) rfl λe a' V' q=> ?_;cases e with
  |normal=>exact q main J C b [] (c::cs) (by show YK≠U3;decide) rfl λe cx aT q'=>fin c hc wm e cx aT q'
  |ret=>exact fin c hc wm .ret a' V' q
  |panic ch=>exact q.elim
  |exit i=>exact q.elim
  |goto i=>exact q.elim
 rcases qI with qI|⟨qI,hv⟩
 ·refine C.idle rfl (λw=>apX ho hg ay aZ rfl rfl (by rw[mF,qI])) ?_;exact run {fr with mode:=.panicking [{v:=v0,recovered:=true}]} rfl rfl
 ·refine C.idle rfl (λw=>apY ho hg ay aZ rfl rfl (by rw[mF,qI])) ?_;subst hv;have jR:fr.mode=.returning:=by rw[mF,qI]
  exact run fr (by rw[jR];rfl) (by rw[jR];rfl)
section
variable {lv:Bool}{P:SJ}
theorem NE{g:TO}{args:Array SQ}{V:View}{K:Next->View->Prop}{Kp:SQ->View->Prop}(hg:rf P g=true)(h:K (.enter g args) V):aO P V (callFunc g args) K Kp:=by
 unfold callFunc;refine az (qX (cO ?_));unfold rf at hg;split at hg
 ·rename_i fn yb;simp only[Ti,TZ]at hg;rw[yb];dsimp only;have Cx:fn.body.isNone=false:=by
   have h1:=hg.1;cases hb:fn.body with
   |none=>rw[hb]at h1;cases h1
   |some _=>rfl
  rw[if_neg (by rw[hg.2];simp),if_neg (by rw[Cx];simp)];exact aq h
 ·cases hg
theorem BU{E:Env}{V:View}{H:List aa}{args:List AV}{vs:Array SQ}{nt:Nat}(hc:Conc E V H)(hd:cP E args vs)(cS:args.length<=nt):At E V ⟨bt 0 args,H⟩ {tmps:=vs++TK (nt-vs.size) undef,defers:=[]} nt:=by
 have aY:(vs++TK (nt-vs.size) undef).size=nt:=by simp[hd.1];omega
 refine⟨hc,λq a e=> ?_,aY⟩;obtain⟨_,e⟩:=MD args 0 q a e;simp only[ZW]at e;have hq:q<args.length:=(SM.1 e).1;have tO:q<vs.size:=by rw[hd.1];exact hq
 refine⟨by rw[aY];omega,?_⟩;have:=hd.2 q a e;rw[SH,X8 tO];rwa [SH]at this
def ze (E:Env)(c:AV×List AV)(d:UW):Prop:=∃f first c9 fa ca vs,c.1=.fn (.func f) first c9/\d=⟨.fn (.func f) ca,fa++vs⟩/\cP E first fa/\cP E c9 ca/\cP E c.2 vs
theorem ze.mono{E E':Env}(h:E.Le E'){c:AV×List AV}{d:UW}(k:ze E c d):ze E' c d:=by
 obtain⟨f,first,c9,fa,ca,vs,h1,h2,h3,h4,h5⟩:=k;exact⟨f,first,c9,fa,ca,vs,h1,h2,h3.mono h,h4.mono h,h5.mono h⟩
def Oz (E:Env):Option AV->U6->Prop
 |none,md=>md=.returning
 |some pv,md=>∃v,md=.panicking [{v,recovered:=false}]/\ap E pv v
def rh (lv:Bool)(P:SJ)(c:AV×List AV)(H:List aa)(m:Option AV)(kr kp:List aa->Prop):Prop:=
 ∀(E:Env)(V:View)(d:UW)(md:U6),Conc E V H->ze E c d->Oz E m md->aO P V (invoke d.target d.args) (λnx V'=>∃g args,nx=.enter g args/\zf lv P g args md V' λoi aT=>∃E' H',E.Le E'/\aT.role=V.role/\aT.deaf=V.deaf/\Conc E' aT H'/\((oi=.returning/\kr H')\/(oi=md/\m.isSome=true/\kp H'))) (λ_ _=>False)
def Bn (n0:Nat)(kr:List aa->Prop):an->AS->Prop
 |.normal,s|.ret,s=>kr s.H\/∃H' G,s.H=H'++G/\n0<=H'.length/\bM H'/\kr H'
 |_,_=>False
theorem Bn.out{n0:Nat}{E0 E:Env}{V':View}{H:List aa}{kr:List aa->Prop}(h:kr H\/∃H' G,H=H'++G/\n0<=H'.length/\bM H'/\kr H')(hc:Conc E V' H)(hle:E0.Le E)(hn:E0.n=n0):∃E' H',E0.Le E'/\Conc E' V' H'/\kr H':=by
 rcases h with h|⟨H',G,rfl,h1,h2,h3⟩
 ·exact⟨E,H,hle,hc,h⟩
 ·exact⟨{E with n:=H'.length},H',D8 h1 (by rw[hc.n];simp) hle hn,hc.trim h2,h3⟩
theorem results_none{fn:Yz}{tmps:Array SQ}{V:View}(hr:fn.results=#[]):aO P V (results fn tmps) (λx V'=>x=.tuple #[]/\V'=V) (λ_ _=>False):=by
 unfold results;rw[show fn.results=([]:List UN).toArray from hr,XX];refine az ?_;refine az ?_;rw[UC];refine aq (aq (aq ⟨?_,rfl⟩));simp
theorem agL{g:TO}{fn:Yz}{id nt:Nat}{ops:Array Tu}{c2:Ua}{o:Tu}{cl:Xn}{first c9 aE:List AV}{H:List aa}{m:Option AV}{kr kp:List aa->Prop}
  (hg:rf P g=true) (hf:P.funcs[g]?=some fn) (hb:fn.body=some (.seq (.region id ops false) c2)) (hr:fn.results=#[]) (hn:fn.ntmps=nt) (ho:ops[0]?=some o) (tF:o.guard=none) (ay:o.op=.call cl) (aZ:cl.callee=.builtin .recover) (dB:j_ nt ops=true) (cS:(first++aE++c9).length<=nt)
  (h:iL lv P ops (ops.toList.drop 1) ((⟨bt 0 (first++aE++c9),H⟩:AS).put o.dst (m.getD (.val .nilIface))) (λs'=>aQ lv P none nt c2 s' (Bn H.length kr)) (λ_ _=>False)):rh lv P (.fn (.func g) first c9,aE) H m kr kp:=by
 intro E V d md hc hd qI;obtain⟨f,ath,atd,fa,ca,vs,h1,rfl,h3,h4,h5⟩:=hd;cases h1;unfold invoke;dsimp only;refine NE hg ⟨g,_,rfl,?_⟩;obtain⟨v0,hv,akG⟩:∃v0,ap E (m.getD (.val .nilIface)) v0/\(md=.panicking [{v:=v0,recovered:=false}]\/(md=.returning/\v0=.nilIface)):=by
  cases m with
  |none=>exact⟨.nilIface,.val _,.inr ⟨qI,rfl⟩⟩
  |some pv=>obtain⟨v,e,hv⟩:=qI;exact⟨v,hv,.inl e⟩
 refine agM hf hb ho tF ay aZ akG ?_;have ah:=BU (nt:=nt) hc (B4 (B4 h3 h5) h4) cS;rw[hn];have aY:0<ops.size:=(SU.1 ho).1;have fZ:o∈ops:=WZ ho;have aV:At E V ((⟨bt 0 (first++aE++c9),H⟩:AS).put o.dst (m.getD (.val .nilIface))) (({tmps:=fa++vs++ca++TK (nt-(fa++vs++ca).size) undef,defers:=[]}:Act).put o.dst v0) nt:=
  ⟨by rw[fG];exact ah.bu,ah.tok.iu (λd e=>by rw[ah.size];exact(j_.out dB fZ).1 d e) hv,(ey _ _ _).trans ah.size⟩
 refine AP (r:=none) (Φ:=λe s'=>match e with
  |.normal=>aQ lv P none nt c2 s' (Bn H.length kr)
  |_=>False) (λo ho d e=>(j_.out dB ho).1 d e) (λ_ _=> .inl rfl) (ops.size-1) 1 _ (by omega) h E V _ _ aV λae e E' V' a' s' hk ajO he hΦ=> ?_
 cases ae<;>cases e<;>first
  |exact he.elim
  |exact hΦ.elim
  |skip
 refine hΦ E' V' a' _ ajO λae e bW aT cx dw aJ dt kG tU=> ?_;have fin:(kr dw.H\/∃H' G,dw.H=H'++G/\H.length<=H'.length/\bM H'/\kr H')->Ep P fn (λaT=>∃E' H',E.Le E'/\aT.role=V.role/\aT.deaf=V.deaf/\Conc E' aT H'/\((Ym=.returning/\kr H')\/(Ym=md/\m.isSome=true/\kp H'))) .ret cx aT:=λtU=>by
  obtain⟨E3,H',q1,q2,q3⟩:=Bn.out (E0:=E) tU dt.bu (hk.le.trans aJ.le) hc.n;have bC:cx.defers=[]:=by rw[aJ.defers,hk.defers];exact put_defers _ _ _
  exact⟨bC,_,results_none hr,E3,H',q1,aJ.role.trans hk.role,aJ.deaf.trans hk.deaf,q2,.inl ⟨rfl,q3⟩⟩
 cases ae<;>cases e<;>first
  |exact kG.elim
  |exact tU.elim
  |exact fin tU
theorem PG{g:TO}{fn:Yz}{id nt:Nat}{ops:Array Tu}{c2:Ua}{o:Tu}{l:List Tu}{d0:Option Nat}{cl:Xn}{first c9 aE:List AV}{H:List aa}{m:Option AV}{kr kp:List aa->Prop}
  (hg:rf P g=true) (hf:P.funcs[g]?=some fn) (hb:fn.body=some (.seq (.region id ops false) c2)) (hr:fn.results=#[]) (hn:fn.ntmps=nt) (hl:ops.toList=o::l) (tF:o.guard=none) (aP:o.dst=d0) (ay:o.op=.call cl) (aZ:cl.callee=.builtin .recover) (dB:j_ nt ops=true) (cS:(first++aE++c9).length<=nt)
  (h:iL lv P ops l ((⟨bt 0 (first++aE++c9),H⟩:AS).put d0 (m.getD (.val .nilIface))) (λs'=>aQ lv P none nt c2 s' (Bn H.length kr)) (λ_ _=>False)):rh lv P (.fn (.func g) first c9,aE) H m kr kp:=by
 subst aP;refine agL hg hf hb hr hn (o:=o) (cl:=cl) ?_ tF ay aZ dB cS (by rw[hl];simpa using h);have:ops.toList[0]?=some o:=by rw[hl];rfl
 simpa using this
end
section
variable {lv:Bool}{P:SJ}{r:Option Nat}{s:AS}
theorem G5{nt:Nat}{all:Array Tu}{Φ:an->AS->Prop}(dB:∀o∈all,∀d,o.dst=some d->d<nt)(nV:r=none):∀(n k:Nat)(s:AS),k+n<=all.size->iL lv P all ((all.toList.drop k).take n) s (Φ .normal) (λpv s=>Φ (.panic pv) s)->
  ∀(E:Env)(V:View)(a:Act)(Q:Ex->Act->View->Prop),At E V s a nt->(∀ae e E' V' a' s',Kept E E' V V' a a'->At E' V' s' a' nt->qh E' ae e->Φ ae s'->Q e a' V')->dz lv P r all Q (Ud k n) a V
 |0,k,s,hk,h,E,V,a,Q,ah,hQ=>by
  rw[ak_]at h;exact hQ .normal .normal E V a s (Kept.refl E V a) ah trivial h
 |n+1,k,s,hk,h,E,V,a,Q,ah,hQ=>by
  have hlt:k<all.size:=by omega
  have hd:all.toList.drop k=all[k]::all.toList.drop (k+1):=by
   rw[TR (by simpa using hlt)];simp
  rw[hd,VS]at h;have fZ:all[k]∈all:=XS hlt;have ho:all[k]?=some all[k]:=SK hlt;simp only[VT,dz,ho];have go:∀s:AS,At E V s a nt->mW lv P s all[k] (λs'=>iL lv P all ((all.toList.drop (k+1)).take n) s' (Φ .normal) (λpv s=>Φ (.panic pv) s)) (λpv s=>Φ (.panic pv) s)->xo lv P r all[k] a V (dz lv P r all Q (Ud (k+1) n)) Q:=λs ah h=>by
   refine h.sound (lv:=lv) (r:=r) E V a _ Q ah.bu ah.tok (λd e=>by rw[ah.size];exact dB _ fZ d e) (.inl nV) (λE' V' a' s' aJ bi mJ hn=> ?_) (λE' V' s' pv v aJ bi mJ bm hb=> ?_)
   ·exact G5 dB nV n (k+1) s' (by omega) hn E' V' a' Q ⟨bi,mJ,aJ.size.trans ah.size⟩ (λae e bW aT cx dw gz dt he hΦ=>hQ ae e bW aT cx dw (aJ.trans gz) dt he hΦ)
   ·exact hQ (.panic pv) (.panic _) E' V' a s' aJ ⟨bi,mJ,ah.size⟩ ⟨v,rfl,bm⟩ hb
  simp only[iL]at h;split at h
  ·rename_i hg;have hw:Tg all[k] (yielded all a.tmps)=true:=(by unfold Tg;rw[hg]);rw[if_pos hw];exact .inl (go s ah h)
  ·rename_i j cj hg;obtain⟨d,bY,h⟩:=h.out;obtain⟨av,h1,h⟩:=h.out;obtain⟨b,rfl,h2,h3⟩:=BS h;have hv:=(ah.tok d _ h1).2;have hy:yielded all a.tmps j=some b:=by
    obtain⟨oj,k_,jw⟩:=Te.1 bY;generalize hx:a.tmps.getD d undef=x at hv;cases hv;have mG:d<a.tmps.size:=(ah.tok d _ h1).1;rw[SH,SK mG]at hx;simp only[S7]at hx;simp[yielded,k_,jw,SK mG,hx]
   have sk:∀b',b=b'->At E V ⟨(d,.val (.bool b'))::s.T,s.H⟩ a nt:=λb' dL=>by
    subst dL;refine⟨ah.bu,λt x e=> ?_,ah.size⟩;simp only[look]at e;split at e
    ·rename_i e';subst e';cases e;exact ah.tok d _ h1
    ·exact ah.tok t x e
   by_cases hb:b=cj
   ·have hw:Tg all[k] (yielded all a.tmps)=true:=(by unfold Tg;rw[hg];simp[hy,hb]);rw[if_pos hw];exact .inl (go _ (sk cj hb) (h2 hb))
   ·have hw:¬Tg all[k] (yielded all a.tmps)=true:=(by unfold Tg;rw[hg];simp[hy,hb]);rw[if_neg hw];have dL:b= !cj:=(by cases b<;>cases cj<;>simp_all);have v9:=h3 dL;have ah:=sk _ dL;exact G5 dB nV n (k+1) ((⟨(d,.val (.bool !cj))::s.T,s.H⟩:AS).put all[k].dst (.val undef)) (by omega) v9 E V (a.put all[k].dst undef) Q
     ⟨by rw[fG];exact ah.bu,ah.tok.iu (λd e=>by rw[ah.size];exact dB _ fZ d e) (.val undef),by rw[ey];exact ah.size⟩
     (λae e bW aT cx dw gz dt he hΦ=>hQ ae e bW aT cx dw ⟨gz.le,gz.size.trans (ey _ _ _),gz.defers.trans (put_defers _ _ _),gz.role,gz.deaf⟩ dt he hΦ)
theorem m9.mono{o:Tu}{a:Act}{N N':Act->View->Prop}{Q Q':Ex->Act->View->Prop}(hN:∀a V,N a V->N' a V)(hQ:∀ch a V,Q (.panic ch) a V->Q' (.panic ch) a V){nx:Next}{V:View}(h:m9 lv P r o a N Q nx V):m9 lv P r o a N' Q' nx V:=by
 cases nx with
 |value v=>exact hN _ _ h
 |skip=>exact hN _ _ h
 | «defer» d => exact ⟨h.1, hN _ _ h.2⟩
 |enter f args=>
  refine Body.mono (R:=fun
   |.ret v,V'=>N (a.put o.dst v) V'
   |.panic ch,V'=>Q (.panic ch) a V') (R':=fun
   |.ret v,V'=>N' (a.put o.dst v) V'
   |.panic ch,V'=>Q' (.panic ch) a V') h λot V' h=> ?_
  cases ot
  ·exact hN _ _ h
  ·exact hQ _ _ _ h
 |round l f tmps aE b=>
  refine nB.mono (R:=fun
   |.ret v,V'=>N (a.put o.dst v) V'
   |.panic ch,V'=>Q (.panic ch) a V') (R':=fun
   |.ret v,V'=>N' (a.put o.dst v) V'
   |.panic ch,V'=>Q' (.panic ch) a V') h λot V' h=> ?_
  cases ot
  ·exact hN _ _ h
  ·exact hQ _ _ _ h
 |_=>exact h.elim
theorem Bc{ops:Array Tu}{Q:Ex->Act->View->Prop}{l2:List Nat}:∀(l1:List Nat)(a:Act)(V:View),dz lv P r ops (Ex.then (dz lv P r ops Q l2) Q) l1 a V->dz lv P r ops Q (l1++l2) a V
 |[],a,V,h=>h
 |i::l1,a,V,h=>by
  simp only[Ve,dz]at h⊢;cases ho:ops[i]?with
  |none=>rw[ho]at h;exact Bc l1 a V h
  |some o=>
   rw[ho]at h;dsimp only at h⊢;split at h
   ·rename_i hw;rw[if_pos hw];rcases h with h|h
    rotate_left
    ·exact .inr (h.mono λa V h=>Bc l1 a V h)
    obtain⟨h1,h2⟩:=h;exact .inl ⟨h1,h2.mono (λnx V' h=>m9.mono (λa V h=>Bc l1 a V h) (λ_ _ _ h=>h) h) λ_ _ h=>h⟩
   ·rename_i hw;rw[if_neg hw];exact Bc l1 _ V h
def xg (E:Env):List (AV×List AV)->List UW->Prop
 |[],[]=>True
 |c::ds,d::l=>ze E c d/\xg E ds l
 |_,_=>False
theorem xg.mono{E E':Env}(h:E.Le E'):∀{ds:List (AV×List AV)}{l:List UW},xg E ds l->xg E' ds l
 |[],[],_=>trivial
 |_::_,_::_,k=>⟨k.1.mono h,xg.mono h k.2⟩
 |[],_::_,k=>k.elim
 |_::_,[],k=>k.elim
structure rk (E E':Env)(V V':View)(a a':Act):Prop where
 le:E.Le E'
 size:a'.tmps.size=a.tmps.size
 role:V'.role=V.role
 deaf:V'.deaf=V.deaf
theorem rk.trans{E E' bW:Env}{V V' aT:View}{a a' cx:Act}(h:rk E E' V V' a a')(k:rk E' bW V' aT a' cx):rk E bW V aT a cx:=⟨h.le.trans k.le,k.size.trans h.size,k.role.trans h.role,k.deaf.trans h.deaf⟩
theorem Kept.d{E E':Env}{V V':View}{a a':Act}(h:Kept E E' V V' a a'):rk E E' V V' a a':=⟨h.le,h.size,h.role,h.deaf⟩
def Bh (lv:Bool)(P:SJ)(nt:Nat)(c:Ua)(s:AS)(ds:List (AV×List AV))(Φ:an->AS->List (AV×List AV)->Prop):Prop:=
 ∀(E:Env)(V:View)(a:Act)(Q:Ex->Act->View->Prop),At E V s a nt->xg E ds a.defers->(∀ae e E' V' a' s' nM,rk E E' V V' a a'->At E' V' s' a' nt->xg E' nM a'.defers->qh E' ae e->Φ ae s' nM->Q e a' V')->WP lv P none c Q a V
def an.w9 (next:AS->List (AV×List AV)->Prop)(Φ:an->AS->List (AV×List AV)->Prop):an->AS->List (AV×List AV)->Prop
 |.normal,s,ds=>next s ds
 |e,s,ds=>Φ e s ds
theorem afL{nt id n:Nat}{ops:Array Tu}{o:Tu}{c:Xn}{x:Th}{ds:List (AV×List AV)}{Φ:an->AS->List (AV×List AV)->Prop}(hn:ops.size=n+1)(ho:ops[n]?=some o)(hg:o.guard=none)(ay:o.op=.defer c)(aZ:c.callee=.value x)
  (dB:(ops.all λo=>o.dst.all (·<nt))=true)
  (h:iL lv P ops (ops.toList.take n) s (λs'=>ao (s'.ev x) λf=>ao (fD s' c.args.toList) λaE=>(∃g first c9,f=.fn (.func g) first c9)/\Φ .normal (s'.put o.dst (.val undef)) ((f,aE)::ds)) (λpv s'=>Φ (.panic pv) s' ds)):Bh lv P nt (.region id ops false) s ds Φ:=by
 intro E V a Q ah hd hQ;refine wp_region ?_;have hr:SZ ops.size=Ud 0 n++[n]:=by
  have:=Y6 (s:=0) (m:=n) (n:=1);rw[Vp,hn,<- this];simp
 rw[hr];have RH:∀o∈ops,∀d,o.dst=some d->d<nt:=λo ho d e=>by
  have:=(UJ.1 dB) o ho;rw[e]at this;simpa using this
 refine Bc _ _ _ (G5 (r:=none) (Φ:=λe s'=>match e with
  |.normal=>ao (s'.ev x) λf=>ao (fD s' c.args.toList) λaE=>(∃g first c9,f=.fn (.func g) first c9)/\Φ .normal (s'.put o.dst (.val undef)) ((f,aE)::ds)
  |e=>Φ e s' ds) RH rfl n 0 s (by omega) (by simpa using h) E V a _ ah λae e E' V' a' s' hk aV he hΦ=> ?_)
 cases ae<;>cases e<;>first
  |exact he.elim
  |exact hQ _ _ E' V' a' s' ds hk.d aV (by rw[hk.defers];exact hd.mono hk.le) he hΦ
  |skip
 obtain⟨f,h1,hA⟩:=ao.out hΦ;obtain⟨aE,h2,⟨g,first,c9,rfl⟩,hB⟩:=hA.out;simp only[Ex.then,dz,ho];rw[if_pos (by unfold Tg;rw[hg])];refine .inl ⟨.inl rfl,?_⟩;unfold execOp;rw[ay];dsimp only;unfold resolve;rw[aZ];dsimp only;have bC:=ap.ev aV.tok h1;generalize cC:a'.eval x=cv at bC;cases bC with
 |fn dN gB q1 q2=>
  rename_i fa ca;unfold U0;refine az (aq (aq ?_));refine⟨rfl,?_⟩;have fZ:o∈ops:=WZ ho;have e:c.args.map a'.eval=(c.args.toList.map a'.eval).toArray:=by apply VE;simp
  refine hQ .normal .normal E' V' _ (s'.put o.dst (.val undef)) ((.fn (.func g) first c9,aE)::ds) ⟨hk.le,(ey _ _ _).trans hk.size,hk.role,hk.deaf⟩ ⟨by rw[fG];exact aV.bu,aV.tok.iu (a:={a' with defers:=⟨.fn (.func g) ca,fa++c.args.map a'.eval⟩::a'.defers}) (λd e=>by rw[aV.size];exact RH o fZ d e) (.val _),(ey _ _ _).trans aV.size⟩ ?_ trivial hB;rw[put_defers];refine⟨⟨g,first,c9,fa,ca,_,rfl,rfl,⟨dN,q1⟩,⟨gB,q2⟩,?_⟩,by rw[hk.defers];exact hd.mono hk.le⟩;rw[e];exact zN aV.tok h2
theorem Pa{nt id n:Nat}{ops:Array Tu}{o:Tu}{c:Xn}{x:Th}{ds:List (AV×List AV)}{Φ:an->AS->List (AV×List AV)->Prop}(hn:ops.size=n+1)(ho:ops[n]?=some o)(hg:o.guard=none)(aP:o.dst=none)(ay:o.op=.defer c)(aZ:c.callee=.value x)
  (dB:(ops.all λo=>o.dst.all (·<nt))=true)
  (h:iL lv P ops (ops.toList.take n) s (λs'=>ao (s'.ev x) λf=>ao (fD s' c.args.toList) λaE=>(∃g first c9,f=.fn (.func g) first c9)/\Φ .normal s' ((f,aE)::ds)) (λpv s'=>Φ (.panic pv) s' ds)):Bh lv P nt (.region id ops false) s ds Φ:=by
 refine afL hn ho hg ay aZ dB ?_;rw[aP];exact h
end
section
variable {lv:Bool}{P:SJ}
theorem ace{rs:List UN}{fn:Yz}{n nt:Nat}{k kp:AV->List aa->Prop}{E E':Env}{V V':View}{s':AS}{a':Act}(hr:fn.results=rs.toArray)(ah:At E' V' s' a' nt)(hle:E.Le E')(hn:E.n=n)(cp:V'.role=V.role)(fy:V'.deaf=V.deaf)(hΦ:ao (iw P s' rs) λl=>cK n s'.H (jm l) k):
  ∃v,aO P V' (results fn a'.tmps) (λx aT=>x=v/\aT=V') (λ_ _=>False)/\ii E V k kp (.ret v) V':=by
 obtain⟨l,h1,h2⟩:=hΦ.out;have gQ:∃v,ap E' (jm l) v/\aO P V' (results fn a'.tmps) (λx aT=>x=v/\aT=V') (λ_ _=>False):=by
  obtain⟨vs,hl,mf,yl⟩:=Hp ah rs l h1;refine⟨if h:vs.length=1 then vs[0]else .tuple vs.toArray,?_,?_⟩
  ·match l,vs,hl,mf with
   |[x],[v],_,mf=>exact mf 0 x rfl
   |[],[],_,mf=>exact .aM rfl (by simp)
   |x::y::l,v::w::vs,hl,mf=>exact .aM (by simpa using hl) (λi z hz=>by simpa[SH,SD]using mf i z hz)
  ·unfold results;rw[hr,XX];refine az ?_;refine az (yl ?_);refine aq (aq ⟨?_,rfl⟩);simp
 obtain⟨v,bm,qM⟩:=gQ;obtain⟨b,bW,H',q1,q2,q3,q4⟩:=xI h2 ah.bu bm hle hn;exact⟨v,qM,b,bW,H',q1,cp,fy,q2,q3,q4⟩
def zk (lv:Bool)(P:SJ)(rs:List UN)(n:Nat)(k kp:AV->List aa->Prop):an->AS->List (AV×List AV)->Prop
 |.normal,s,[]|.ret,s,[]=>ao (iw P s rs) λl=>cK n s.H (jm l) k
 |.panic pv,s,[]=>cK n s.H pv kp
 |.normal,s,[c]|.ret,s,[c]=>rh lv P c s.H none (λH'=>ao (iw P ⟨s.T,H'⟩ rs) λl=>cK n H' (jm l) k) (λ_=>False)
 |.panic pv,s,[c]=>rh lv P c s.H (some pv) (λH'=>ao (iw P ⟨s.T,H'⟩ rs) λl=>cK n H' (jm l) k) (λH'=>cK n H' pv kp)
 |_,_,_=>False
theorem zf.mono{g:TO}{args:Array SQ}{md:U6}{V:View}{R R':U6->View->Prop}(h:zf lv P g args md V R)(hr:∀m V,R m V->R' m V):zf lv P g args md V R':=λmain J C fr cs hm hR=>h main J C fr cs hm λoi V' r=>hR oi V' (hr _ _ r)
@[congr] theorem as4 {nt : Nat} {c : Ua} {s s' : AS} {ds nM : List (AV × List AV)} {Φ : an -> AS -> List (AV × List AV) -> Prop} (h : s = s') (hd : ds = nM) : Bh lv P nt c s ds Φ = Bh lv P nt c s' nM Φ := by rw [h, hd]
theorem art(K:AS->List (AV×List AV)->Prop)(Φ:an->AS->List (AV×List AV)->Prop)(s:AS)(ds:List (AV×List AV)):an.w9 K Φ .normal s ds=K s ds:=by rw[an.w9]
theorem arv(K:AS->List (AV×List AV)->Prop)(Φ:an->AS->List (AV×List AV)->Prop)(s:AS)(ds:List (AV×List AV)):an.w9 K Φ .ret s ds=Φ .ret s ds:=by rw[an.w9];simp
theorem aru(K:AS->List (AV×List AV)->Prop)(Φ:an->AS->List (AV×List AV)->Prop)(a:AV)(s:AS)(ds:List (AV×List AV)):an.w9 K Φ (.panic a) s ds=Φ (.panic a) s ds:=by rw[an.w9];simp
@[congr] theorem atS {K : AS -> List (AV × List AV) -> Prop} {Φ : an -> AS -> List (AV × List AV) -> Prop} {e e' : an} {s s' : AS} {ds nM : List (AV × List AV)} (he : e = e') (h : s = s') (hd : ds = nM) : an.w9 K Φ e s ds = an.w9 K Φ e' s' nM := by rw [he, h, hd]
@[congr] theorem ati {rs : List UN} {n : Nat} {k kp : AV -> List aa -> Prop} {e e' : an} {s s' : AS} {ds nM : List (AV × List AV)} (he : e = e') (h : s = s') (hd : ds = nM) : zk lv P rs n k kp e s ds = zk lv P rs n k kp e' s' nM := by rw [he, h, hd]
theorem ai4(rs:List UN)(n:Nat)(k kp:AV->List aa->Prop)(s:AS):zk lv P rs n k kp .ret s []=ao (iw P s rs) λl=>cK n s.H (jm l) k:=by rw[zk]
theorem ai3(rs:List UN)(n:Nat)(k kp:AV->List aa->Prop)(s:AS)(pv:AV):zk lv P rs n k kp (.panic pv) s []=cK n s.H pv kp:=by rw[zk]
attribute [seval] art arv aru ai4 ai3
end
section
variable {P:SJ}
theorem adb{ι:Type}{body:ι->PUnit->Sem (ForInStep PUnit)}:∀(l:List ι),(∀i∈l,cR P (body i ⟨⟩) (.yield ⟨⟩))->cR P (forIn l ⟨⟩ body) ⟨⟩
 |[],_=>by simpa using iV PUnit.unit
 |i::l,h=>by
  rw[WX];exact lR (h i (TB ..)) (adb l λj hj=>h j (Tb _ hj))
theorem ard{t:TypeId}{k0 k:TY}{d:Nat}{b:Bool}{x:Int}(h:P.underlying t=some (.int k0)):cR P (U8 b (d+1) t (.int k x)) ():=by
 rw[U8];exact yZ h (iV _)
theorem ada{t e:TypeId}{k0 k:TY}{n d:Nat}{i:Wj}{b:Bool}{xs:List Int}(ht:P.underlying t=some (.array n e))(he:P.underlying e=some (.int k0))(hi:P.info? e=some i)(hs:i.size=1)(hx:xs.length=n):
  cR P (U8 b (d+2) t (.agg (xs.map (SF k)).toArray)) ():=by
 rw[U8];refine yZ ht ?_;dsimp only;simp only[Wv,Xq];refine lR (a:=⟨⟩) ?_ (iV _);refine adb _ λj hj=> ?_;have hn:(n-0+1-1)/1=n:=by simp
 have pJ:j<n:=by rw[hn]at hj;simp[XV]at hj;omega
 have gx:xs[j]?=some (xs[j]'(by omega)):=SO _;refine NV hi ?_;rw[hs,X9];refine D4 he rfl (v:=.int k (xs[j]'(by omega))) (by simp[gx]) ?_;exact lR (ard he) (iV _)
def eO (x:List Int×Nat):Wl:={key:=.agg (x.1.map (SF .i64)).toArray,val:=.bool true,born:=x.2}
def qv (x:List Int):List (List Int×Nat)->Nat->Option (Nat×SQ)
 |[],_=>none
 |y::ts,i=>if x==y.1 then some (i,.bool true)else qv x ts (i+1)
theorem ade{t e:TypeId}{k0:TY}{n:Nat}{i:Wj}{x:List Int}(ht:P.underlying t=some (.array n e))(he:P.underlying e=some (.int k0))(hi:P.info? e=some i)(hs:i.size=1)(hx:x.length=n):∀(ts:List (List Int×Nat))(j:Nat),(∀y∈ts,y.1.length=n)->
  cR P (XC t (.agg (x.map (SF .i64)).toArray) (ts.map eO) j) (qv x ts j)
 |[],j,_=>by rw[List.map_nil,XC,qv];exact iV _
 |y::ts,j,h=>by
  rw[UV,XC,qv];refine lR (adc ht he hi hs hx (h y (TB ..))) ?_;by_cases wJ:(x==y.1)=true
  ·rw[if_pos wJ,if_pos wJ];exact iV _
  ·rw[if_neg wJ,if_neg wJ];exact ade ht he hi hs hx ts (j+1) λz hz=>h z (Tb _ hz)
theorem adf{t e:TypeId}{k0:TY}{n:Nat}{i:Wj}{x:List Int}(ht:P.underlying t=some (.array n e))(he:P.underlying e=some (.int k0))(hi:P.info? e=some i)(hs:i.size=1)(hx:x.length=n){ts:List (List Int×Nat)}(h:∀y∈ts,y.1.length=n):
  cR P (VO t (.agg (x.map (SF .i64)).toArray) (ts.map eO)) (qv x ts 0):=by
 unfold VO;refine yZ ht ?_;cases ts with
 |nil=>exact iV _
 |cons y ts=>
  have e1:Instr.findNow (.array n e) (.agg (x.map (SF .i64)).toArray) ((y::ts).map eO) 0=none:=rfl;rw[e1];exact ade ht he hi hs hx (y::ts) 0 h
theorem Qq{x:List Int}:∀{ts:List (List Int×Nat)}{j i:Nat}{v:SQ},qv x ts j=some (i,v)->∃b,j<=i/\ts[i-j]?=some (x,b)/\v=.bool true
 |y::ts,j,i,v,h=>by
  rw[qv]at h;split at h
  ·rename_i wJ;cases h;obtain⟨y1,b⟩:=y;have:x=y1:=(by simpa using wJ);subst this;exact⟨b,SR _,by simp,rfl⟩
  ·obtain⟨b,h1,h2,h3⟩:=Qq h;refine⟨b,by omega,?_,h3⟩;have:i-j=(i-(j+1))+1:=(by omega);rw[this,UM];exact h2
theorem Qp{x:List Int}:∀{ts:List (List Int×Nat)}{j:Nat},qv x ts j=none->∀y∈ts,y.1≠x
 |y::ts,j,h,z,hz=>by
  rw[qv]at h;split at h
  ·cases h
  ·rename_i wJ;rcases SL.1 hz with rfl|hz
   ·intro e;exact wJ (by simp[e])
   ·exact Qp h z hz
end
theorem ap3(xs:List Int):WA 10000 (.agg (xs.map (SF .i64)).toArray) (.agg (xs.map (SF .i64)).toArray)=true:=by
 show WA (9999+1) _ _=true;rw[WA];simp only[beq_self_eq_true,Vs,Tv]
 rintro⟨a,b⟩ h
 have:a=b/\a∈xs.map (SF .i64):=by
  have key:∀l:List SQ,(a,b)∈l.zip l->a=b/\a∈l:=by
   intro l;induction l with
   |nil=>intro h;cases h
   |cons x l ih=>
    intro h;rw[List.zip_cons_cons]at h;rcases SL.1 h with h|h
    ·cases h;exact⟨rfl,TB ..⟩
    ·exact⟨(ih h).1,Tb _ (ih h).2⟩
  exact key _ h
 obtain⟨rfl,hm⟩:=this;obtain⟨x,_,rfl⟩:=Tl.1 hm;simp[WA]
theorem ab3(ts:List (List Int×Nat))(ck:Nat)(x:List Int):wZ (ts.map eO).toArray ck (.agg (x.map (SF .i64)).toArray) (.bool true) none=.map ((ts++[(x,ck)]).map eO).toArray (ck+1):=by
 simp[wZ,eO]
theorem aoI{ts:List (List Int×Nat)}{ck i b:Nat}{x:List Int}{v:SQ}(h:ts[i]?=some (x,b)):wZ (ts.map eO).toArray ck (.agg (x.map (SF .i64)).toArray) (.bool true) (some (i,v))=.map (ts.map eO).toArray ck:=by
 simp only[wZ];congr 1;apply Array.ext_getElem?;intro j;rw[Wi];by_cases hj:i=j
 ·subst hj;rw[if_pos rfl];simp[h,eO]
 ·rw[if_neg hj]
theorem anS(xs:List Int):AV.of (.agg (xs.map (SF .i64)).toArray)=.agg (xs.map iv):=by
 simp only[AV.of,XW];congr 1
theorem Pm(ts:List (List Int×Nat))(ck:Nat)(h:∀y∈ts,y.2<ck):((ts.map eO).toArray.all (λe=>decide (e.born>=ck))=false\/(ts.map eO).toArray.isEmpty=true):=by
 cases ts with
 |nil=>right;rfl
 |cons y ts=>
  left;have:=h y (TB ..);simp[eO];omega
theorem Dy{α β:Type}(f:α->β):∀{l:List α},(l.map f).Nodup->l.Nodup
 |[],_=>WK
 |x::l,h=>by
  rw[UV,VH]at h;exact VH.2 ⟨λhm=>h.1 (Tl.2 ⟨x,hm,rfl⟩),Dy f h.2⟩
theorem acp{ts vs:List (List Int×Nat)}(hv:(vs.map (·.2)).Nodup)(ht:(ts.map (·.2)).Nodup)(mc:∀y∈vs,y∈ts)(fW:∀y∈ts,y.2∈vs.map (·.2)):vs.Perm ts:=by
 have yu:vs.Nodup:=Dy _ hv;have mJ:ts.Nodup:=Dy _ ht;refine(List.perm_ext_iff_of_nodup yu mJ).2 λy=>⟨mc y,λhy=> ?_⟩;obtain⟨z,hz,e⟩:=Tl.1 (fW y hy);have LZ:=mc z hz;have:∀(l:List (List Int×Nat)),(l.map (·.2)).Nodup->z∈l->y∈l->z=y:=by
  intro l;induction l with
  |nil=>intro _ h;cases h
  |cons x l ih=>
   intro hn h1 h2;rw[UV,VH]at hn;rcases SL.1 h1 with e1|JP
   ·rcases SL.1 h2 with e2|zU
    ·rw[e1,e2]
    ·exact absurd (show x.2∈l.map (·.2)from Tl.2 ⟨y,zU,by rw[<- e1];exact e.symm⟩) hn.1
   ·rcases SL.1 h2 with e2|zU
    ·exact absurd (show x.2∈l.map (·.2)from Tl.2 ⟨z,JP,by rw[<- e2];exact e⟩) hn.1
    ·exact ih hn.2 JP zU
 rw[<- this ts ht LZ hy];exact hz
theorem Qs{y:List Int×Nat}:∀{ts:List (List Int×Nat)},(ts.map (·.2)).Nodup->y∈ts->(ts.map eO).toArray.find? (λe=>e.born==y.2)=some (eO y):=by
 intro ts hn hy;rw[List.find?_toArray];induction ts with
 |nil=>cases hy
 |cons z ts ih=>
  rw[UV,VH]at hn;rw[UV];by_cases h:z.2=y.2
  ·rw[List.find?_cons_of_pos (by simp[eO,h])];rcases SL.1 hy with e|pY
   ·rw[e]
   ·exact absurd (show z.2∈ts.map (·.2)from Tl.2 ⟨y,pY,h.symm⟩) hn.1
  ·rw[List.find?_cons_of_neg (by simp[eO,h])];rcases SL.1 hy with e|pY
   ·exact absurd (by rw[e]) h
   ·exact ih hn.2 pY
theorem abF(y:List Int×Nat):AV.of (eO y).key=.agg (y.1.map iv):=anS y.1
section
variable {lv:Bool}{P:SJ}
theorem ap8{l:Nat}{r:ap'}{V:View}(ho:V.own l=some (.loop r))(hs:r.state=.ready)(hc:V.role.chan≠some l):aO P V (do XD l;pure Next.skip) (λnx V'=>nx=.skip/\V'=V.upd l (.loop {r with state:=.busy})) (λ_ _=>False):=by
 unfold XD WH;refine az (az (az ?_));unfold getObj;refine ov ho rfl rfl hc (cO ?_);dsimp only;refine aq ?_;refine az ?_;unfold setObj;refine yU ho rfl rfl hc (cO ?_);rw[hs];exact aq (aq ⟨rfl,rfl⟩)
theorem aqc{l:Nat}{r:ap'}{V:View}(pZ:Option Ua)(ho:V.own l=some (.loop r))(hc:V.role.chan≠some l):aO P V (W2 l pZ) (λv V'=>v=.bool pZ.isNone/\V'=V.upd l (.loop {r with state:=if pZ.isNone then .ready else .done,pending:=pZ})) (λ_ _=>False):=by
 unfold W2 WH;refine az (az ?_);unfold getObj;refine ov ho rfl rfl hc (cO ?_);dsimp only;refine aq ?_;refine az ?_;unfold setObj;refine yU ho rfl rfl hc (cO ?_);exact aq ⟨rfl,rfl⟩
theorem aqb{l:Nat}{r:ap'}{V:View}(ho:V.own l=some (.loop r))(hs:r.state≠ .busy)(hc:V.role.chan≠some l):aO P V (ZJ l) (λv V'=>v=r.pending/\V'=V.upd l (.loop {r with state:=.exhausted})) (λ_ _=>False):=by
 unfold ZJ WH;refine az (az ?_);unfold getObj;refine ov ho rfl rfl hc (cO ?_);dsimp only;refine aq ?_;have:(r.state==ap_)=false:=by simpa using hs
 rw[if_neg (by rw[this];simp)];refine az ?_;unfold setObj;refine yU ho rfl rfl hc (cO ?_);exact aq ⟨rfl,rfl⟩
theorem aqd{fn:TO}{tmps:Array SQ}{ps:Array Tmp}{bP body:Ua}{V:View}:aO P V (WU fn tmps ps bP body none) (λx V1=>∃d l,V.fresh d/\(V.upd d (.deferred (some []))).fresh l/\x=(l,[{target:=.collected d,args:=#[]}])/\
  V1=(V.upd d (.deferred (some []))).upd l (.loop {state:=.ready,pending:=none,fn,tmps,params:=ps,assign:=bP,body,defers:=d})) (λ_ _=>False):=by
 unfold WU;dsimp only;refine az ?_;unfold newObj;refine o0 λd hd=>cO ?_;refine az (aq ?_);dsimp only;refine az (o0 λl hl=>cO (aq ?_));exact⟨d,l,hd,hl,rfl,rfl⟩
theorem NI{d:Nat}{V:View}(ho:V.own d=some (.deferred (some [])))(hc:V.role.chan≠some d):aO P V (Y3 d) (λv V'=>v=[]/\V'=V.upd d (.deferred none)) (λ_ _=>False):=by
 unfold Y3;refine az ?_;unfold getObj;refine ov ho rfl rfl hc (cO ?_);dsimp only;refine az ?_;unfold setObj;refine yU ho rfl rfl hc (cO ?_);exact aq ⟨rfl,rfl⟩
def ad6 (l:Nat)(R:Out->View->Prop):Ex->Act->View->Prop
 |.normal,_,V=>∃r,V.own l=some (.loop r)/\V.role.chan≠some l/\R (.ret (.bool true)) (V.upd l (.loop {r with state:=.ready,pending:=none}))
 |.ret,_,V=>∃r,V.own l=some (.loop r)/\V.role.chan≠some l/\R (.ret (.bool false)) (V.upd l (.loop {r with state:=.done,pending:=some .ret}))
 |.exit i,_,V=>∃r,V.own l=some (.loop r)/\V.role.chan≠some l/\R (.ret (.bool false)) (V.upd l (.loop {r with state:=.done,pending:=some (.exit i)}))
 |.goto i,_,V=>∃r,V.own l=some (.loop r)/\V.role.chan≠some l/\R (.ret (.bool false)) (V.upd l (.loop {r with state:=.done,pending:=some (.goto i)}))
 |.panic ch,a,V=>a.defers=[]/\R (.panic ch) V
def ad4 (lv:Bool)(P:SJ)(l:Nat)(body:Ua)(R:Out->View->Prop):Ex->Act->View->Prop
 |.normal,a,V=>∃r,V.own l=some (.loop r)/\V.role.chan≠some l/\r.state=.ready/\WP lv P (some l) body (ad6 l R) a (V.upd l (.loop {r with state:=.busy}))
 |_,_,_=>False
theorem apN{l f:Nat}{tmps:Array SQ}{bP body:Ua}{V:View}{R:Out->View->Prop}(h:WP lv P (some l) bP (ad4 lv P l body R) {tmps,defers:=[]} V):nB lv P (W6 l f tmps bP body .normal) V R:=by
 intro main J C c cs h1 h2;let b:Uc:={(default:Uc)with fn:=f,kind:=.normal,roundOf:=some l};have alq:W6 l f tmps bP body .normal=on b {tmps,defers:=[]} [.code bP,.beginRound,.code body]:=rfl;rw[alq];have leave:∀(a:Act)(V':View)(r:ap')(pZ:Option Ua)(todo:List WR),V'.own l=some (.loop r)->V'.role.chan≠some l->R (.ret (.bool pZ.isNone)) (V'.upd l (.loop {r with state:=if pZ.isNone then .ready else .done,pending:=pZ}))->
   (∀w,stepG P main (G (on b a todo) (c::cs)) w=T5 (seen P b.fn ((W2 l pZ).runT P w #[]).2) (match((W2 l pZ).runT P w #[]).1 with
    |.ok v w=>doReturn P main (on b a todo) (c::cs) none v w
    | .halt _ w => .ended (.stuck "range over a function: no such loop" ((on b a todo).pos P)) w)) -> J V' (G (on b a todo) (c :: cs)) := by
  intro a V' r pZ todo ho fx hR aR;refine C.step _ _ rfl λw fN=> ?_;obtain⟨es,w',aT,k1,k2,k3⟩:=(aqc (P:=P) pZ ho fx).runs fN;rcases k3 with⟨v,k3,rfl,rfl⟩|⟨_,_,hx⟩
  ·refine⟨G (c.finish (.bool pZ.isNone)) cs,w',seen P b.fn es,_,?_,k1.seen P b.fn,h1 _ _ hR⟩;rw[aR w];simp[TA,k3,k2,doReturn,T5,on,b,G]
  ·exact hx.elim
 refine h main J C b [.beginRound,.code body] (c::cs) (by show Y5≠U3;decide) rfl λe a' V' q=> ?_;cases e with
 |normal=>
  obtain⟨r,ho,fx,hs,hw⟩:=q;refine C.step _ _ rfl λw fN=> ?_;obtain⟨es,w',aT,k1,k2,k3⟩:=(ap8 (P:=P) ho hs fx).runs fN;rcases k3 with⟨nx,k3,rfl,rfl⟩|⟨_,_,hx⟩
  ·refine⟨G (on b a' [.code body]) (c::cs),w',seen P b.fn es,_,?_,k1.seen P b.fn,?_⟩
   ·have:stepG P main (G (on b a' [.beginRound,.code body]) (c::cs)) w=stepG.apply P true (on b a' [.beginRound,.code body]) (c::cs) none (do XD l;pure Next.skip) w:=by
     simp[G,stepG,Ug,on,b]
    rw[this];have ki:((on b a' [.beginRound,.code body]).kind==U3)=false:=(by simp[on,b]);simp only[stepG.apply,TA,if_true,k3,k2,ki,T5];rfl
   ·refine hw main J C b [] (c::cs) (by show Y5≠U3;decide) rfl λe cx aT q=> ?_;cases e with
    |normal=>
     obtain⟨r',bc,nU,hR⟩:=q;refine leave cx aT r' none [] bc nU hR λw=> ?_;simp[G,stepG,Ug,on,b];rfl
    |ret=>
     obtain⟨r',bc,nU,hR⟩:=q;intro k;refine leave cx aT r' (some .ret) _ bc nU hR λw=> ?_;simp[G,stepG,Ug,on,b];rfl
    |exit i=>
     obtain⟨r',bc,nU,hR⟩:=q;refine .inr ⟨rfl,λk2 cM=> ?_⟩;refine leave cx aT r' (some (.exit i)) _ bc nU hR λw=> ?_;simp[G,stepG,Ug,on,b,cM];rfl
    |goto i=>
     obtain⟨r',bc,nU,hR⟩:=q;refine .inr ⟨rfl,λk2 cM=> ?_⟩;refine leave cx aT r' (some (.goto i)) _ bc nU hR λw=> ?_;simp[G,stepG,Ug,on,b,cM];rfl
    |panic ch=>
     obtain⟨hd,hR⟩:=q;intro todo alD;refine C.idle rfl (λw=> ?_) (h2 _ _ hR);have ajW:ZS P {on b cx todo with mode:=.panicking ch}=false:=by
      unfold ZS
      match todo,alD with
      |.call .. ::_,h=>cases h
      |[],_=>split<;>simp_all[on]
      |x::k,_=>cases x<;>(split<;>simp_all[on,abl])
     have bC:({on b cx todo with mode:=.panicking ch}:Uc).defers=[]:=hd;simp only[G,stepG,unwind,bC,ajW];simp
  ·exact hx.elim
 |_=>exact q.elim
def mark (a:Act)(d:Nat):Act:={a with defers:={target:=.collected d,args:=#[]}::a.defers}
def xp (l:Nat)(Q:Ex->Act->View->Prop)(a:Act):Out->View->Prop
 |.ret _,V=>∃r,V.own l=some (.loop r)/\V.role.chan≠some l/\r.state≠ .busy/\(match r.pending with
  |none=>Q .normal a (V.upd l (.loop {r with state:=.exhausted}))
  |some .ret=>Q .ret a (V.upd l (.loop {r with state:=.exhausted}))
  |some (.exit i)=>Q (.exit i) a (V.upd l (.loop {r with state:=.exhausted}))
  |some (.goto i)=>Q (.goto i) a (V.upd l (.loop {r with state:=.exhausted}))
  |_=>False)
 |.panic ch,V=>Q (.panic ch) a V
abbrev EA (l d:Nat)(Q:Ex->Act->View->Prop)(a:Act):Out->View->Prop:=xp l Q (mark a d)
theorem aca{rr:Option Nat}{f:Th}{ps:Array Tmp}{bP body:Ua}{Q:Ex->Act->View->Prop}{a a1:Act}{V1:View}{l:Nat}{main:Bool}{J:View->SG->Prop}(C:Closed lv P main J){b:Uc}{k:List WR}{cs:List Uc}(hb:b.kind≠ .early)(hr:b.roundOf=rr)(hL:∀e a' V',Q e a' V'->vL J b k cs e a' V'){w w1:To}{es:Array Ur}{V:View}
  (h:aO P V1 (do let dd<- U0 (a.eval f) #[.func (.yield l) #[] #[]];invoke dd.target dd.args) (λnx V'=>Nx lv P (xp l Q a1) nx V') (λv V'=>xp l Q a1 (.panic [{v,recovered:=false}]) V'))
  (s1:dq V w V1 w1 (gh es)) (aR:stepG P main (G (on b a (.code (.rangeFunc f ps bP body)::k)) cs) w=T5 (seen P b.fn es) (stepG.apply P true (on b a1 (.inRangeFunc l::k)) cs none (do let dd<- U0 (a.eval f) #[.func (.yield l) #[] #[]];invoke dd.target dd.args) w1)):
  ∃g' w' es V',stepG P main (G (on b a (.code (.rangeFunc f ps bP body)::k)) cs) w=.go g' w' es/\dq V w V' w' es/\J V' g':=by
 have fin:∀(v:SQ)(V':View),xp l Q a1 (.ret v) V'->J V' (G (on b a1 (.endRangeFunc l::k)) cs):=by
  intro v V' ⟨r,ho,fx,hs,hq⟩;refine C.step _ _ rfl λw fN=> ?_;obtain⟨es,w',aT,k1,k2,k3⟩:=(aqb (P:=P) ho hs fx).runs fN;rcases k3 with⟨x,k3,rfl,rfl⟩|⟨_,_,hx⟩
  ·refine⟨G (on b a1 ((r.pending.map Item.code).toList++k)) cs,w',seen P b.fn es,_,?_,k1.seen P b.fn,?_⟩
   ·simp[G,stepG,Ug,on,TA,k3,k2,T5]
   ·generalize r.pending=pe at hq⊢
    match pe,hq with
    |none,hq=>exact hL _ _ _ hq
    |some .ret,hq=>exact hL _ _ _ hq _
    |some (.exit i),hq=>exact aaH C (hL _ _ _ hq)
    |some (.goto i),hq=>exact al1 C (hL _ _ _ hq)
  ·exact hx.elim
 obtain⟨nN,w2,V2,t1,t2,t3⟩:=h.runs s1.sat;have ki:((on b a1 (.inRangeFunc l::k)).kind==U3)=false:=by simpa[on]using hb
 rw[aR];rcases t3 with⟨nx,t3,hU⟩|⟨v,t3,hU⟩
 ·cases nx with
  |value v=>exact⟨_,w2,seen P b.fn es++seen P b.fn nN,V2,by simp only[stepG.apply,TA,if_true,t3,t2,ki,T5];rfl,(s1.seen P _).trans (t1.seen P _),fin v _ hU⟩
  |skip=>exact⟨_,w2,seen P b.fn es++seen P b.fn nN,V2,by simp only[stepG.apply,TA,if_true,t3,t2,ki,T5];rfl,(s1.seen P _).trans (t1.seen P _),fin undef _ hU⟩
  |enter g args=>
   refine⟨G (Frame.enter P g args .normal) (on b a1 (.inRangeFunc l::k)::cs),w2,seen P b.fn es++seen P b.fn nN,V2,by simp only[stepG.apply,TA,if_true,t3,t2,ki,T5];rfl,(s1.seen P _).trans (t1.seen P _),?_⟩;refine Body.runs hU main J C _ cs (λv aT hR=> ?_) (λch aT hR=> ?_)
   ·exact fin v _ hR
   ·exact hL _ _ _ hR _ rfl
  |round l2 f2 arI as2 b2=>
   refine⟨G (W6 l2 f2 arI as2 b2 .normal) (on b a1 (.inRangeFunc l::k)::cs),w2,seen P b.fn es++seen P b.fn nN,V2,by simp only[stepG.apply,TA,if_true,t3,t2,ki,T5];rfl,(s1.seen P _).trans (t1.seen P _),?_⟩;refine hU main J C _ cs (λv aT hR=> ?_) (λch aT hR=> ?_)
   ·exact fin v _ hR
   ·exact hL _ _ _ hR _ rfl
  |_=>exact hU.elim
 ·exact⟨_,w2,seen P b.fn es++seen P b.fn nN,V2,by simp only[stepG.apply,TA,if_true,t3,t2,ki,T5];rfl,(s1.seen P _).trans (t1.seen P _),hL _ _ _ hU _ rfl⟩
theorem adP{f:Th}{ps:Array Tmp}{bP body:Ua}{Q:Ex->Act->View->Prop}{a:Act}{V:View}
  (h:∀(fn d l:Nat),V.fresh d->(V.upd d (.deferred (some []))).fresh l->aO P ((V.upd d (.deferred (some []))).upd l (.loop {state:=.ready,pending:=none,fn,tmps:=a.tmps,params:=ps,assign:=bP,body,defers:=d}))
   (do let dd<- U0 (a.eval f) #[.func (.yield l) #[] #[]];invoke dd.target dd.args) (λnx V'=>Nx lv P (EA l d Q a) nx V') (λv V'=>EA l d Q a (.panic [{v,recovered:=false}]) V')):WP lv P none (.rangeFunc f ps bP body) Q a V:=by
 intro main J C b k cs hb hr hL;refine C.step _ _ rfl λw fN=> ?_;obtain⟨es,w1,V1,s1,s2,s3⟩:=(aqd (P:=P) (fn:=b.fn) (tmps:=a.tmps) (ps:=ps) (bP:=bP) (body:=body)).runs fN;rcases s3 with⟨x,s3,d,l,hd,hl,rfl,rfl⟩|⟨_,_,hx⟩
 ·refine aca C hb hr hL (h b.fn d l hd hl) s1 ?_;have cC:∀(todo:List WR)(x:Th),(on b (mark a d) todo).eval x=a.eval x:=λtodo x=>by rw[G4];cases x<;>rfl
  have e:=cC (.inRangeFunc l::k) f;have e2:=cC (.inRangeFunc l::k) (.const (.func (.yield l) #[] #[]));simp only[on,mark]at e e2;simp[G,stepG,Ug,on,TA,s3,s2,hr,mark,resolve];rw[hr]at e;rw[e];rfl
 ·exact hx.elim
theorem aqe{fn:TO}{tmps:Array SQ}{ps:Array Tmp}{bP body:Ua}{V:View}{l0:Nat}{r0:ap'}(ho:V.own l0=some (.loop r0))(hc:V.role.chan≠some l0):aO P V (WU fn tmps ps bP body (some l0)) (λx V1=>∃l,V.fresh l/\x=(l,[])/\
  V1=V.upd l (.loop {state:=.ready,pending:=none,fn,tmps,params:=ps,assign:=bP,body,defers:=r0.defers})) (λ_ _=>False):=by
 unfold WU WH;dsimp only;refine az (az ?_);unfold getObj;refine ov ho rfl rfl hc (cO ?_);dsimp only;refine aq (az (aq ?_));dsimp only;refine az ?_;unfold newObj;refine o0 λl hl=>cO (aq ?_);exact⟨l,hl,rfl,rfl⟩
theorem asi{f:Th}{ps:Array Tmp}{bP body:Ua}{Q:Ex->Act->View->Prop}{a:Act}{V:View}{l0:Nat}{r0:ap'}(ho:V.own l0=some (.loop r0))(hc:V.role.chan≠some l0)
  (h:∀(fn l:Nat),V.fresh l->aO P (V.upd l (.loop {state:=.ready,pending:=none,fn,tmps:=a.tmps,params:=ps,assign:=bP,body,defers:=r0.defers}))
   (do let dd<- U0 (a.eval f) #[.func (.yield l) #[] #[]];invoke dd.target dd.args) (λnx V'=>Nx lv P (xp l Q a) nx V') (λv V'=>xp l Q a (.panic [{v,recovered:=false}]) V')):WP lv P (some l0) (.rangeFunc f ps bP body) Q a V:=by
 intro main J C b k cs hb hr hL;refine C.step _ _ rfl λw fN=> ?_;obtain⟨es,w1,V1,s1,s2,s3⟩:=(aqe (P:=P) (fn:=b.fn) (tmps:=a.tmps) (ps:=ps) (bP:=bP) (body:=body) ho hc).runs fN;rcases s3 with⟨x,s3,l,hl,rfl,rfl⟩|⟨_,_,hx⟩
 ·refine aca C hb hr hL (h b.fn l hl) s1 ?_;have e:=G4 b a (.inRangeFunc l::k) f;simp only[on]at e;simp[G,stepG,Ug,on,TA,s3,s2,hr,resolve];rw[hr]at e;rw[e];rfl
 ·exact hx.elim
theorem Conc.yW{E:Env}{V:View}{H:List aa}(hc:Conc E V H){id r fn nt df:Nat}{st:Z7}{pe:Option Ua}{T:List (Nat×AV)}{ps:Array Tmp}{bP body:Ua}(hk:H[id]?=some (.loop r st pe fn T nt ps bP body df)):
  E.blk id=r/\V.role.chan≠some r/\∃tmps,V.own r=some (.loop {state:=st,pending:=pe,fn,tmps,params:=ps,assign:=bP,body,defers:=E.blk df})/\tmps.size=nt/\cw E T tmps/\
   ∀st' wY,Conc E (V.upd r (.loop {state:=st',pending:=wY,fn,tmps,params:=ps,assign:=bP,body,defers:=E.blk df})) (H.set id (.loop r st' wY fn T nt ps bP body df)):=by
 obtain⟨⟨tmps,p1,p2,p3⟩,p4,p5,p6⟩:=hc.obj id _ hk;have fx:=(hc.jB hk (b:=E.blk id) rfl).2;subst p6;refine⟨rfl,fx,tmps,p1,p2,p3,λst' wY=> ?_⟩;refine hc.iW id (.loop (E.blk id) st' wY fn T nt ps bP body df) (Env.Le.refl E) hc.I (by simpa using hc.n) lN rfl (λ_ _ _=>rfl) (λb z hb hz=>⟨?_,λ_=>rfl⟩) ⟨⟨tmps,by simp[View.upd],p2,p3⟩,p4,p5,rfl⟩ (λb h=> .inl ⟨_,hk,h⟩);have:b≠E.blk id:=λe=>hb _ hk (by rw[e];rfl);simpa[View.upd,this]using hz
theorem Conc.DW{E:Env}{V:View}{H:List aa}(hc:Conc E V H){id:Nat}(x:aa)(hk:H[id]?=some x)(y:Obj){b:Nat}(hb:bQ E id x=some b):Conc E (V.upd b y) (H.set id .gone):=by
 refine hc.iW id .gone (Env.Le.refl E) hc.I (by simpa using hc.n) lN rfl (λ_ _ _=>rfl) (λb' z dL hz=>⟨?_,λ_=>rfl⟩) trivial (λb h=>by cases h);have:b'≠b:=λe=>dL _ hk (by rw[e];exact hb);simpa[View.upd,this]using hz
def sI:List Nat->List AV->List (Nat×AV)->List (Nat×AV)
 |t::ts,a::aE,T=>sI ts aE ((t,a)::T)
 |_,_,T=>T
theorem adU{E:Env}{nt:Nat}:∀(ts:List Nat)(aE:List AV)(vs:List SQ)(T:List (Nat×AV))(tmps:Array SQ),vs.length=aE.length->(∀(i:Nat) a,aE[i]?=some a->ap E a (vs.getD i undef))->(∀t∈ts,t<nt)->tmps.size=nt->cw E T tmps->
  cw E (sI ts aE T) ((ts.zip vs).foldl (λtmps (x:Nat×SQ)=>tmps.setIfInBounds x.1 x.2) tmps)/\((ts.zip vs).foldl (λtmps (x:Nat×SQ)=>tmps.setIfInBounds x.1 x.2) tmps).size=nt
 |[],aE,vs,T,tmps,_,_,_,hs,hT=>by cases aE<;>cases vs<;>exact⟨hT,hs⟩
 |t::ts,[],[],T,tmps,_,_,_,hs,hT=>⟨hT,hs⟩
 |t::ts,[],_::_,T,tmps,h,_,_,hs,hT=>by cases h
 |t::ts,_::_,[],T,tmps,h,_,_,hs,hT=>by cases h
 |t::ts,a::aE,v::vs,T,tmps,hl,hd,ht,hs,hT=>by
  have h0:ap E a v:=by simpa using hd 0 a rfl
  have h1:t<tmps.size:=by rw[hs];exact ht t (by simp)
  exact adU ts aE vs ((t,a)::T) (tmps.setIfInBounds t v) (by simpa using hl) (λi x hx=>by simpa using hd (i+1) x (by simpa using hx)) (λx hx=>ht x (by simp[hx])) (by simpa using hs) (hT.put h1 h0)
def pn (id n:Nat)(k:AV->List aa->Prop)(st':Z7)(wY:Option Ua)(b:Bool)(s:AS):Prop:=∃r st pe fn T nt ps bP body df,s.H[id]?=some (.loop r st pe fn T nt ps bP body df)/\cK n (s.H.set id (.loop r st' wY fn T nt ps bP body df)) (.val (.bool b)) k
def ad5 (id n:Nat)(k kp:AV->List aa->Prop):an->AS->Prop
 |.normal,s=>pn id n k .ready none true s
 |.ret,s=>pn id n k .done (some .ret) false s
 |.exit i,s=>pn id n k .done (some (.exit i)) false s
 |.goto i,s=>pn id n k .done (some (.goto i)) false s
 |.panic pv,s=>cK n s.H pv kp
def uq (lv:Bool)(P:SJ)(l nt id n:Nat)(body:Ua)(k kp:AV->List aa->Prop):an->AS->Prop
 |.normal,s=>∃pe fn T jC ps bP fI df,s.H[id]?=some (.loop l .ready pe fn T jC ps bP fI df)/\aQ lv P (some l) nt body ⟨s.T,s.H.set id (.loop l .busy pe fn T jC ps bP fI df)⟩ (ad5 id n k kp)
 |_,_=>False
theorem vY{l id fn nt df:Nat}{pe:Option Ua}{T:List (Nat×AV)}{ps:Array Tmp}{bP body:Ua}{H:List aa}{args:List AV}{k kp:AV->List aa->Prop}(ce:H[id]?=some (.loop l .ready pe fn T nt ps bP body df))(hlen:args.length=ps.size)(pP:ps.all (·<nt)=true)
  (h:bM H->(∀a∈args,Lt H.length a)->aQ lv P (some l) nt bP ⟨sI ps.toList args T,H⟩ (uq lv P l nt id H.length body k kp)):jo lv P (.fn (.yield l) [] []) H args k kp:=by
 intro E V cv vs hc hd pG;cases hd with
 |fn dN gB h1 h2=>
  rename_i fa ca;have e1:fa=#[]:=by apply VE;simpa using dN
  subst e1;have hlt:∀a∈args,Lt H.length a:=λa ha=>by
   obtain⟨i,hi⟩:=p7 ha;rw[<- hc.n];exact(pG.2 i a hi).lt
  obtain⟨hb,fx,tmps,ho,aY,hT,_⟩:=hc.yW ce;unfold U0;refine az (aq ?_);unfold invoke;dsimp only;unfold Instr.yield WH;refine az (az ?_);unfold getObj;refine ov ho rfl rfl fx (cO ?_);dsimp only;refine aq ?_;have mf:(#[]++vs).size=ps.size:=by simp[pG.1,hlen]
  rw[if_neg (by simp[pG.1,hlen])];refine aq ?_;show nB lv P _ V (ii E V k kp);have hz:=adU (nt:=nt) ps.toList args vs.toList T tmps (by simpa using pG.1) (λi a e=>by
   have:=pG.2 i a e;simpa[SH,SD]using this) (λt ht=>by
    have:=(UJ.1 pP) t (by simpa using ht);simpa using this) aY hT
  have ahf:(ps.zip (#[]++vs)).foldl (λtmps (x:Nat×SQ)=>tmps.setIfInBounds x.1 x.2) tmps=(ps.toList.zip vs.toList).foldl (λtmps (x:Nat×SQ)=>tmps.setIfInBounds x.1 x.2) tmps:=by
   rw[<- Array.foldl_toList,Array.toList_zip];simp
  have ahg:Array.foldl (λtmps x=>match x with|(t,a)=>tmps.setIfInBounds t a) tmps (ps.zip (#[]++vs))=(ps.toList.zip vs.toList).foldl (λtmps (x:Nat×SQ)=>tmps.setIfInBounds x.1 x.2) tmps:=ahf;rw[ahg];refine apN ?_;refine h hc.au hlt E V _ _ ⟨hc,hz.1,hz.2⟩ λae e E' V' a' s' hk aV he hΦ=> ?_;cases ae<;>cases e<;>first
   |exact he.elim
   |exact hΦ.elim
   |skip
  obtain⟨wY,fU,T',jC,gT,gI,fI,gJ,akt,hw⟩:=hΦ;obtain⟨dL,nU,rc,bc,LD,tr,tP⟩:=aV.bu.yW akt;refine⟨_,bc,nU,rfl,?_⟩;refine hw E' _ a' _ ⟨tP .busy wY,aV.tok,aV.size⟩ λae e bW aT cx dw cM dt CH Gu=> ?_;have fin:∀(st':Z7)(Hh:Option Ua)(b:Bool),(∃r st pe fn T nt ps bP body df,dw.H[id]?=some (.loop r st pe fn T nt ps bP body df)/\cK H.length (dw.H.set id (.loop r st' Hh fn T nt ps bP body df)) (.val (.bool b)) k)->
    ∃r,aT.own l=some (.loop r)/\aT.role.chan≠some l/\ii E V k kp (.ret (.bool b)) (aT.upd l (.loop {r with state:=st',pending:=Hh})):=by
   intro st' Hh b ⟨r,st,pe3,fn3,T3,nt3,Nt,asZ,ata,df3,aku,tE⟩;obtain⟨FG,aj0,atW,Lb,atE,hT3,alu⟩:=dt.bu.yW aku;have hlt:id<E.n:=(by rw[hc.n];exact(SM.1 ce).1);have hle:E.Le bW:=hk.le.trans cM.le;have hr:r=l:=(by rw[<- FG,<- hb];exact hle.blk id hlt);subst hr;obtain⟨x,E4,H4,q1,q2,q3,q4⟩:=xI tE (alu st' Hh) (.val _) hle hc.n;exact⟨_,Lb,aj0,x,E4,H4,q1,cM.role.trans hk.role,cM.deaf.trans hk.deaf,q2,q3,q4⟩
  cases ae<;>cases e<;>first
   |exact CH.elim
   |exact fin .ready none true Gu
   |exact fin .done (some .ret) false Gu
   |(have e:_=_:=CH
     subst e;exact fin .done _ false Gu)
   |skip
  obtain⟨v,ajZ,bm⟩:=CH;subst ajZ;obtain⟨x,E4,H4,q1,q2,q3,q4⟩:=xI Gu dt.bu bm (hk.le.trans cM.le) hc.n;refine⟨by rw[cM.defers,hk.defers],x,v,E4,H4,rfl,q1,cM.role.trans hk.role,cM.deaf.trans hk.deaf,q2,q3,q4⟩
def Marks (E:Env)(ms:List Nat)(l:List UW):Prop:=l=ms.map (λi=>({target:=.collected (E.blk i),args:=#[]}:UW))/\∀i∈ms,i<E.n
theorem Marks.mono{E E':Env}(h:E.Le E'){ms:List Nat}{l:List UW}(k:Marks E ms l):Marks E' ms l:=
 ⟨by rw[k.1];exact VB λi hi=>by rw[h.blk i (k.2 i hi)],λi hi=>Tc (k.2 i hi) h.n⟩
def mX (lv:Bool)(P:SJ)(nt:Nat)(c:Ua)(s:AS)(ms:List Nat)(Φ:an->AS->List Nat->Prop):Prop:=
 ∀(E:Env)(V:View)(a:Act)(Q:Ex->Act->View->Prop),At E V s a nt->Marks E ms a.defers->(∀ae e E' V' a' s' cI,rk E E' V V' a a'->At E' V' s' a' nt->Marks E' cI a'.defers->qh E' ae e->Φ ae s' cI->Q e a' V')->WP lv P none c Q a V
variable {s:AS}{ms:List Nat}{nt:Nat}
theorem IC{c:Ua}{Φ:an->AS->List Nat->Prop}(h:aQ lv P none nt c s λe s'=>Φ e s' ms):mX lv P nt c s ms Φ:=λE V a Q ah hd hQ=>
 h E V a Q ah λae e E' V' a' s' hk aV he hΦ=>hQ ae e E' V' a' s' ms hk.d aV (by rw[hk.defers];exact hd.mono hk.le) he hΦ
def an.sE (next:AS->List Nat->Prop)(Φ:an->AS->List Nat->Prop):an->AS->List Nat->Prop
 |.normal,s,ms=>next s ms
 |e,s,ms=>Φ e s ms
theorem ID{x y:Ua}{Φ:an->AS->List Nat->Prop}(h:mX lv P nt x s ms (an.sE (λs' cI=>mX lv P nt y s' cI Φ) Φ)):mX lv P nt (.seq x y) s ms Φ:=by
 intro E V a Q ah hd hQ;refine wp_seq (h E V a _ ah hd λae e E' V' a' s' cI hk aV cG he hΦ=> ?_);cases ae<;>cases e<;>first
  |exact he.elim
  |exact hΦ E' V' a' Q aV cG λae e bW aT cx dw Du aJ dt Ad kG tU=>hQ ae e bW aT cx dw Du (hk.trans aJ) dt Ad kG tU
  |exact hQ _ _ E' V' a' s' cI hk aV cG he hΦ
theorem nI{x y:Ua}{Φ:an->AS->List Nat->Prop}(h:aQ lv P none nt x s (an.then (λs'=>mX lv P nt y s' ms Φ) λe s'=>Φ e s' ms)):mX lv P nt (.seq x y) s ms Φ:=by
 refine ID (IC (h.mono λe s' hs=> ?_));cases e<;>exact hs
def sT (Φ:an->AS->List Nat->Prop)(s:AS)(ms:List Nat):Option Ua->Prop
 |none=>Φ .normal s ms
 |some .ret=>Φ .ret s ms
 |some (.exit i)=>Φ (.exit i) s ms
 |some (.goto i)=>Φ (.goto i) s ms
 |_=>False
theorem afN{f:Th}{ps:Array Tmp}{bP body:Ua}{fv:AV}{Φ:an->AS->List Nat->Prop}(hf:s.ev f=some fv)
  (h:∀l fn:Nat,jo lv P fv (s.H++[.obj (.deferred (some [])),.loop l .ready none fn s.T nt ps bP body s.H.length]) [.fn (.yield l) [] []]
   (λ_ H'=>∃st pe fU T' jC gT gI fI gJ,H'[s.H.length+1]?=some (.loop l st pe fU T' jC gT gI fI gJ)/\st≠ .busy/\sT Φ ⟨s.T,H'.set (s.H.length+1) .gone⟩ (s.H.length::ms) pe)
   (λpv H'=>Φ (.panic pv) ⟨s.T,H'⟩ (s.H.length::ms))):mX lv P nt (.rangeFunc f ps bP body) s ms Φ:=by
 intro E V a Q ah hm hQ;refine adP λfn d l hd hl=> ?_;have hc:=ah.bu;have dA:Conc (E.add d V.ab) (V.upd d (.deferred (some []))) (s.H++[.obj (.deferred (some []))]):=by
  refine hc.add hd _ ⟨?_,rfl,rfl,λo=> ?_⟩ (λb e=> ?_)
  ·rw[Env.dU];simp[View.upd]
  ·rw[Env.dU];exact hd.2 o
  ·simp only[bQ,Env.dU,Tj]at e;exact e.symm
 have CO:E.Le (E.add d V.ab):=E.qT d (λb o v h=>by rw[<- hc.I];exact h);have Cw:(E.add d V.ab).blk s.H.length=d:=by rw[<- hc.n];exact E.dU d _
 let E1:=E.add d V.ab;let V1:=V.upd d (.deferred (some []));have pN:E1.n=s.H.length+1:=by rw[dA.n];simp
 have qG:E1.Le (E1.add l V1.ab):=E1.qT l (λb o v h=>by rw[<- dA.I];exact h);have cU:Conc (E1.add l V1.ab) (V1.upd l (.loop {state:=.ready,pending:=none,fn,tmps:=a.tmps,params:=ps,assign:=bP,body,defers:=d})) ((s.H++[.obj (.deferred (some []))])++[.loop l .ready none fn s.T nt ps bP body s.H.length]):=by
  refine dA.add hl _ ⟨⟨a.tmps,?_,ah.size,(ah.tok.mono CO).mono qG⟩,?_,λo=> ?_,?_⟩ (λb e=> ?_)
  ·have e:(E1.add l V1.ab).blk s.H.length=d:=(by rw[qG.blk s.H.length (by rw[pN];omega)];exact Cw);rw[e,Env.dU];simp[View.upd]
  ·show s.H.length<E1.n+1;omega
  ·rw[Env.dU];exact hl.2 o
  ·exact Env.dU _ _ _
  ·simp only[bQ,Env.dU,Tj]at e;exact e.symm
 have hle:E.Le (E1.add l V1.ab):=CO.trans qG;have cT:(E1.add l V1.ab).blk (s.H.length+1)=l:=by rw[<- pN];exact E1.dU l _
 have Kj:(E1.add l V1.ab).blk s.H.length=d:=by rw[qG.blk s.H.length (by rw[pN];omega)];exact Cw
 rw[SA]at cU;have rU:∀E',(E1.add l V1.ab).Le E'->Marks E' (s.H.length::ms) (mark a d).defers:=λE' hE=>by
  refine Marks.mono hE ⟨?_,λi hi=> ?_⟩
  ·have:=(hm.mono hle).1;simp only[mark,UV,Kj];rw[<- this]
  ·rcases SL.1 hi with rfl|hi
   ·show _<E1.n+1;omega
   ·exact Tc (hm.2 i hi) hle.n
 have bC:=ap.ev ah.tok hf;have CA:=h l fn (E1.add l V1.ab) (V1.upd l (.loop {state:=.ready,pending:=none,fn,tmps:=a.tmps,params:=ps,assign:=bP,body,defers:=d})) (a.eval f) #[.func (.yield l) #[] #[]] cU (bC.mono hle) ⟨rfl,λi x hx=>by
  match i,hx with
  |0,hx=>cases hx;exact .fn rfl rfl (by simp) (by simp)⟩
 have key:∀o V',ii (E1.add l V1.ab) (V1.upd l (.loop {state:=.ready,pending:=none,fn,tmps:=a.tmps,params:=ps,assign:=bP,body,defers:=d}))
   (λ_ H'=>∃st pe fU T' jC gT gI fI gJ,H'[s.H.length+1]?=some (.loop l st pe fU T' jC gT gI fI gJ)/\st≠ .busy/\sT Φ ⟨s.T,H'.set (s.H.length+1) .gone⟩ (s.H.length::ms) pe)
   (λpv H'=>Φ (.panic pv) ⟨s.T,H'⟩ (s.H.length::ms)) o V'->EA l d Q a o V':=by
  intro o V' hr;cases o with
  |ret v=>
   obtain⟨av,E',H',hE,cp,fy,_,bi,st,pe,fU,T',jC,gT,gI,fI,gJ,ce,aR,hp⟩:=hr;obtain⟨dL,nU,rc,bc,LD,tr,tP⟩:=bi.yW ce;refine⟨_,bc,nU,aR,?_⟩;have hg:Conc E' (V'.upd l (.loop {state:=.exhausted,pending:=pe,fn:=fU,tmps:=rc,params:=gT,assign:=gI,body:=fI,defers:=E'.blk gJ})) (H'.set (s.H.length+1) .gone):=bi.DW _ ce _ (by simp only[bQ,dL]);have aV:At E' (V'.upd l (.loop {state:=.exhausted,pending:=pe,fn:=fU,tmps:=rc,params:=gT,assign:=gI,body:=fI,defers:=E'.blk gJ})) ⟨s.T,H'.set (s.H.length+1) .gone⟩ (mark a d) nt:=⟨hg,ah.tok.mono (hle.trans hE),ah.size⟩;have eK:rk E E' V (V'.upd l (.loop {state:=.exhausted,pending:=pe,fn:=fU,tmps:=rc,params:=gT,assign:=gI,body:=fI,defers:=E'.blk gJ})) a (mark a d):=⟨hle.trans hE,rfl,cp,fy⟩;dsimp only
   match pe,hp,aV,eK with
   |none,hp,aV,eK=>exact hQ .normal .normal E' _ _ _ _ eK aV (rU E' hE) trivial hp
   |some .ret,hp,aV,eK=>exact hQ .ret .ret E' _ _ _ _ eK aV (rU E' hE) trivial hp
   |some (.exit i),hp,aV,eK=>exact hQ (.exit i) (.exit i) E' _ _ _ _ eK aV (rU E' hE) rfl hp
   |some (.goto i),hp,aV,eK=>exact hQ (.goto i) (.goto i) E' _ _ _ _ eK aV (rU E' hE) rfl hp
  |panic ch=>
   obtain⟨pv,v,E',H',rfl,hE,cp,fy,bm,bi,hp⟩:=hr;exact hQ (.panic pv) (.panic _) E' V' (mark a d) ⟨s.T,H'⟩ _ ⟨hle.trans hE,rfl,cp,fy⟩ ⟨bi,ah.tok.mono (hle.trans hE),ah.size⟩ (rU E' hE) ⟨v,rfl,bm⟩ hp
 exact CA.mono (λnx V' hn=>Nx.mono key hn) (λv V' hr=>key _ _ hr)
def up (Φ:an->AS->Prop)(s:AS):Option Ua->Prop
 |none=>Φ .normal s
 |some .ret=>Φ .ret s
 |some (.exit i)=>Φ (.exit i) s
 |some (.goto i)=>Φ (.goto i) s
 |_=>False
theorem afD{f:Th}{ps:Array Tmp}{bP body:Ua}{fv:AV}{Φ:an->AS->Prop}{l0 Gw JJ MV df:Nat}{NQ:Z7}{M8:Option Ua}{T0:List (Nat×AV)}{Ns:Array Tmp}{Iw IJ:Ua}(hf:s.ev f=some fv)(h0:s.H[Gw]?=some (.loop l0 NQ M8 JJ T0 MV Ns Iw IJ df))
  (h:∀l fn:Nat,jo lv P fv (s.H++[.loop l .ready none fn s.T nt ps bP body df]) [.fn (.yield l) [] []]
   (λ_ H'=>∃st pe fU T' jC gT gI fI gJ,H'[s.H.length]?=some (.loop l st pe fU T' jC gT gI fI gJ)/\st≠ .busy/\up Φ ⟨s.T,H'.set s.H.length .gone⟩ pe)
   (λpv H'=>Φ (.panic pv) ⟨s.T,H'⟩)):aQ lv P (some l0) nt (.rangeFunc f ps bP body) s Φ:=by
 intro E V a Q ah hQ;have hc:=ah.bu;obtain⟨tx,ajY,atV,ho0,LF,hT0,_⟩:=hc.yW h0;obtain⟨_,bC,_⟩:=hc.obj Gw _ h0;refine asi ho0 ajY λfn l hl=> ?_;have hle:E.Le (E.add l V.ab):=E.qT l (λb o v h=>by rw[<- hc.I];exact h);have cT:(E.add l V.ab).blk s.H.length=l:=by rw[<- hc.n];exact E.dU l _
 have cU:Conc (E.add l V.ab) (V.upd l (.loop {state:=.ready,pending:=none,fn,tmps:=a.tmps,params:=ps,assign:=bP,body,defers:=E.blk df})) (s.H++[.loop l .ready none fn s.T nt ps bP body df]):=by
  refine hc.add hl _ ⟨⟨a.tmps,?_,ah.size,ah.tok.mono hle⟩,?_,λo=> ?_,?_⟩ (λb e=> ?_)
  ·rw[Env.dU,hle.blk df bC];simp[View.upd]
  ·show df<E.n+1;omega
  ·rw[Env.dU];exact hl.2 o
  ·exact Env.dU _ _ _
  ·simp only[bQ,Env.dU,Tj]at e;exact e.symm
 have akh:=ap.ev ah.tok hf;have CA:=h l fn (E.add l V.ab) (V.upd l (.loop {state:=.ready,pending:=none,fn,tmps:=a.tmps,params:=ps,assign:=bP,body,defers:=E.blk df})) (a.eval f) #[.func (.yield l) #[] #[]] cU (akh.mono hle) ⟨rfl,λi x hx=>by
  match i,hx with
  |0,hx=>cases hx;exact .fn rfl rfl (by simp) (by simp)⟩
 have key:∀o V',ii (E.add l V.ab) (V.upd l (.loop {state:=.ready,pending:=none,fn,tmps:=a.tmps,params:=ps,assign:=bP,body,defers:=E.blk df}))
   (λ_ H'=>∃st pe fU T' jC gT gI fI gJ,H'[s.H.length]?=some (.loop l st pe fU T' jC gT gI fI gJ)/\st≠ .busy/\up Φ ⟨s.T,H'.set s.H.length .gone⟩ pe)
   (λpv H'=>Φ (.panic pv) ⟨s.T,H'⟩) o V'->xp l Q a o V':=by
  intro o V' hr;cases o with
  |ret v=>
   obtain⟨av,E',H',hE,cp,fy,_,bi,st,pe,fU,T',jC,gT,gI,fI,gJ,ce,aR,hp⟩:=hr;obtain⟨dL,nU,rc,bc,LD,tr,tP⟩:=bi.yW ce;refine⟨_,bc,nU,aR,?_⟩;have hg:Conc E' (V'.upd l (.loop {state:=.exhausted,pending:=pe,fn:=fU,tmps:=rc,params:=gT,assign:=gI,body:=fI,defers:=E'.blk gJ})) (H'.set s.H.length .gone):=bi.DW _ ce _ (by simp only[bQ,dL]);have aV:At E' (V'.upd l (.loop {state:=.exhausted,pending:=pe,fn:=fU,tmps:=rc,params:=gT,assign:=gI,body:=fI,defers:=E'.blk gJ})) ⟨s.T,H'.set s.H.length .gone⟩ a nt:=⟨hg,ah.tok.mono (hle.trans hE),ah.size⟩;have eK:Kept E E' V (V'.upd l (.loop {state:=.exhausted,pending:=pe,fn:=fU,tmps:=rc,params:=gT,assign:=gI,body:=fI,defers:=E'.blk gJ})) a a:=⟨hle.trans hE,rfl,rfl,cp,fy⟩;dsimp only
   match pe,hp,aV,eK with
   |none,hp,aV,eK=>exact hQ .normal .normal E' _ _ _ eK aV trivial hp
   |some .ret,hp,aV,eK=>exact hQ .ret .ret E' _ _ _ eK aV trivial hp
   |some (.exit i),hp,aV,eK=>exact hQ (.exit i) (.exit i) E' _ _ _ eK aV rfl hp
   |some (.goto i),hp,aV,eK=>exact hQ (.goto i) (.goto i) E' _ _ _ eK aV rfl hp
  |panic ch=>
   obtain⟨pv,v,E',H',rfl,hE,cp,fy,bm,bi,hp⟩:=hr;exact hQ (.panic pv) (.panic _) E' V' a ⟨s.T,H'⟩ ⟨hle.trans hE,rfl,rfl,cp,fy⟩ ⟨bi,ah.tok.mono (hle.trans hE),ah.size⟩ ⟨v,rfl,bm⟩ hp
 exact CA.mono (λnx V' hn=>Nx.mono key hn) (λv V' hr=>key _ _ hr)
def xw (P:SJ)(fn:Yz)(R:Out->View->Prop):List UW->U6->Array SQ->View->Prop
 |[],.returning,tmps,V=>∃v,aO P V (results fn tmps) (λx V'=>x=v/\V'=V) (λ_ _=>False)/\R (.ret v) V
 |[],.panicking ch,_,V=>R (.panic ch) V
 |d::ds,md,tmps,V=>(md matches .run)=false/\∃b,d={target:=.collected b,args:=#[]}/\V.own b=some (.deferred (some []))/\V.role.chan≠some b/\xw P fn R ds md tmps (V.upd b (.deferred none))
 |[],.run,_,_=>False
theorem HM{f:TO}{fn:Yz}{kd:Xa}{R:Out->View->Prop}(hf:P.funcs[f]?=some fn){main:Bool}{J:View->SG->Prop}(C:Closed lv P main J){cs:List Uc}(hR:∀o V' Ca,R o V'->Leaves P Ca f kd o V'->J V' (G Ca cs)):∀(ds:List UW)(md:U6)(V:View)(fr:Uc),fr.fn=f->fr.kind=kd->fr.mode=md->fr.defers=ds->xw P fn R ds md fr.tmps V->J V (G fr cs)
 |[],.returning,V,fr,h1,h2,h3,h4,h=>by
  obtain⟨v,hs,hr⟩:=h;exact hR _ _ _ hr ⟨h1,h4,h2,fn,hf,h3,hs⟩
 |[],.panicking ch,V,fr,h1,h2,h3,h4,h=>hR _ _ _ h ⟨h1,h4,h2,fn,hf,h3⟩
 |[],.run,_,_,_,_,_,_,h=>h.elim
 |d::ds,md,V,fr,h1,h2,h3,h4,h=>by
  obtain⟨hm,b,rfl,ho,fx,hu⟩:=h;refine C.step _ _ rfl λw hw=> ?_;obtain⟨es,w',V',k1,k2,k3⟩:=(NI (P:=P) ho fx).runs hw;rcases k3 with⟨x,k3,rfl,rfl⟩|⟨_,_,hx⟩
  ·refine⟨G {fr with defers:=ds} cs,w',seen P fr.fn es,_,?_,k1.seen P fr.fn,?_⟩
   ·have e:∀main,stepG P main (G fr cs) w=unwind P main fr cs none w:=λmain=>by
     cases md with
     |run=>cases hm
     |returning=>simp[G,stepG,h3]
     |panicking ch=>simp[G,stepG,h3]
    rw[e];simp only[unwind,h4];simp[TA,k3,k2,T5,G]
   ·exact HM hf C hR ds md _ {fr with defers:=ds} h1 h2 h3 rfl hu
  ·exact hx.elim
def adZ (P:SJ)(fn:Yz)(R:Out->View->Prop):Ex->Act->View->Prop
 |.normal,a,V|.ret,a,V=>xw P fn R a.defers .returning a.tmps V
 |.panic ch,a,V=>xw P fn R a.defers (.panicking ch) a.tmps V
 |_,_,_=>False
theorem agl{f:TO}{fn:Yz}{c:Ua}{args:Array SQ}{kd:Xa}{V:View}{R:Out->View->Prop}(hk:kd≠ .early)(hf:P.funcs[f]?=some fn)(hb:fn.body=some c)
  (h:WP lv P none c (adZ P fn R) {tmps:=args++TK (fn.ntmps-args.size) undef,defers:=[]} V):Body lv P f args kd V R:=by
 intro main J C cs hR;let b:Uc:={(default:Uc)with fn:=f,kind:=kd,roundOf:=none};have uO:Frame.enter P f args kd=on b {tmps:=args++TK (fn.ntmps-args.size) undef,defers:=[]} [.code c]:=by
  simp[Frame.enter,on,hf,hb,b]
 rw[uO];refine h main J C b [] cs hk rfl λe a' V' q=> ?_;cases e with
 |normal=>exact C.idle rfl (λw=>DR rfl) (HM hf C hR _ _ _ _ rfl rfl rfl rfl q)
 |ret=>intro k;exact C.idle rfl (λw=>DT rfl) (HM hf C hR _ _ _ _ rfl rfl rfl rfl q)
 |panic ch=>intro todo _;exact HM hf C hR _ _ _ _ rfl rfl rfl rfl q
 |exit id=>exact q.elim
 |goto l=>exact q.elim
def i_:List Nat->List aa->Option (List aa)
 |[],H=>some H
 |i::ms,H=>match H[i]?with
  |some (.obj (.deferred (some [])))=>i_ ms (H.set i .gone)
  |_=>none
def sP (P:SJ)(rs:List UN)(n:Nat)(k kp:AV->List aa->Prop):an->AS->List Nat->Prop
 |.normal,s,ms|.ret,s,ms=>ao (i_ ms s.H) λH'=>ao (iw P ⟨s.T,H'⟩ rs) λl=>cK n H' (jm l) k
 |.panic pv,s,ms=>ao (i_ ms s.H) λH'=>cK n H' pv kp
 |_,_,_=>False
theorem N7{fn:Yz}{R:Out->View->Prop}{tmps:Array SQ}{md:U6}(hm:(md matches .run)=false):∀(ms:List Nat)(H H':List aa)(E:Env)(V:View)(l:List UW),i_ ms H=some H'->Conc E V H->Marks E ms l->(∀V',V'.role=V.role->V'.deaf=V.deaf->Conc E V' H'->xw P fn R [] md tmps V')->xw P fn R l md tmps V
 |[],H,H',E,V,l,hg,hc,rV,hk=>by
  cases hg;have:l=[]:=rV.1;subst this;exact hk V rfl rfl hc
 |i::ms,H,H',E,V,l,hg,hc,rV,hk=>by
  simp only[i_]at hg;split at hg
  ·rename_i hi;obtain⟨e,hlt⟩:=rV;simp only[UV]at e;subst e;obtain⟨p1,p2,p3,p4⟩:=hc.obj i _ hi;exact⟨hm,_,rfl,p1,(hc.jB hi rfl).2,N7 hm ms _ H' E _ _ hg (hc.DW _ hi _ rfl) ⟨rfl,λj hj=>hlt j (by simp[hj])⟩ λV' h1 h2 h3=>hk V' h1 h2 h3⟩
  ·cases hg
theorem Qy{f:TO}{fn:Yz}{c:Ua}{rs:List UN}{nt:Nat}{H:List aa}{args:List AV}{k kp:AV->List aa->Prop}(hf:P.funcs[f]?=some fn)(hb:fn.body=some c)(hr:fn.results=rs.toArray)(hn:fn.ntmps=nt)(cS:args.length<=nt)
  (h:bM H->(∀a∈args,Lt H.length a)->mX lv P nt c ⟨bt 0 args,H⟩ [] (sP P rs H.length k kp)):bk lv P f H args k kp:=by
 intro E V vs hc hd;have hlt:∀a∈args,Lt H.length a:=λa ha=>by
  obtain⟨i,hi⟩:=p7 ha;rw[<- hc.n];exact(hd.2 i a hi).lt
 have ah:=BU (nt:=nt) hc hd cS;refine agl (by simp) hf hb ?_;rw[hn];refine h hc.au hlt E V _ _ ah ⟨rfl,by simp⟩ λae e E' V' a' s' cI hk aV gA he hΦ=> ?_;have fin:sP P rs H.length k kp .ret s' cI->xw P fn (ii E V k kp) a'.defers .returning a'.tmps V':=λhΦ=>by
  obtain⟨H',hg,hΦ⟩:=ao.out hΦ;exact N7 rfl cI _ H' E' V' _ hg aV.bu gA λaT h1 h2 h3=>ace (s':=⟨s'.T,H'⟩) (a':=a') hr ⟨h3,aV.tok,aV.size⟩ hk.le hc.n (h1.trans hk.role) (h2.trans hk.deaf) hΦ
 cases ae<;>cases e<;>first
  |exact he.elim
  |exact fin hΦ
  |exact hΦ.elim
  |skip
 rename_i pv ch;obtain⟨v,fx,bm⟩:∃v,ch=[{v,recovered:=false}]/\ap E' pv v:=he;subst fx;obtain⟨H',hg,hΦ⟩:=ao.out hΦ;refine N7 rfl cI _ H' E' V' _ hg aV.bu gA λaT h1 h2 h3=> ?_;obtain⟨b,bW,ul,r1,r2,r3,r4⟩:=xI hΦ h3 bm hk.le hc.n;exact⟨b,v,bW,ul,rfl,r1,h1.trans hk.role,h2.trans hk.deaf,r2,r3,r4⟩
end
def Env.frame (E:Env)(f:Nat->Option Obj):Env:={E with fr:=f}
theorem ap.frame{E:Env}{a:AV}{v:SQ}(h:ap E a v)(f:Nat->Option Obj):ap (E.frame f) a v:=by
 induction h with
 |val x=>exact .val x
 |agg hs _ ih=>exact .agg hs ih
 |aM hs _ ih=>exact .aM hs ih
 |sl b o cap g hc he h1 _ ih=>exact .sl b o cap g hc (by cases kG:‹End›<;>(subst kG;exact he)) h1 ih
 |nil he=>exact .nil (by cases kG:‹End›<;>(subst kG;exact he))
 |bp hi ec=>exact .bp (E:=E.frame f) hi ec
 |rp b o g h1 _ ih=>exact .rp b o g h1 ih
 |op hi=>exact .op (E:=E.frame f) hi
 |fn dN gB _ _ nj lM=>exact .fn dN gB nj lM
 |dh _ ih=>exact .dh ih
 |mp hi=>exact .mp (E:=E.frame f) hi
theorem cP.frame{E:Env}{l:List AV}{cs:Array SQ}(h:cP E l cs)(f:Nat->Option Obj):cP (E.frame f) l cs:=⟨h.1,λi a e=>(h.2 i a e).frame f⟩
theorem ky.frame{E:Env}{l:List AV}{cs:Array SQ}(h:ky E l cs)(f:Nat->Option Obj):ky (E.frame f) l cs:=⟨h.1,λi a e=>(h.2 i a e).frame f⟩
theorem cw.frame{E:Env}{T:List (Nat×AV)}{tmps:Array SQ}(h:cw E T tmps)(f:Nat->Option Obj):cw (E.frame f) T tmps:=λt a e=>⟨(h t a e).1,(h t a e).2.frame f⟩
theorem vV(E:Env)(f:Nat->Option Obj)(k:Nat)(x:aa):bQ (E.frame f) k x=bQ E k x:=by cases x<;>rfl
theorem gq.frame{E:Env}{V:View}{k:Nat}{x:aa}(h:gq E V k x)(f:Nat->Option Obj):gq (E.frame f) V k x:=by
 cases x with
 |cells l el=>obtain⟨⟨cs,h1,h2⟩,h3⟩:=h;exact⟨⟨cs,h1,h2.frame f⟩,h3⟩
 |part p l el=>obtain⟨⟨cs,h1,h2,h4⟩,h3⟩:=h;exact⟨⟨cs,h1,h2.frame f,h4⟩,h3⟩
 |own sz l el=>obtain⟨⟨cs,h1,h2,h4⟩,h3⟩:=h;exact⟨⟨cs,h1,h2.frame f,h4⟩,h3⟩
 |tail n sz el=>exact h
 |obj x=>exact h
 |iter=>exact h
 |loop=>obtain⟨⟨tmps,h1,h2,h3⟩,h4,h5⟩:=h;exact⟨⟨tmps,h1,h2,h3.frame f⟩,h4,h5⟩
 |gone=>trivial
 |main=>exact h
theorem Conc.yR{E:Env}{V V':View}{H:List aa}(h:Conc E V H)(f:Nat->Option Obj)(hI:V'.ab=V.ab)
  (ho:∀b x k y,H[k]?=some y->bQ E k y=some b->V.own b=some x->V'.own b=some x)
  (hg:∀g,V'.role.group=some g->V'.own g≠none/\(∀o,V'.ab g o=none)/\∀(k:Nat) x,H[k]?=some x->bQ E k x≠some g)
  (hc:∀g,V'.role.chan=some g->V'.own g≠none/\(∀o,V'.ab g o=none)/\∀(k:Nat) x,H[k]?=some x->bQ E k x≠some g)
  (ht:E.main=true->V'.role=.plain/\V'.deaf=0) (hf:∀b y,f b=some y->V'.own b=some y/\(∀o,V'.ab b o=none)/\∀(k:Nat) x,H[k]?=some x->bQ E k x≠some b):Conc (E.frame f) V' H:=by
 have hlt:∀(k:Nat) y,H[k]?=some y->k<E.n:=λk y e=>by rw[h.n];exact(SM.1 e).1
 refine⟨by rw[hI];exact h.I,h.n,λk x e=>gq.frame ((h.obj k x e).mono (Env.Le.refl E) (hlt k x e) rfl (λb y hb hy=>ho b y k x e hb hy) (λb _ o=>by rw[hI])) f,λi j x y b h1 h2 h3 h4=> ?_,λg e=> ?_,λg e=> ?_,ht,λb y e=> ?_⟩
 ·rw[vV]at h3 h4;exact h.inj i j x y b h1 h2 h3 h4
 ·obtain⟨a,b,c⟩:=hg g e;exact⟨a,b,λk x e=>by rw[vV];exact c k x e⟩
 ·obtain⟨a,b,c⟩:=hc g e;exact⟨a,b,λk x e=>by rw[vV];exact c k x e⟩
 ·obtain⟨a,b',c⟩:=hf b y e;exact⟨a,b',λk x e=>by rw[vV];exact c k x e⟩
theorem Conc.Dz{E:Env}{V:View}{H:List aa}(h:Conc E V H){b:Nat}{x:Obj}(hb:E.fr b=some x){k:Nat}{y:aa}(hk:H[k]?=some y){b':Nat}(dL:bQ E k y=some b'):b'≠b:=λe=>by subst e;exact(h.fr _ x hb).2.2 k y hk dL
theorem Conc.aji{E:Env}{V:View}{H:List aa}(h:Conc E V H){b:Nat}{x:Obj}(hb:E.fr b=some x)(y:Obj):Conc (E.frame λb'=>if b'=b then some y else E.fr b') (V.upd b y) H:=by
 obtain⟨p1,p2,p3⟩:=h.fr b x hb;refine h.yR _ rfl (λb' z k w hk kU hz=> ?_) (λg hg=> ?_) (λg hg=> ?_) h.top (λb' z hz=> ?_)
 ·have:b'≠b:=h.Dz hb hk kU;simpa[View.upd,this]using hz
 ·obtain⟨q1,q2,q3⟩:=h.group g hg;refine⟨?_,q2,q3⟩;simp only[View.upd];split
  ·simp
  ·exact q1
 ·obtain⟨q1,q2,q3⟩:=h.chan g hg;refine⟨?_,q2,q3⟩;simp only[View.upd];split
  ·simp
  ·exact q1
 ·by_cases e:b'=b
  ·subst e;rw[if_pos rfl]at hz;cases hz;exact⟨by simp[View.upd],p2,p3⟩
  ·rw[if_neg e]at hz;obtain⟨q1,q2,q3⟩:=h.fr b' z hz;exact⟨by simpa[View.upd,e]using q1,q2,q3⟩
theorem Conc.ajg{E:Env}{V:View}{H:List aa}(h:Conc E V H){b:Nat}(hb:V.fresh b)(y:Obj):Conc (E.frame λb'=>if b'=b then some y else E.fr b') (V.upd b y) H:=by
 have aG:∀(k:Nat) x,H[k]?=some x->bQ E k x≠some b:=λk x hk e=>by
  obtain⟨z,hz⟩:=(h.obj k x hk).BW e;rw[hb.1]at hz;cases hz
 refine h.yR _ rfl (λb' z k w hk kU hz=> ?_) (λg hg=> ?_) (λg hg=> ?_) h.top (λb' z hz=> ?_)
 ·have:b'≠b:=λe=>by subst e;exact aG k w hk kU
  simpa[View.upd,this]using hz
 ·obtain⟨q1,q2,q3⟩:=h.group g hg;refine⟨?_,q2,q3⟩;simp only[View.upd];split
  ·simp
  ·exact q1
 ·obtain⟨q1,q2,q3⟩:=h.chan g hg;refine⟨?_,q2,q3⟩;simp only[View.upd];split
  ·simp
  ·exact q1
 ·by_cases e:b'=b
  ·subst e;rw[if_pos rfl]at hz;cases hz;exact⟨by simp[View.upd],hb.2,aG⟩
  ·rw[if_neg e]at hz;obtain⟨q1,q2,q3⟩:=h.fr b' z hz;exact⟨by simpa[View.upd,e]using q1,q2,q3⟩
theorem Conc.ajh{E:Env}{V:View}{H:List aa}(h:Conc E V H){id:Nat}{l:List AV}{el:TypeId}(hk:H[id]?=some (.cells l el)):∃cs,cP E l cs/\V.own (E.blk id)=some (.cells cs el (0,0))/\(∀o,V.ab (E.blk id) o=none)/\
  Conc (E.frame λb'=>if b'=E.blk id then some (.cells cs el (0,0))else E.fr b') V (H.set id .gone):=by
 obtain⟨⟨cs,h1,h2⟩,h3⟩:=h.obj id _ hk;refine⟨cs,h2,h1,h3,?_⟩;have hg:Conc E V (H.set id .gone):=by
  refine h.iW id .gone (Env.Le.refl E) h.I (by simpa using h.n) lN rfl (λ_ _ _=>rfl) (λb y _ hy=>⟨hy,λ_=>rfl⟩) trivial (λb e=>by cases e)
 have aG:∀(k:Nat) x,(H.set id .gone)[k]?=some x->bQ E k x≠some (E.blk id):=λk x hx e=>by
  rcases lN k x hx with⟨rfl,rfl⟩|⟨aG,hx⟩
  ·cases e
  ·exact aG (h.inj k id x _ _ hx hk e rfl)
 refine hg.yR _ rfl (λ_ _ _ _ _ _ hz=>hz) hg.group hg.chan h.top (λb' z hz=> ?_);by_cases e:b'=E.blk id
 ·subst e;rw[if_pos rfl]at hz;cases hz;exact⟨h1,h3,aG⟩
 ·rw[if_neg e]at hz;exact hg.fr b' z hz
theorem Conc.Hl{E:Env}{V:View}{H:List aa}(h:Conc E V H){id:Nat}{l:List AV}{el:TypeId}(hk:H[id]?=some (.cells l el))(p:Nat)(hp:p<=l.length):∃V',ej V V'/\V'.own=V.own/\V'.role=V.role/\V'.deaf=V.deaf/\E.Le {E with I:=V'.ab}/\Conc {E with I:=V'.ab} V' (H.set id (.part p l el))/\
  ap {E with I:=V'.ab} (.rp (l.take p)) (.pointer (some ⟨E.blk id,0,none⟩)):=by
 obtain⟨⟨cs,h1,h2⟩,h3⟩:=h.obj id _ hk;let V':=V.eX (E.blk id) cs λo=>decide (o<p);have lF:∀b o,b≠E.blk id->V'.ab b o=V.ab b o:=λb o hb=>by simp[V',View.eX,hb]
 have cV:∀o,o<p->V'.ab (E.blk id) o=cs[o]?:=λo ho=>by simp[V',View.eX,ho]
 have akY:∀o,p<=o->V'.ab (E.blk id) o=none:=λo ho=>by simp[V',View.eX,Nat.not_lt.2 ho,h3]
 have hle:E.Le {E with I:=V'.ab}:=⟨λb o v e=>by
  rw[h.I]at e;have hb:b≠E.blk id:=λhb=>by subst hb;rw[h3]at e;cases e
  show V'.ab b o=some v;rw[lF b o hb];exact e,SR _,λ_ _=>rfl,λ_ _=>SR _,λ_ _ _ _=>rfl,rfl,rfl⟩
 refine⟨V',xQ h1 (λo _=>h3 o),rfl,rfl,rfl,hle,?_,?_⟩
 ·refine h.iW (E':={E with I:=V'.ab}) id (.part p l el) hle rfl (by simpa using h.n) lN rfl (λ_ _ _=>rfl) (λb y hb hy=>⟨hy,λo=>lF b o λe=>hb _ hk (by rw[e];rfl)⟩) ⟨⟨cs,h1,(h2.mono hle).p,cV⟩,akY⟩ (λb e=> .inl ⟨_,hk,e⟩)
 ·refine .rp (E.blk id) 0 (λi=>cs.getD i undef) (λi hi=> ?_) λi x hx=> ?_
  ·have cu:i<p:=(by simp at hi;omega);rw[Wr];show V'.ab (E.blk id) i=_;rw[cV i cu];have:i<cs.size:=(by have:=h2.1;omega);simp[SH,SK this]
  ·rw[Ul]at hx;split at hx
   ·exact(h2.2 i x hx).mono hle
   ·cases hx
theorem Conc.amE{E:Env}{V V':View}{H:List aa}(h:Conc E V H)(ho:V'.own=V.own)(lF:∀b o v,V.ab b o=some v->V'.ab b o=some v)(eM:∀b o,V.own b≠none->V.ab b o=none->V'.ab b o=none)
  (hg:V'.role.group=none) (hc:V'.role.chan=none) (ht:E.main=true->V'.role=.plain/\V'.deaf=0):E.Le {E with I:=V'.ab}/\Conc {E with I:=V'.ab} V' H:=by
 have hle:E.Le {E with I:=V'.ab}:=⟨λb o v e=>by rw[h.I]at e;exact lF b o v e,SR _,λ_ _=>rfl,λ_ _=>SR _,λ_ _ _ _=>rfl,rfl,rfl⟩;have hlt:∀(k:Nat) y,H[k]?=some y->k<E.n:=λk y e=>by rw[h.n];exact(SM.1 e).1
 have key:∀b o,V.own b≠none->V'.ab b o=V.ab b o:=λb o hb=>by
  cases e:V.ab b o with
  |none=>exact eM b o hb e
  |some v=>exact lF b o v e
 refine⟨hle,rfl,h.n,λk x e=>(h.obj k x e).mono hle (hlt k x e) rfl (λb y _ hy=>by rw[ho];exact hy) (λb hb o=> ?_),h.inj,λg e=>(by rw[hg]at e;cases e),λg e=>(by rw[hc]at e;cases e),ht,λb y e=> ?_⟩
 ·obtain⟨y,hy⟩:=(h.obj k x e).BW hb;exact key b o (by rw[hy];simp)
 ·obtain⟨q1,q2,q3⟩:=h.fr b y e;exact⟨by rw[ho];exact q1,λo=>by rw[key b o (by rw[q1];simp)];exact q2 o,q3⟩
section
variable {lv:Bool}{P:SJ}{nt id:Nat}{ops:Array Tu}{s:AS}{E:Env}{V:View}{a:Act}{Q:Ex->Act->View->Prop}{K:AS->Prop}
theorem HS(n m:Nat)(hn:ops.size=n+m)(dB:j_ nt ops=true)(ah:At E V s a nt)(h:iL lv P ops (ops.toList.take n) s K (λ_ _=>False))
  (hk:∀E' V' a' s',Kept E E' V V' a a'->At E' V' s' a' nt->K s'->dz lv P none ops Q (Ud n m) a' V'):WP lv P none (.region id ops false) Q a V:=by
 refine wp_region ?_;have hr:SZ ops.size=Ud 0 n++Ud n m:=by
  have:=Y6 (s:=0) (m:=n) (n:=m);rw[Vp,hn,<- this];simp
 rw[hr];refine Bc _ _ _ (G5 (r:=none) (Φ:=λe s'=>match e with
  |.normal=>K s'
  |_=>False) (λo ho d e=>(j_.out dB ho).1 d e) rfl n 0 s (by omega) (by simpa using h) E V a _ ah λae e E' V' a' s' aJ aV he hΦ=> ?_)
 cases ae<;>cases e<;>first
  |exact he.elim
  |exact hΦ.elim
  |exact hk E' V' a' s' aJ aV hΦ
theorem Og{n:Nat}{o:Tu}(ho:ops[n]?=some o)(hg:o.guard=none)(h:vO lv P o a V λa' V'=>Q .normal a' V'):dz lv P none ops Q (Ud n 1) a V:=by
 simp only[List.range'_one,dz,ho];rw[if_pos (by unfold Tg;rw[hg])];exact .inr h
end
section
variable {lv main:Bool}{P:SJ}{J:View->SG->Prop}
theorem adF(C:Closed lv P main J){V:View}{fr:Uc}{cs:List Uc}{g:TO}{ca aE:Array SQ}{ds:List UW}(hd:fr.defers=⟨.fn (.func g) ca,aE⟩::ds)(hm:(fr.mode matches .run)=false)(hg:rf P g=true)
  (h:J V (G (Frame.enter P g (aE++ca) .deferred) ({fr with defers:=ds}::cs))):J V (G fr cs):=by
 refine C.step _ _ rfl λw hw=> ?_;have hs:aO P V (invoke (.fn (.func g) ca) aE) (λnx V'=>nx=.enter g (aE++ca)/\V'=V) (λ_ _=>False):=by
  unfold invoke;exact NE hg ⟨rfl,rfl⟩
 obtain⟨es,w',V',k1,k2,k3⟩:=hs.runs hw;rcases k3 with⟨nx,k3,rfl,rfl⟩|⟨_,_,h⟩
 ·refine⟨G (Frame.enter P g (aE++ca) .deferred) ({fr with defers:=ds}::cs),w',seen P fr.fn es,V',?_,k1.seen P fr.fn,h⟩;have e:stepG P main (G fr cs) w=unwind P main fr cs none w:=by
   obtain⟨fn,tmps,todo,defers,mode,kind,ro⟩:=fr;cases mode with
   |run=>cases hm
   |returning=>simp[G,stepG]
   |panicking ch=>simp[G,stepG]
  rw[e];simp only[unwind,hd];simp[callDeferred,TA,k3,k2,T5,G]
 ·exact h.elim
theorem ahl(C:Closed lv P main J){f:TO}{fn:Yz}{c:Ua}{args:Array SQ}{kd:Xa}{V:View}{cs:List Uc}{Q:Act->View->Prop}(hk:kd≠ .early)(hf:P.funcs[f]?=some fn)(hb:fn.body=some c)
  (h:WP lv P none c (λe a V=>(match e with|.normal|.ret=>True|_=>False)/\Q a V) {tmps:=args++TK (fn.ntmps-args.size) undef,defers:=[]} V)
  (hQ:∀a V todo,Q a V->J V (G {fn:=f,tmps:=a.tmps,todo,defers:=a.defers,mode:=.returning,kind:=kd,roundOf:=none} cs)):J V (G (Frame.enter P f args kd) cs):=by
 let b:Uc:={(default:Uc)with fn:=f,kind:=kd,roundOf:=none};have uO:Frame.enter P f args kd=on b {tmps:=args++TK (fn.ntmps-args.size) undef,defers:=[]} [.code c]:=by
  simp[Frame.enter,on,hf,hb,b]
 rw[uO];refine h main J C b [] cs hk rfl λe a' V' q=> ?_;cases e with
 |normal=>exact C.idle rfl (λw=>DR rfl) (hQ a' V' [] q.2)
 |ret=>intro k;exact C.idle rfl (λw=>DT rfl) (hQ a' V' (.code .ret::k) q.2)
 |panic ch=>exact q.1.elim
 |exit id=>exact q.1.elim
 |goto l=>exact q.1.elim
end
def Env.fH (E:Env)(m:Bool):Env:={E with main:=m}
theorem ap.fH{E:Env}{a:AV}{v:SQ}(h:ap E a v)(m:Bool):ap (E.fH m) a v:=by
 induction h with
 |val x=>exact .val x
 |agg hs _ ih=>exact .agg hs ih
 |aM hs _ ih=>exact .aM hs ih
 |sl b o cap g hc he h1 _ ih=>exact .sl b o cap g hc (by cases kG:‹End›<;>(subst kG;exact he)) h1 ih
 |nil he=>exact .nil (by cases kG:‹End›<;>(subst kG;exact he))
 |bp hi ec=>exact .bp (E:=E.fH m) hi ec
 |rp b o g h1 _ ih=>exact .rp b o g h1 ih
 |op hi=>exact .op (E:=E.fH m) hi
 |fn dN gB _ _ nj lM=>exact .fn dN gB nj lM
 |dh _ ih=>exact .dh ih
 |mp hi=>exact .mp (E:=E.fH m) hi
theorem cP.fH{E:Env}{l:List AV}{cs:Array SQ}(h:cP E l cs)(m:Bool):cP (E.fH m) l cs:=⟨h.1,λi a e=>(h.2 i a e).fH m⟩
theorem ky.fH{E:Env}{l:List AV}{cs:Array SQ}(h:ky E l cs)(m:Bool):ky (E.fH m) l cs:=⟨h.1,λi a e=>(h.2 i a e).fH m⟩
theorem cw.fH{E:Env}{T:List (Nat×AV)}{tmps:Array SQ}(h:cw E T tmps)(m:Bool):cw (E.fH m) T tmps:=λt a e=>⟨(h t a e).1,(h t a e).2.fH m⟩
theorem vW(E:Env)(m:Bool)(k:Nat)(x:aa):bQ (E.fH m) k x=bQ E k x:=by cases x<;>rfl
theorem gq.fH{E:Env}{V:View}{k:Nat}{x:aa}(h:gq E V k x)(m:Bool)(hm:x=.main->m=true):gq (E.fH m) V k x:=by
 cases x with
 |cells l el=>obtain⟨⟨cs,h1,h2⟩,h3⟩:=h;exact⟨⟨cs,h1,h2.fH m⟩,h3⟩
 |part p l el=>obtain⟨⟨cs,h1,h2,h4⟩,h3⟩:=h;exact⟨⟨cs,h1,h2.fH m,h4⟩,h3⟩
 |own sz l el=>obtain⟨⟨cs,h1,h2,h4⟩,h3⟩:=h;exact⟨⟨cs,h1,h2.fH m,h4⟩,h3⟩
 |tail n sz el=>exact h
 |obj x=>exact h
 |iter=>exact h
 |loop=>obtain⟨⟨tmps,h1,h2,h3⟩,h4,h5⟩:=h;exact⟨⟨tmps,h1,h2,h3.fH m⟩,h4,h5⟩
 |gone=>trivial
 |main=>exact hm rfl
def strip:aa->aa
 |.main=> .gone
 |x=>x
theorem uu(E:Env)(k:Nat)(x:aa):bQ E k (strip x)=bQ E k x:=by cases x<;>rfl
theorem Conc.agN{E:Env}{V:View}{H:List aa}(h:Conc E V H):Conc (E.fH false) V (H.map strip):=by
 have get:∀(k:Nat) y,(H.map strip)[k]?=some y->∃x,H[k]?=some x/\strip x=y:=λk y e=>by
  rw[Tn]at e;obtain⟨x,e1,e2⟩:=Tp.1 e;exact⟨x,e1,e2⟩
 refine⟨h.I,by rw[Tm];exact h.n,λk y e=> ?_,λi j x y b h1 h2 h3 h4=> ?_,λg hg=> ?_,λg hg=> ?_,(λe=>by cases e),λb y e=> ?_⟩
 ·obtain⟨x,hx,rfl⟩:=get k y e;have l9:=h.obj k x hx;cases x<;>first
   |exact gq.fH l9 false (λe=>by cases e)
   |exact True.intro
 ·obtain⟨x',hx,rfl⟩:=get i x h1;obtain⟨y',hy,rfl⟩:=get j y h2;rw[vW,uu]at h3 h4;exact h.inj i j x' y' b hx hy h3 h4
 ·obtain⟨a,b,c⟩:=h.group g hg;exact⟨a,b,λk y e=>by obtain⟨x,hx,rfl⟩:=get k y e;rw[vW,uu];exact c k x hx⟩
 ·obtain⟨a,b,c⟩:=h.chan g hg;exact⟨a,b,λk y e=>by obtain⟨x,hx,rfl⟩:=get k y e;rw[vW,uu];exact c k x hx⟩
 ·obtain⟨a,b',c⟩:=h.fr b y e;exact⟨a,b',λk y e=>by obtain⟨x,hx,rfl⟩:=get k y e;rw[vW,uu];exact c k x hx⟩
theorem Conc.apt{E:Env}{V:View}{H:List aa}(h:Conc E V (H.map strip))(m:Bool)(f:Nat->Option Obj)(hm:∀(k:Nat),H[k]?=some aa.main->m=true)(ht:m=true->V.role=.plain/\V.deaf=0)(hf:∀b y,f b=some y->E.fr b=some y):Conc ((E.fH m).frame f) V H:=by
 have get:∀(k:Nat) x,H[k]?=some x->(H.map strip)[k]?=some (strip x):=λk x e=>by rw[Tn,e];rfl
 refine⟨h.I,h.n.trans (by rw[Tm]),λk x e=>gq.frame ?_ f,λi j x y b h1 h2 h3 h4=> ?_,λg hg=> ?_,λg hg=> ?_,ht,λb y e=> ?_⟩
 ·have l9:=h.obj k _ (get k x e);cases x<;>first
   |exact gq.fH l9 m (λe=>by cases e)
   |exact hm k e
 ·rw[vV,vW]at h3 h4;exact h.inj i j _ _ b (get i x h1) (get j y h2) (by rw[uu];exact h3) (by rw[uu];exact h4)
 ·obtain⟨a,b,c⟩:=h.group g hg;exact⟨a,b,λk x e=>by rw[vV,vW,<- uu];exact c k _ (get k x e)⟩
 ·obtain⟨a,b,c⟩:=h.chan g hg;exact⟨a,b,λk x e=>by rw[vV,vW,<- uu];exact c k _ (get k x e)⟩
 ·obtain⟨a,b',c⟩:=h.fr b y (hf b y e);exact⟨a,b',λk x e=>by rw[vV,vW,<- uu];exact c k _ (get k x e)⟩
section
variable {lv:Bool}{P:SJ}{nt id:Nat}{ops:Array Tu}{s:AS}{E:Env}{V:View}{a:Act}{Q:Ex->Act->View->Prop}{N:Act->View->Prop}{o:Tu}
theorem adQ(ho:ops[0]?=some o)(hg:o.guard=none)(h:By lv P none o a V (dz lv P none ops Q (Ud 1 (ops.size-1))) Q):WP lv P none (.region id ops false) Q a V:=by
 refine wp_region ?_;have aY:0<ops.size:=(SU.1 ho).1;have Lu:SZ ops.size=0::Ud 1 (ops.size-1):=by
  rw[Vp];obtain⟨n,hn⟩:∃n,ops.size=n+1:=⟨ops.size-1,by omega⟩;rw[hn,VT];rfl
 rw[Lu];simp only[dz,ho];rw[if_pos (by unfold Tg;rw[hg])];exact h
theorem asl{k n:Nat}(ho:ops[k]?=some o)(hg:o.guard=none)(h:By lv P none o a V (dz lv P none ops Q (Ud (k+1) n)) Q):dz lv P none ops Q (Ud k (n+1)) a V:=by
 rw[VT];simp only[dz,ho];rw[if_pos (by unfold Tg;rw[hg])];exact h
theorem asm{k:Nat}(h:Q .normal a V):dz lv P none ops Q (Ud k 0) a V:=h
theorem Oh{k n:Nat}(s3:AS)(hk:k+n=ops.size)(dB:j_ nt ops=true)(ah:At E V s a nt)(h:iL lv P ops (ops.toList.drop k) s (λs'=>s'.Sub s3) (λ_ _=>False))(hQ:∀E' V' a',Kept E E' V V' a a'->At E' V' s3 a' nt->Q .normal a' V'):dz lv P none ops Q (Ud k n) a V:=by
 refine AP (r:=none) (Φ:=λe s'=>match e with
  |.normal=>s'.Sub s3
  |_=>False) (λo ho d e=>(j_.out dB ho).1 d e) (λ_ _=> .inl rfl) n k s hk h E V a Q ah λae e E' V' a' s' aJ aV he hΦ=> ?_
 cases ae<;>cases e<;>first
  |exact he.elim
  |exact hΦ.elim
  |exact hQ E' V' a' aJ (aV.sub hΦ)
theorem an0{c:Xn}{f:TO}(ay:o.op=.call c)(aZ:c.callee=.value (.func f))(hf:rf P f=true)(h:Body lv P f (c.args.map a.eval) .normal V (fun
  |.ret v,V'=>N (a.put o.dst v) V'
  |.panic _,_=>False)):By lv P none o a V N Q:=by
 refine .inl ⟨.inl rfl,?_⟩;unfold execOp;rw[ay];dsimp only;unfold resolve;rw[aZ];dsimp only;have e:a.eval (.func f)=.func (.func f) #[] #[]:=rfl;rw[e];unfold U0;refine az (aq ?_);unfold invoke;dsimp only;refine NE hf ?_;have e2:#[]++c.args.map a.eval++#[]=c.args.map a.eval:=by simp
 rw[e2];exact h.mono λo V' hx=>by
  cases o with
  |ret v=>exact hx
  |panic ch=>exact hx.elim
theorem an1{t el:TypeId}{d:ChanDir}{i:Wj}(ay:o.op=.makeChan t (.const (.int .i64 0)))(h1:P.underlying t=some (.chan d el))(h2:P.info? el=some i)(h:∀c,V.fresh c->N (a.put o.dst (.chan (some c))) (V.upd c (.chan 0 #[] false 0 0 false))):By lv P none o a V N Q:=by
 refine .inl ⟨.inl rfl,?_⟩;unfold execOp;rw[ay];dsimp only;have e:a.eval (.const (.int .i64 0))=.int .i64 0:=rfl;rw[e];unfold Instr.makeChan;refine az (az ?_);unfold asInt;refine aq ?_;refine eD h1 ?_;dsimp only;refine yV h2 ?_;rw[if_neg (by simp[IntKind.max,ats,as'])];refine az ?_;unfold newObj;exact o0 λc hf=>cO (aq (aq (h c hf)))
end
theorem asj{lv:Bool}{P:SJ}{r:Option Nat}{code:Ua}{Q:Ex->Act->View->Prop}{a:Act}{V:View}{c Wg:Nat}(tJ:lv=true)(hr:V.role=.plain)(aG:c≠Wg)(hc:V.own c=some (.chan 0 #[] false 0 0 false)) (hW:V.own Wg≠none) (oM:∀o,V.ab Wg o=none)
  (h:WP lv P r code Q a {V with role:=.fork c Wg []}):WP lv P r code Q a V:=λmain J C b k cs hb cp hL=>
 (C.more tJ).start _ _ c Wg hr aG hc hW oM (h main J C b k cs hb cp hL)
structure Env.Lo (E E':Env):Prop where
 I:∀b o v,E.I b o=some v->E'.I b o=some v
 n:E.n<=E'.n
 blk:∀k,k<E.n->E'.blk k=E.blk k
 fQ:∀k,k<E.n->E.fQ k<=E'.fQ k
 room:∀k v,k<E.n->v<=E.fQ k->E'.room k v=E.room k v
theorem Env.Le.lo{E E':Env}(h:E.Le E'):E.Lo E':=⟨h.I,h.n,h.blk,h.fQ,h.room⟩
theorem Env.Lo.refl(E:Env):E.Lo E:=(Env.Le.refl E).lo
theorem Env.Lo.trans{E E' bW:Env}(h:E.Lo E')(k:E'.Lo bW):E.Lo bW:=
 ⟨λb o v e=>k.I b o v (h.I b o v e),UL h.n k.n,λi hi=>(k.blk i (Tc hi h.n)).trans (h.blk i hi),λi hi=>UL (h.fQ i hi) (k.fQ i (Tc hi h.n)),
  λi v hi hv=>(k.room i v (Tc hi h.n) (UL hv (h.fQ i hi))).trans (h.room i v hi hv)⟩
theorem Env.Lo.le{E E':Env}(h:E.Lo E'):E.Le ((E'.fH E.main).frame E.fr):=⟨h.I,h.n,h.blk,h.fQ,h.room,rfl,rfl⟩
theorem ap.lo{E E':Env}(h:E.Lo E'){a:AV}{v:SQ}(d:ap E a v):ap E' a v:=by
 have:=((d.mono h.le).fH E'.main).frame E'.fr;exact this
theorem Env.GK(E:Env)(f:Nat->Option Obj):E.Lo (E.frame f):=⟨λ_ _ _ h=>h,SR _,λ_ _=>rfl,λ_ _=>SR _,λ_ _ _ _=>rfl⟩
theorem Env.amW(E:Env)(m:Bool):E.Lo (E.fH m):=⟨λ_ _ _ h=>h,SR _,λ_ _=>rfl,λ_ _=>SR _,λ_ _ _ _=>rfl⟩
theorem Env.Lo.cut{E E':Env}(h:E.Lo E'){n:Nat}(hn:E.n<=n):E.Lo {E' with n:=n}:=⟨h.I,hn,h.blk,h.fQ,h.room⟩
def Env.bare (E:Env):Env:=((({E with n:=0}:Env).fH false).frame λ_=>none)
theorem ap.bare{E:Env}{a:AV}{v:SQ}(h:ap E a v)(hl:Lt 0 a):ap E.bare a v:=((h.trim hl).fH false).frame _
theorem agD{E:Env}{I:cE}{ro:nA}(hI:E.I=I)(hg:ro.group=none)(hc:ro.chan=none):Conc E.bare {ab:=I,own:=λ_=>none,deaf:=0,role:=ro} []:=
 ⟨hI,rfl,λk x e=>(by cases e),λi j x y b h1=>(by cases h1),λg e=>(by rw[hg]at e;cases e),λg e=>(by rw[hc]at e;cases e),λe=>(by cases e),λb y e=>(by cases e)⟩
theorem At.ar9{E:Env}{V:View}{s:AS}{a:Act}{nt t id off:Nat}(h:At E V s a nt)(hl:look s.T t=some (.op id off)):a.eval (.tmp t)=.pointer (some ⟨E.blk id,off,none⟩):=by
 have hd:=(h.tok t _ hl).2;show a.tmps.getD t undef=_;generalize a.tmps.getD t undef=v at hd;cases hd;rfl
section
variable {lv:Bool}{P:SJ}{s:AS}{ms:List Nat}{nt:Nat}
def an.qt (id:Nat)(Φ:an->AS->List Nat->Prop):an->AS->List Nat->Prop
 |.exit i,s,ms=>if i=id then Φ .normal s ms else Φ (.exit i) s ms
 |e,s,ms=>Φ e s ms
theorem afM{id:Nat}{c:Ua}{Φ:an->AS->List Nat->Prop}(h:mX lv P nt c s ms (an.qt id Φ)):mX lv P nt (.block id c) s ms Φ:=by
 intro E V a Q ah hd hQ;refine wp_block (h E V a _ ah hd λae e E' V' a' s' cI hk aV cG he hΦ=> ?_);cases ae<;>cases e<;>first
  |exact he.elim
  |skip
 ·exact hQ .normal .normal E' V' a' s' cI hk aV cG trivial hΦ
 ·rename_i i j;have e:i=j:=he;subst e;by_cases ce:i=id
  ·simp only[Ex.inBlock,ce,if_true];simp only[an.qt,ce,if_true]at hΦ;exact hQ .normal _ E' V' a' s' cI hk aV cG trivial hΦ
  ·simp only[Ex.inBlock,ce,if_false];simp only[an.qt,ce,if_false]at hΦ;exact hQ (.exit i) _ E' V' a' s' cI hk aV cG rfl hΦ
 ·exact hQ _ _ E' V' a' s' cI hk aV cG he hΦ
 ·exact hQ _ _ E' V' a' s' cI hk aV cG he hΦ
 ·exact hQ _ _ E' V' a' s' cI hk aV cG he hΦ
def an.vD (Φ:an->AS->List Nat->Prop):an->AS->List Nat->Prop
 |.goto _,_,_=>False
 |e,s,ms=>Φ e s ms
theorem afP{c:Ua}{Φ:an->AS->List Nat->Prop}(h:mX lv P nt c s ms (an.vD Φ)):mX lv P nt (.scope c) s ms Φ:=by
 intro E V a Q ah hd hQ;refine adR (λ_ _ _ _=>False) ⟨0,h E V a _ ah hd λae e E' V' a' s' cI hk aV cG he hΦ=> ?_⟩ λ_ _ _ _ _ _ hf=>hf.elim;cases ae<;>cases e<;>first
  |exact he.elim
  |exact hΦ.elim
  |exact hQ _ _ E' V' a' s' cI hk aV cG he hΦ
theorem af8(id:Nat)(Φ:an->AS->List Nat->Prop)(s:AS)(ms:List Nat):an.qt id Φ .normal s ms=Φ .normal s ms:=by rw[an.qt];simp
theorem aqQ(Φ:an->AS->List Nat->Prop)(s:AS)(ms:List Nat):an.vD Φ .normal s ms=Φ .normal s ms:=by rw[an.vD];simp
theorem aqS(Φ:an->AS->List Nat->Prop)(s:AS)(ms:List Nat):an.vD Φ .ret s ms=Φ .ret s ms:=by rw[an.vD];simp
theorem arw(K:AS->List Nat->Prop)(Φ:an->AS->List Nat->Prop)(s:AS)(ms:List Nat):an.sE K Φ .normal s ms=K s ms:=by rw[an.sE]
theorem ary(K:AS->List Nat->Prop)(Φ:an->AS->List Nat->Prop)(s:AS)(ms:List Nat):an.sE K Φ .ret s ms=Φ .ret s ms:=by rw[an.sE];simp
@[congr] theorem as5 {c : Ua} {s s' : AS} {ms cI : List Nat} {Φ : an -> AS -> List Nat -> Prop} (h : s = s') (hd : ms = cI) : mX lv P nt c s ms Φ = mX lv P nt c s' cI Φ := by rw [h, hd]
@[congr] theorem atT {K : AS -> List Nat -> Prop} {Φ : an -> AS -> List Nat -> Prop} {e e' : an} {s s' : AS} {ms cI : List Nat} (he : e = e') (h : s = s') (hd : ms = cI) : an.sE K Φ e s ms = an.sE K Φ e' s' cI := by rw [he, h, hd]
@[congr] theorem atP {Φ : an -> AS -> List Nat -> Prop} {e e' : an} {s s' : AS} {ms cI : List Nat} (he : e = e') (h : s = s') (hd : ms = cI) : an.vD Φ e s ms = an.vD Φ e' s' cI := by rw [he, h, hd]
@[congr] theorem atj {rs : List UN} {n : Nat} {k kp : AV -> List aa -> Prop} {e e' : an} {s s' : AS} {ms cI : List Nat} (he : e = e') (h : s = s') (hd : ms = cI) : sP P rs n k kp e s ms = sP P rs n k kp e' s' cI := by rw [he, h, hd]
theorem ai7(rs:List UN)(n:Nat)(k kp:AV->List aa->Prop)(s:AS)(ms:List Nat):sP P rs n k kp .ret s ms=ao (i_ ms s.H) λH'=>ao (iw P ⟨s.T,H'⟩ rs) λl=>cK n H' (jm l) k:=by rw[sP]
theorem zS(H:List aa):i_ [] H=some H:=by rw[i_]
theorem zQ{i:Nat}{ms:List Nat}{H:List aa}(h:H[i]?=some (.obj (.deferred (some [])))):i_ (i::ms) H=i_ ms (H.set i .gone):=by rw[i_];rw[h]
attribute [seval] af8 aqQ aqS arw ary ai7 zS
end
section
variable {lv:Bool}{P:SJ}{r:Option Nat}{s:AS}
theorem PN{E:Env}{I:cE}(hI:∀b o v,E.I b o=some v->I b o=some v){n:Nat}{l:List AV}{v:SQ}(h:ap E (.sl n l .exact) v):∃a,ap (E.tok I (a,n) n) (.sl n l (.opn E.n)) v:=by
 cases h with
 |sl b o cap f ec he q1 q2=>
  have FJ:cap=n:=he;subst FJ;refine⟨some ⟨b,o,none⟩,?_⟩;have hle:=E.Mw (I:=I) hI (some ⟨b,o,none⟩,cap) cap;exact .sl b o cap f ec ⟨by simp[Env.tok],by simp[Env.tok],by simp[Env.tok]⟩ (λi hi=>hle.I _ _ _ (q1 i hi)) (λi x hx=>(q2 i x hx).mono hle)
 |nil he=>exact⟨_,.nil ⟨by simp[Env.tok],by simp[Env.tok],by simp[Env.tok];rfl⟩⟩
theorem vU{nt t n sz:Nat}{c:Ua}{l:List AV}{el:TypeId}{Φ:an->AS->Prop}(ht:look s.T t=some (.sl n l .exact))(h:aQ lv P r nt c ⟨(t,.sl n l (.opn s.H.length))::s.T,s.H++[.tail n sz el]⟩ Φ):aQ lv P r nt c s Φ:=λE V a Q ah hQ=>by
 obtain⟨hlt,hd⟩:=ah.tok t _ ht;obtain⟨ad,cG⟩:=PN (I:=V.ab) (λb o v h=>by rw[<- ah.bu.I];exact h) hd;obtain⟨hc,hle⟩:=ah.bu.N1 (n:=n) sz el ad;refine h _ V a Q ⟨hc,λt' x hx=> ?_,ah.size⟩ λae e E' V' a' s' hk=>hQ ae e E' V' a' s' ((⟨hle,rfl,rfl,rfl,rfl⟩:Kept E _ V V a a).trans hk);simp only[look]at hx;split at hx
 ·rename_i e;subst e;cases hx;rw[<- ah.bu.n];exact⟨hlt,cG⟩
 ·exact⟨(ah.tok t' x hx).1,(ah.tok t' x hx).2.mono hle⟩
theorem PO{E:Env}{l:List AV}{cs:Array SQ}{j:Nat}{a b:AV}(h:cP E l cs)(hj:l[j]?=some a)(hb:∀v,ap E a v->ap E b v):cP E (l.set j b) cs:=by
 refine⟨by rw[TE];exact h.1,λi x hx=> ?_⟩;by_cases e:i=j
 ·subst e;rw[W5 (SM.1 hj).1]at hx;cases hx;exact hb _ (h.2 i a hj)
 ·rw[T7 (Ne.symm e)]at hx;exact h.2 i x hx
theorem afI{nt id j n sz:Nat}{c:Ua}{l l':List AV}{el ij:TypeId}{Φ:an->AS->Prop}(ce:s.H[id]?=some (.cells l el))(hj:l[j]?=some (.sl n l' .exact))(h:aQ lv P r nt c ⟨s.T,s.H.set id (.cells (l.set j (.sl n l' (.opn s.H.length))) el)++[aa.tail n sz ij]⟩ Φ):aQ lv P r nt c s Φ:=λE V a Q ah hQ=>by
 have hc:=ah.bu;obtain⟨⟨cs,eM,hd⟩,lF⟩:=hc.obj id _ ce;obtain⟨ad,cG⟩:=PN (I:=V.ab) (λb o v h=>by rw[<- hc.I];exact h) (hd.2 j _ hj);obtain⟨bi,hle⟩:=hc.N1 (n:=n) sz ij ad;have hlt:=(SM.1 ce).1;have hn:(E.tok V.ab (ad,n) n).n=s.H.length+1:=by simp[Env.tok,hc.n]
 have e:s.H.set id (.cells (l.set j (.sl n l' (.opn s.H.length))) el)++[aa.tail n sz ij]=(s.H++[aa.tail n sz ij]).set id (.cells (l.set j (.sl n l' (.opn s.H.length))) el):=(U2 _ _ hlt).symm;rw[e]at h;have FN:cP (E.tok V.ab (ad,n) n) (l.set j (.sl n l' (.opn s.H.length))) cs:=by
  have h0:=hd.mono hle;refine⟨by rw[TE];exact h0.1,λi x hx=> ?_⟩;by_cases ei:i=j
  ·subst ei;rw[W5 (SM.1 hj).1]at hx;cases hx;rw[<- hc.n];exact cG
  ·rw[T7 (Ne.symm ei)]at hx;exact h0.2 i x hx
 have hb:(E.tok V.ab (ad,n) n).blk id=E.blk id:=hle.blk id (by rw[hc.n];exact hlt);have cU:Conc (E.tok V.ab (ad,n) n) V ((s.H++[aa.tail n sz ij]).set id (.cells (l.set j (.sl n l' (.opn s.H.length))) el)):=by
  have dg:(s.H++[aa.tail n sz ij])[id]?=some (.cells l el):=by rw[SY hlt];exact ce
  refine bi.iW id _ (Env.Le.refl _) bi.I (by rw[bi.n,TE]) lN rfl (λ_ _ _=>rfl) (λb y _ hy=>⟨hy,λ_=>rfl⟩) ⟨⟨cs,by rw[hb];exact eM,FN⟩,λo=>by rw[hb];exact lF o⟩ (λb dL=> .inl ⟨_,dg,dL⟩)
 refine h _ V a Q ⟨cU,ah.tok.mono hle,ah.size⟩ λae e E' V' a' s' hk=>hQ ae e E' V' a' s' ((⟨hle,rfl,rfl,rfl,rfl⟩:Kept E _ V V a a).trans hk)
theorem afK{nt id j:Nat}{c:Ua}{l:List AV}{x y:AV}{el:TypeId}{Φ:an->AS->Prop}(ce:s.H[id]?=some (.cells l el))(hj:l[j]?=some x)(hw:Wk x y)(h:aQ lv P r nt c ⟨s.T,s.H.set id (.cells (l.set j y) el)⟩ Φ):aQ lv P r nt c s Φ:=λE V a Q ah hQ=>by
 have hc:=ah.bu;obtain⟨⟨cs,eM,hd⟩,lF⟩:=hc.obj id _ ce;have cU:Conc E V (s.H.set id (.cells (l.set j y) el)):=
  hc.iW id _ (Env.Le.refl _) hc.I (by rw[hc.n,TE]) lN rfl (λ_ _ _=>rfl) (λb y _ hy=>⟨hy,λ_=>rfl⟩) ⟨⟨cs,eM,PO hd hj (hw E)⟩,lF⟩ (λb dL=> .inl ⟨_,ce,dL⟩)
 exact h E V a Q ⟨cU,ah.tok,ah.size⟩ hQ
end
structure xn (X Y Z:Prop):Type where
 n:Nat
def UG (a:AV)(cj:Bool)(X Y Z:Prop)(_t:xn X Y Z):Prop:=(∃b,a=.val (.bool b)/\(b=cj->X)/\(b= !cj->Y))\/(a=.val undef/\Z)
theorem HL{b cj:Bool}{X Y Z:Prop}{t:xn X Y Z}:UG (.val (.bool b)) cj X Y Z t=((b=cj->X)/\(b= !cj->Y)):=by
 unfold UG;refine propext ⟨λh=> ?_,λh=> .inl ⟨b,rfl,h⟩⟩;rcases h with⟨b',e,h⟩|⟨e,_⟩
 ·cases e;exact h
 ·cases e
theorem ar3(X Y Z:Prop)(t:xn X Y Z):UG (.val (.bool true)) true X Y Z t=X:=by rw[HL];simp
theorem ar2(X Y Z:Prop)(t:xn X Y Z):UG (.val (.bool true)) false X Y Z t=Y:=by rw[HL];simp
theorem ar1(X Y Z:Prop)(t:xn X Y Z):UG (.val (.bool false)) true X Y Z t=Y:=by rw[HL];simp
theorem ar0(X Y Z:Prop)(t:xn X Y Z):UG (.val (.bool false)) false X Y Z t=X:=by rw[HL];simp
theorem ar4(cj:Bool)(X Y Z:Prop)(t:xn X Y Z):UG (.val undef) cj X Y Z t=Z:=by
 unfold UG;refine propext ⟨λh=> ?_,λh=> .inr ⟨rfl,h⟩⟩;rcases h with⟨b',e,_⟩|⟨_,h⟩
 ·cases e
 ·exact h
section
variable (lv:Bool)(P:SJ)
def oC (all:Array Tu):List Tu->AS->(AS->Prop)->(AV->AS->Prop)->Prop
 |[],s,next,_=>next s
 |o::rest,s,next,bad=>match o.guard with
  |none=>mW lv P s o (λs'=>oC all rest s' next bad) bad
  |some (j,cj)=>ao ((all[j]?).bind (·.dst)) λd=>ao (look s.T d) λa=>UG a cj (mW lv P ⟨(d,.val (.bool cj))::s.T,s.H⟩ o (λs'=>oC all rest s' next bad) bad) (oC all rest ((⟨(d,.val (.bool !cj))::s.T,s.H⟩:AS).put o.dst (.val undef)) next bad) (oC all rest (s.put o.dst (.val undef)) next bad) ⟨0⟩
end
theorem arZ:type_of% @oC.eq_1:=by intros;rw[oC.eq_1]
theorem arY:type_of% @oC.eq_2:=by intros;rw[oC.eq_2]
@[congr] theorem atX {lv : Bool} {P : SJ} {s s' : AS} {all : Array Tu} {l : List Tu} {next : AS -> Prop} {bad : AV -> AS -> Prop} (h : s = s') : oC lv P all l s next bad = oC lv P all l s' next bad := by rw [h]
attribute [seval] arZ arY ar3 ar2 ar1 ar0 ar4
section
variable {lv:Bool}{P:SJ}{r:Option Nat}{s:AS}
theorem HN{nt:Nat}{all:Array Tu}{Φ:an->AS->Prop}(dB:∀o∈all,∀d,o.dst=some d->d<nt)(nV:∀o∈all,r=none\/mL o.op=false):∀(n k:Nat)(s:AS),k+n=all.size->oC lv P all (all.toList.drop k) s (Φ .normal) (λpv s=>Φ (.panic pv) s)->
  ∀(E:Env)(V:View)(a:Act)(Q:Ex->Act->View->Prop),At E V s a nt->(∀ae e E' V' a' s',Kept E E' V V' a a'->At E' V' s' a' nt->qh E' ae e->Φ ae s'->Q e a' V')->dz lv P r all Q (Ud k n) a V
 |0,k,s,hk,h,E,V,a,Q,ah,hQ=>by
  have:all.toList.drop k=[]:=by simp;omega
  rw[this]at h;exact hQ .normal .normal E V a s (Kept.refl E V a) ah trivial h
 |n+1,k,s,hk,h,E,V,a,Q,ah,hQ=>by
  have hlt:k<all.size:=by omega
  have hd:all.toList.drop k=all[k]::all.toList.drop (k+1):=by
   rw[TR (by simpa using hlt)];simp
  rw[hd]at h;have fZ:all[k]∈all:=XS hlt;have ho:all[k]?=some all[k]:=SK hlt;simp only[VT,dz,ho];have go:∀s:AS,At E V s a nt->mW lv P s all[k] (λs'=>oC lv P all (all.toList.drop (k+1)) s' (Φ .normal) (λpv s=>Φ (.panic pv) s)) (λpv s=>Φ (.panic pv) s)->xo lv P r all[k] a V (dz lv P r all Q (Ud (k+1) n)) Q:=λs ah h=>by
   refine h.sound (lv:=lv) (r:=r) E V a _ Q ah.bu ah.tok (λd e=>by rw[ah.size];exact dB _ fZ d e) (nV _ fZ) (λE' V' a' s' aJ bi mJ hn=> ?_) (λE' V' s' pv v aJ bi mJ bm hb=> ?_)
   ·exact HN dB nV n (k+1) s' (by omega) hn E' V' a' Q ⟨bi,mJ,aJ.size.trans ah.size⟩ (λae e bW aT cx dw gz dt he hΦ=>hQ ae e bW aT cx dw (aJ.trans gz) dt he hΦ)
   ·exact hQ (.panic pv) (.panic _) E' V' a s' aJ ⟨bi,mJ,ah.size⟩ ⟨v,rfl,bm⟩ hb
  simp only[oC]at h;split at h
  ·rename_i hg;have hw:Tg all[k] (yielded all a.tmps)=true:=(by unfold Tg;rw[hg]);rw[if_pos hw];exact .inl (go s ah h)
  ·rename_i j cj hg;obtain⟨d,bY,h⟩:=h.out;obtain⟨av,h1,h⟩:=h.out;rcases h with⟨b,rfl,h2,h3⟩|⟨rfl,h3⟩
   case inr=>
    have hv:=(ah.tok d _ h1).2;have hy:yielded all a.tmps j≠some cj:=by
     obtain⟨oj,k_,jw⟩:=Te.1 bY;generalize hx:a.tmps.getD d undef=x at hv;cases hv;have mG:d<a.tmps.size:=(ah.tok d _ h1).1;rw[SH,SK mG]at hx;simp only[S7]at hx;simp[yielded,k_,jw,SK mG,hx,undef]
    have hw:¬Tg all[k] (yielded all a.tmps)=true:=by
     unfold Tg;rw[hg];intro h;exact hy (by simpa using h)
    rw[if_neg hw];exact HN dB nV n (k+1) (s.put all[k].dst (.val undef)) (by omega) h3 E V (a.put all[k].dst undef) Q
     ⟨by rw[fG];exact ah.bu,ah.tok.iu (λd e=>by rw[ah.size];exact dB _ fZ d e) (.val undef),by rw[ey];exact ah.size⟩
     (λae e bW aT cx dw gz dt he hΦ=>hQ ae e bW aT cx dw ⟨gz.le,gz.size.trans (ey _ _ _),gz.defers.trans (put_defers _ _ _),gz.role,gz.deaf⟩ dt he hΦ)
   have hv:=(ah.tok d _ h1).2;have hy:yielded all a.tmps j=some b:=by
    obtain⟨oj,k_,jw⟩:=Te.1 bY;generalize hx:a.tmps.getD d undef=x at hv;cases hv;have mG:d<a.tmps.size:=(ah.tok d _ h1).1;rw[SH,SK mG]at hx;simp only[S7]at hx;simp[yielded,k_,jw,SK mG,hx]
   have sk:∀b',b=b'->At E V ⟨(d,.val (.bool b'))::s.T,s.H⟩ a nt:=λb' dL=>by
    subst dL;refine⟨ah.bu,λt x e=> ?_,ah.size⟩;simp only[look]at e;split at e
    ·rename_i e';subst e';cases e;exact ah.tok d _ h1
    ·exact ah.tok t x e
   by_cases hb:b=cj
   ·have hw:Tg all[k] (yielded all a.tmps)=true:=(by unfold Tg;rw[hg];simp[hy,hb]);rw[if_pos hw];exact .inl (go _ (sk cj hb) (h2 hb))
   ·have hw:¬Tg all[k] (yielded all a.tmps)=true:=(by unfold Tg;rw[hg];simp[hy,hb]);rw[if_neg hw];have dL:b= !cj:=(by cases b<;>cases cj<;>simp_all);have v9:=h3 dL;have ah:=sk _ dL;exact HN dB nV n (k+1) ((⟨(d,.val (.bool !cj))::s.T,s.H⟩:AS).put all[k].dst (.val undef)) (by omega) v9 E V (a.put all[k].dst undef) Q
     ⟨by rw[fG];exact ah.bu,ah.tok.iu (λd e=>by rw[ah.size];exact dB _ fZ d e) (.val undef),by rw[ey];exact ah.size⟩
     (λae e bW aT cx dw gz dt he hΦ=>hQ ae e bW aT cx dw ⟨gz.le,gz.size.trans (ey _ _ _),gz.defers.trans (put_defers _ _ _),gz.role,gz.deaf⟩ dt he hΦ)
theorem afF{nt id:Nat}{ops:Array Tu}{Φ:an->AS->Prop}(hd:j_ nt ops=true)(h:oC lv P ops ops.toList s (Φ .normal) (λpv s=>Φ (.panic pv) s)):aQ lv P r nt (.region id ops false) s Φ:=by
 intro E V a Q ah hQ;refine wp_region ?_;rw[Vp];exact HN (Φ:=Φ) (λo ho d e=>(j_.out hd ho).1 d e) (λo ho=> .inr (j_.out hd ho).2) ops.size 0 s (by omega) (by simpa using h) E V a Q ah hQ
end
section
variable (lv:Bool)(P:SJ)
def sU (all:Array Tu):List Tu->AS->(AS->Prop)->Prop
 |[],s,K=>K s
 |o::rest,s,K=>match o.guard with
  |none=>AQ lv P s o λav=>sU all rest (s.put o.dst av) K
  |some (j,cj)=>ao ((all[j]?).bind (·.dst)) λd=>ao (look s.T d) λa=>UG a cj (AQ lv P ⟨(d,.val (.bool cj))::s.T,s.H⟩ o λav=>sU all rest ((⟨(d,.val (.bool cj))::s.T,s.H⟩:AS).put o.dst av) K) (sU all rest ((⟨(d,.val (.bool !cj))::s.T,s.H⟩:AS).put o.dst (.val undef)) K) (sU all rest (s.put o.dst (.val undef)) K) ⟨0⟩
end
theorem apm:type_of% @sU.eq_1:=by intros;rw[sU.eq_1]
theorem apl:type_of% @sU.eq_2:=by intros;rw[sU.eq_2]
@[congr] theorem atN {lv : Bool} {P : SJ} {s s' : AS} {all : Array Tu} {l l' : List Tu} {K : AS -> Prop} (hl : l = l') (h : s = s') : sU lv P all l s K = sU lv P all l' s' K := by rw [hl, h]
attribute [seval] apm apl
section
variable {lv:Bool}{P:SJ}{r:Option Nat}{s:AS}{ops:Array Tu}{nt p:Nat}
end
section
variable {P:SJ}
def Er (P:SJ)(d:Nat)(t:TypeId):Prop:=(∃u,P.underlying t=some u/\zu u=false)/\∀x y:Int,cR P (Vy d t (.int .i64 x) (.int .i64 y)) (x==y)
def Es (P:SJ)(d:Nat)(t:TypeId)(n:Nat):Prop:=(∃u,P.underlying t=some u/\zu u=true)/\(∃i,P.info? t=some i/\i.size=n)/\∀xs ys:List Int,xs.length=n->ys.length=n->cR P (Vy d t (.agg (xs.map (SF .i64)).toArray) (.agg (ys.map (SF .i64)).toArray)) (xs==ys)
inductive sN (P:SJ)(d:Nat):Nat->List YT->Nat->Prop
 |nil (o:Nat):sN P d o [] o
 | one {o n : Nat} {f : YT} {fs : List YT} (hn : f.name ≠ "_") (ho : f.offset = o) (h : Er P d f.type) (t : sN P d (o + 1) fs n) : sN P d o (f :: fs) n
 | sub {o m n : Nat} {f : YT} {fs : List YT} (hn : f.name ≠ "_") (ho : f.offset = o) (h : Es P d f.type m) (t : sN P d (o + m) fs n) : sN P d o (f :: fs) n
theorem sN.le{d o n:Nat}{fs:List YT}(h:sN P d o fs n):o<=n:=by
 induction h with
 |nil=>exact SR _
 |one _ _ _ _ ih=>omega
 |sub _ _ _ _ ih=>omega
theorem Qf(xs:List Int)(o m:Nat):(xs.map (SF .i64)).toArray.extract o (o+m)=(((xs.drop o).take m).map (SF .i64)).toArray:=by
 simp[List.extract_eq_take_drop,VX,ag2]
theorem aq9 {d n N : Nat} {xs ys : List Int} {body : YT -> Option Bool × Unit -> Sem (ForInStep (Option Bool × Unit))} (hx : xs.length = N) (hy : ys.length = N) (hb : ∀ f s, body f s = (if f.name ≠ "_" then (do
   let a<- part f.type (xs.map (SF .i64)).toArray f.offset;let b<- part f.type (ys.map (SF .i64)).toArray f.offset;let r<- Vy d f.type a b
   if(!r)=true then pure (.done (some false,()))else pure (.yield (none,())))else pure (.yield (none,())))):
  ∀{o:Nat}{fs:List YT},sN P d o fs n->n<=N->cR P (forIn fs (none,()) body) (if(xs.drop o).take (n-o)==(ys.drop o).take (n-o)then(none,())else(some false,())):=by
 intro o fs h hn;induction h with
 |nil o=>simpa using iV (none,())
 |@one o n f fs K8 ho h t ih=>
  have hle:=t.le;have hox:o<xs.length:=by omega
  have hoy:o<ys.length:=by omega
  obtain⟨⟨u,hu,Da⟩,he⟩:=h;rw[WX,hb,if_pos K8,ho];refine lR (a:=if xs[o]==ys[o]then .yield (none,())else .done (some false,())) ?_ ?_
  ·refine D4 hu Da (v:=.int .i64 xs[o]) (by simp[hox]) ?_;refine D4 hu Da (v:=.int .i64 ys[o]) (by simp[hoy]) ?_;refine lR (he _ _) ?_;cases hq:xs[o]==ys[o]<;>exact iV _
  ·have e:((xs.drop o).take (n-o)==(ys.drop o).take (n-o))=((xs[o]==ys[o])&&((xs.drop (o+1)).take (n-(o+1))==(ys.drop (o+1)).take (n-(o+1)))):=by
    rw[TR hox,TR hoy,show n-o=(n-(o+1))+1 by omega,VS,VS];rfl
   rw[e];cases hq:xs[o]==ys[o]with
   |true=>simp only[if_true,Vs];exact ih hn
   |false=>simp only[TM,if_false,YB];exact iV _
 |@sub o m n f fs K8 ho h t ih=>
  have hle:=t.le;obtain⟨⟨u,hu,Da⟩,⟨i,hi,du⟩,he⟩:=h;rw[WX,hb,if_pos K8,ho];refine lR (a:=if(xs.drop o).take m==(ys.drop o).take m then .yield (none,())else .done (some false,())) ?_ ?_
  ·refine adi hu Da hi ?_;refine adi hu Da hi ?_;rw[du,Qf,Qf];refine lR (he _ _ (by rw[Uf,Uo];omega) (by rw[Uf,Uo];omega)) ?_;cases hq:(xs.drop o).take m==(ys.drop o).take m<;>exact iV _
  ·have e:((xs.drop o).take (n-o)==(ys.drop o).take (n-o))=(((xs.drop o).take m==(ys.drop o).take m)&&((xs.drop (o+m)).take (n-(o+m))==(ys.drop (o+m)).take (n-(o+m)))):=by
    have hs:∀zs:List Int,(zs.drop o).take (n-o)=(zs.drop o).take m++(zs.drop (o+m)).take (n-(o+m)):=λzs=>by
     rw[show n-o=m+(n-(o+m)) by omega,List.take_add,ak']
    rw[hs,hs,Vo,Ti,beq_iff_eq,beq_iff_eq,beq_iff_eq];exact⟨λh=>List.append_inj h (by simp[Uf,Uo];omega),λh=>by rw[h.1,h.2]⟩
   rw[e];cases hq:(xs.drop o).take m==(ys.drop o).take m with
   |true=>simp only[if_true,Vs];exact ih hn
   |false=>simp only[TM,if_false,YB];exact iV _
theorem ahn{t:TypeId}{fs:Array YT}{d n:Nat}{i:Wj}(ht:P.underlying t=some (.struct fs))(hs:P.stoodInHeld t=false)(hi:P.info? t=some i)(du:i.size=n)(hf:sN P d 0 fs.toList n):Es P (d+1) t n:=by
 refine ⟨⟨_, ht, rfl⟩, ⟨i, hi, du⟩, λxs ys hx hy => ?_⟩;rw [Vy];refine yZ ht ?_;dsimp only;refine NU ?_;rw [hs];simp only [TM, if_false];rw [<- Array.forIn_toList];refine lR (a := if (xs == ys) then (none, ()) else (some false, ())) ?_ (by cases xs == ys <;> exact iV _);have := aq9 (body := λf (_ : Option Bool × Unit) => if f.name ≠ "_" then (do
   let a<- part f.type (xs.map (SF .i64)).toArray f.offset;let b<- part f.type (ys.map (SF .i64)).toArray f.offset;let r<- Vy d f.type a b
   if(!r)=true then pure (ForInStep.done (some false,()))else pure (YV (none,())))else pure (YV (none,()))) hx hy (λf s=>rfl) hf (SR _)
 simp only[Xw,ZW]at this;rw[SS (by omega),SS (by omega)]at this;exact this
theorem ahm{t:TypeId}{k0:TY}{d:Nat}(ht:P.underlying t=some (.int k0)):Er P (d+1) t:=⟨⟨_,ht,rfl⟩,λ_ _=>adg ht⟩
def B9 (g:TypeId->Option (Option Nat)):List YT->Nat->Option Nat
 |[],o=>some o
 | f :: fs, o => if f.name ≠ "_" /\ f.offset = o then (match g f.type with
  |some none=>B9 g fs (o+1)
  |some (some m)=>B9 g fs (o+m)
  |none=>none)else none
def xM (P:SJ):Nat->TypeId->Option (Option Nat)
 |0,_=>none
 |d+1,t=>match P.underlying t with
  |some (.int _)=>some none
  |some (.struct fs)=>if P.stoodInHeld t then none else(match B9 (xM P d) fs.toList 0,P.info? t with
   |some n,some i=>if i.size=n then some (some n)else none
   |_,_=>none)
  |_=>none
theorem JC{d n:Nat}{g:TypeId->Option (Option Nat)}(h1:∀t,g t=some none->Er P d t)(h2:∀t m,g t=some (some m)->Es P d t m):∀(fs:List YT)(o:Nat),B9 g fs o=some n->sN P d o fs n
 |[],o,h=>by cases h;exact .nil _
 |f::fs,o,h=>by
  rw[B9]at h;split at h
  ·rename_i hc;split at h
   ·rename_i hg;exact .one hc.1 hc.2 (h1 _ hg) (JC h1 h2 fs _ h)
   ·rename_i m hg;exact .sub hc.1 hc.2 (h2 _ _ hg) (JC h1 h2 fs _ h)
   ·cases h
  ·cases h
theorem Qu:∀(d:Nat)(t:TypeId),(xM P d t=some none->Er P d t)/\∀n,xM P d t=some (some n)->Es P d t n
 |0,t=>⟨λh=>by simp[xM]at h,λn h=>by simp[xM]at h⟩
 |d+1,t=>by
  have ih:=λt=>Qu d t;rw[xM];split
  ·rename_i k0 hu;exact⟨λ_=>ahm hu,λn h=>by cases h⟩
  ·rename_i fs hu;split
   ·exact⟨λh=>(by cases h),λn h=>by cases h⟩
   ·rename_i hs;split
    ·rename_i n i hf hi;split
     ·rename_i du;refine⟨λh=>(by cases h),λm h=> ?_⟩;cases h;exact ahn hu (by simpa using hs) hi du (JC (λt=>(ih t).1) (λt=>(ih t).2) _ _ hf)
     ·exact⟨λh=>(by cases h),λn h=>by cases h⟩
    ·exact⟨λh=>(by cases h),λn h=>by cases h⟩
  ·exact⟨λh=>(by cases h),λn h=>by cases h⟩
theorem aeM{t:TypeId}{n:Nat}{xs ys:List Int}(h:xM P 10000 t=some (some n))(hg:P.eqGuardType P.depth t=false)(hx:xs.length=n)(hy:ys.length=n)(k:AV->Prop):dR P .eql t (.agg (xs.map iv)) (.agg (ys.map iv)) k=k (bv (xs==ys)):=by
 have C6:cR P (Xm t (.agg (xs.map (SF .i64)).toArray) (.agg (ys.map (SF .i64)).toArray)) (xs==ys):=((Qu 10000 t).2 n h).2.2 xs ys hx hy;have e:dR P .eql t (.agg (xs.map iv)) (.agg (ys.map iv)) k=((XE=.eql\/XE=.neq)/\ao (AV.raw (.agg (xs.map iv))) λX=>ao (AV.raw (.agg (ys.map iv))) λY=>zK X Y=true/\P.eqGuardType P.depth t=false/\∃e,cR P (Xm t X Y) e/\k (.val (.bool (if XE== .neq then !e else e)))):=rfl;rw[e,yQ,yQ,AN,AN];apply propext;constructor
 ·rintro⟨_,_,_,b,h1,h2⟩
  rw[C6.uniq h1];exact h2
 ·intro h;exact⟨.inl rfl,rfl,hg,_,C6,h⟩
end
section
variable {lv:Bool}{P:SJ}{s:AS}{ms:List Nat}{bs:List UW}{nt:Nat}
def um (E:Env)(ms:List Nat)(bs l:List UW):Prop:=l=ms.map (λi=>({target:=.collected (E.blk i),args:=#[]}:UW))++bs/\∀i∈ms,i<E.n
theorem um.mono{E E':Env}(h:E.Le E'){ms:List Nat}{bs l:List UW}(k:um E ms bs l):um E' ms bs l:=
 ⟨by rw[k.1];congr 1;exact VB λi hi=>by rw[h.blk i (k.2 i hi)],λi hi=>Tc (k.2 i hi) h.n⟩
def kP (lv:Bool)(P:SJ)(nt:Nat)(bs:List UW)(c:Ua)(s:AS)(ms:List Nat)(Φ:an->AS->List Nat->Prop):Prop:=
 ∀(E:Env)(V:View)(a:Act)(Q:Ex->Act->View->Prop),At E V s a nt->um E ms bs a.defers->(∀ae e E' V' a' s' cI,rk E E' V V' a a'->At E' V' s' a' nt->um E' cI bs a'.defers->qh E' ae e->Φ ae s' cI->Q e a' V')->WP lv P none c Q a V
theorem EM{c:Ua}{Φ:an->AS->List Nat->Prop}(h:aQ lv P none nt c s λe s'=>Φ e s' ms):kP lv P nt bs c s ms Φ:=λE V a Q ah hd hQ=>
 h E V a Q ah λae e E' V' a' s' hk aV he hΦ=>hQ ae e E' V' a' s' ms hk.d aV (by rw[hk.defers];exact hd.mono hk.le) he hΦ
theorem kP.mono{c:Ua}{Φ Φ':an->AS->List Nat->Prop}(h:kP lv P nt bs c s ms Φ)(hq:∀e s ms,Φ e s ms->Φ' e s ms):kP lv P nt bs c s ms Φ':=λE V a Q ah hd hQ=>
 h E V a Q ah hd λae e E' V' a' s' cI hk aV cG he hΦ=>hQ ae e E' V' a' s' cI hk aV cG he (hq _ _ _ hΦ)
theorem EN{x y:Ua}{Φ:an->AS->List Nat->Prop}(h:kP lv P nt bs x s ms (an.sE (λs' cI=>kP lv P nt bs y s' cI Φ) Φ)):kP lv P nt bs (.seq x y) s ms Φ:=by
 intro E V a Q ah hd hQ;refine wp_seq (h E V a _ ah hd λae e E' V' a' s' cI hk aV cG he hΦ=> ?_);cases ae<;>cases e<;>first
  |exact he.elim
  |exact hΦ E' V' a' Q aV cG λae e bW aT cx dw Du aJ dt Ad kG tU=>hQ ae e bW aT cx dw Du (hk.trans aJ) dt Ad kG tU
  |exact hQ _ _ E' V' a' s' cI hk aV cG he hΦ
theorem sZ{x y:Ua}{Φ:an->AS->List Nat->Prop}(h:aQ lv P none nt x s (an.then (λs'=>kP lv P nt bs y s' ms Φ) λe s'=>Φ e s' ms)):kP lv P nt bs (.seq x y) s ms Φ:=by
 refine EN (EM (h.mono λe s' hs=> ?_));cases e<;>exact hs
theorem xB{id:Nat}{c:Ua}{Φ:an->AS->List Nat->Prop}(h:kP lv P nt bs c s ms (an.qt id Φ)):kP lv P nt bs (.block id c) s ms Φ:=by
 intro E V a Q ah hd hQ;refine wp_block (h E V a _ ah hd λae e E' V' a' s' cI hk aV cG he hΦ=> ?_);cases ae<;>cases e<;>first
  |exact he.elim
  |skip
 ·exact hQ .normal .normal E' V' a' s' cI hk aV cG trivial hΦ
 ·rename_i i j;have e:i=j:=he;subst e;by_cases ce:i=id
  ·simp only[Ex.inBlock,ce,if_true];simp only[an.qt,ce,if_true]at hΦ;exact hQ .normal _ E' V' a' s' cI hk aV cG trivial hΦ
  ·simp only[Ex.inBlock,ce,if_false];simp only[an.qt,ce,if_false]at hΦ;exact hQ (.exit i) _ E' V' a' s' cI hk aV cG rfl hΦ
 ·exact hQ _ _ E' V' a' s' cI hk aV cG he hΦ
 ·exact hQ _ _ E' V' a' s' cI hk aV cG he hΦ
 ·exact hQ _ _ E' V' a' s' cI hk aV cG he hΦ
theorem Pb{α:Type}{lt:α->α->Prop}(wf:WellFounded lt){c:Ua}{Φ:an->AS->List Nat->Prop}(inv:α->AS)(mk:α->List Nat)(ok:α->Prop)(m:α)(h0:s.Sub (inv m))(uY:ms=mk m)(hm:ok m)
  (h:∀m,ok m->kP lv P nt bs c (inv m) (mk m) (an.sE (λs' cI=>∃m',lt m' m/\ok m'/\s'.Sub (inv m')/\cI=mk m') Φ)):kP lv P nt bs (.loop c) s ms Φ:=by
 subst uY;intro E V a Q ah hd hQ;refine Of wf (I:=λm a' V'=>ok m/\∃E',rk E E' V V' a a'/\At E' V' (inv m) a' nt/\um E' (mk m) bs a'.defers) m ⟨hm,E,(Kept.refl E V a).d,ah.sub h0,hd⟩ λm a' V' hI=> ?_;obtain⟨au,E',hk,aV,cG⟩:=hI;refine h m au E' V' a' _ aV cG λae e bW aT cx dw Du aJ dt Ad he hΦ=> ?_;cases ae<;>cases e<;>first
  |exact he.elim
  |(obtain⟨m',h1,h2,h3,rfl⟩:=hΦ
    exact⟨m',h1,h2,bW,hk.trans aJ,dt.sub h3,Ad⟩)
  |exact hQ _ _ bW aT cx dw Du (hk.trans aJ) dt Ad he hΦ
theorem afR{f:Th}{ps:Array Tmp}{bP body:Ua}{fv:AV}{Φ:an->AS->List Nat->Prop}(hf:s.ev f=some fv)
  (h:∀l fn:Nat,jo lv P fv (s.H++[.obj (.deferred (some [])),.loop l .ready none fn s.T nt ps bP body s.H.length]) [.fn (.yield l) [] []]
   (λ_ H'=>∃st pe fU T' jC gT gI fI gJ,H'[s.H.length+1]?=some (.loop l st pe fU T' jC gT gI fI gJ)/\st≠ .busy/\sT Φ ⟨s.T,H'.set (s.H.length+1) .gone⟩ (s.H.length::ms) pe)
   (λpv H'=>Φ (.panic pv) ⟨s.T,H'⟩ (s.H.length::ms))):kP lv P nt bs (.rangeFunc f ps bP body) s ms Φ:=by
 intro E V a Q ah hm hQ;refine adP λfn d l hd hl=> ?_;have hc:=ah.bu;have dA:Conc (E.add d V.ab) (V.upd d (.deferred (some []))) (s.H++[.obj (.deferred (some []))]):=by
  refine hc.add hd _ ⟨?_,rfl,rfl,λo=> ?_⟩ (λb e=> ?_)
  ·rw[Env.dU];simp[View.upd]
  ·rw[Env.dU];exact hd.2 o
  ·simp only[bQ,Env.dU,Tj]at e;exact e.symm
 have CO:E.Le (E.add d V.ab):=E.qT d (λb o v h=>by rw[<- hc.I];exact h);have Cw:(E.add d V.ab).blk s.H.length=d:=by rw[<- hc.n];exact E.dU d _
 let E1:=E.add d V.ab;let V1:=V.upd d (.deferred (some []));have pN:E1.n=s.H.length+1:=by rw[dA.n];simp
 have qG:E1.Le (E1.add l V1.ab):=E1.qT l (λb o v h=>by rw[<- dA.I];exact h);have cU:Conc (E1.add l V1.ab) (V1.upd l (.loop {state:=.ready,pending:=none,fn,tmps:=a.tmps,params:=ps,assign:=bP,body,defers:=d})) ((s.H++[.obj (.deferred (some []))])++[.loop l .ready none fn s.T nt ps bP body s.H.length]):=by
  refine dA.add hl _ ⟨⟨a.tmps,?_,ah.size,(ah.tok.mono CO).mono qG⟩,?_,λo=> ?_,?_⟩ (λb e=> ?_)
  ·have e:(E1.add l V1.ab).blk s.H.length=d:=(by rw[qG.blk s.H.length (by rw[pN];omega)];exact Cw);rw[e,Env.dU];simp[View.upd]
  ·show s.H.length<E1.n+1;omega
  ·rw[Env.dU];exact hl.2 o
  ·exact Env.dU _ _ _
  ·simp only[bQ,Env.dU,Tj]at e;exact e.symm
 have hle:E.Le (E1.add l V1.ab):=CO.trans qG;have Kj:(E1.add l V1.ab).blk s.H.length=d:=by rw[qG.blk s.H.length (by rw[pN];omega)];exact Cw
 rw[SA]at cU;have rU:∀E',(E1.add l V1.ab).Le E'->um E' (s.H.length::ms) bs (mark a d).defers:=λE' hE=>by
  refine um.mono hE ⟨?_,λi hi=> ?_⟩
  ·have:=(hm.mono hle).1;simp only[mark,UV,Kj,Ve];rw[<- this]
  ·rcases SL.1 hi with rfl|hi
   ·show _<E1.n+1;omega
   ·exact Tc (hm.2 i hi) hle.n
 have bC:=ap.ev ah.tok hf;have CA:=h l fn (E1.add l V1.ab) (V1.upd l (.loop {state:=.ready,pending:=none,fn,tmps:=a.tmps,params:=ps,assign:=bP,body,defers:=d})) (a.eval f) #[.func (.yield l) #[] #[]] cU (bC.mono hle) ⟨rfl,λi x hx=>by
  match i,hx with
  |0,hx=>cases hx;exact .fn rfl rfl (by simp) (by simp)⟩
 have key:∀o V',ii (E1.add l V1.ab) (V1.upd l (.loop {state:=.ready,pending:=none,fn,tmps:=a.tmps,params:=ps,assign:=bP,body,defers:=d}))
   (λ_ H'=>∃st pe fU T' jC gT gI fI gJ,H'[s.H.length+1]?=some (.loop l st pe fU T' jC gT gI fI gJ)/\st≠ .busy/\sT Φ ⟨s.T,H'.set (s.H.length+1) .gone⟩ (s.H.length::ms) pe)
   (λpv H'=>Φ (.panic pv) ⟨s.T,H'⟩ (s.H.length::ms)) o V'->EA l d Q a o V':=by
  intro o V' hr;cases o with
  |ret v=>
   obtain⟨av,E',H',hE,cp,fy,_,bi,st,pe,fU,T',jC,gT,gI,fI,gJ,ce,aR,hp⟩:=hr;obtain⟨dL,nU,rc,bc,LD,tr,tP⟩:=bi.yW ce;refine⟨_,bc,nU,aR,?_⟩;have hg:Conc E' (V'.upd l (.loop {state:=.exhausted,pending:=pe,fn:=fU,tmps:=rc,params:=gT,assign:=gI,body:=fI,defers:=E'.blk gJ})) (H'.set (s.H.length+1) .gone):=bi.DW _ ce _ (by simp only[bQ,dL]);have aV:At E' (V'.upd l (.loop {state:=.exhausted,pending:=pe,fn:=fU,tmps:=rc,params:=gT,assign:=gI,body:=fI,defers:=E'.blk gJ})) ⟨s.T,H'.set (s.H.length+1) .gone⟩ (mark a d) nt:=⟨hg,ah.tok.mono (hle.trans hE),ah.size⟩;have eK:rk E E' V (V'.upd l (.loop {state:=.exhausted,pending:=pe,fn:=fU,tmps:=rc,params:=gT,assign:=gI,body:=fI,defers:=E'.blk gJ})) a (mark a d):=⟨hle.trans hE,rfl,cp,fy⟩;dsimp only
   match pe,hp,aV,eK with
   |none,hp,aV,eK=>exact hQ .normal .normal E' _ _ _ _ eK aV (rU E' hE) trivial hp
   |some .ret,hp,aV,eK=>exact hQ .ret .ret E' _ _ _ _ eK aV (rU E' hE) trivial hp
   |some (.exit i),hp,aV,eK=>exact hQ (.exit i) (.exit i) E' _ _ _ _ eK aV (rU E' hE) rfl hp
   |some (.goto i),hp,aV,eK=>exact hQ (.goto i) (.goto i) E' _ _ _ _ eK aV (rU E' hE) rfl hp
  |panic ch=>
   obtain⟨pv,v,E',H',rfl,hE,cp,fy,bm,bi,hp⟩:=hr;exact hQ (.panic pv) (.panic _) E' V' (mark a d) ⟨s.T,H'⟩ _ ⟨hle.trans hE,rfl,cp,fy⟩ ⟨bi,ah.tok.mono (hle.trans hE),ah.size⟩ (rU E' hE) ⟨v,rfl,bm⟩ hp
 exact CA.mono (λnx V' hn=>Nx.mono key hn) (λv V' hr=>key _ _ hr)
@[congr] theorem as7 {c : Ua} {s s' : AS} {ms cI : List Nat} {Φ : an -> AS -> List Nat -> Prop} (h : s = s') (hd : ms = cI) : kP lv P nt bs c s ms Φ = kP lv P nt bs c s' cI Φ := by rw [h, hd]
def ur (lv:Bool)(P:SJ)(fn:Yz)(R:Out->View->Prop):List UW->U6->Array SQ->View->Prop
 |[],.returning,tmps,V=>∃v,aO P V (results fn tmps) (λx V'=>x=v/\V'=V) (λ_ _=>False)/\R (.ret v) V
 |[],.panicking ch,_,V=>R (.panic ch) V
 |d::ds,md,tmps,V=>(md matches .run)=false/\((∃b,d={target:=.collected b,args:=#[]}/\V.own b=some (.deferred (some []))/\V.role.chan≠some b/\ur lv P fn R ds md tmps (V.upd b (.deferred none)))\/
   ((∃f c9,d.target=.fn f c9)/\aO P V (invoke d.target d.args) (λnx V'=>∃g args,nx=.enter g args/\zf lv P g args md V' λoi aT=>ur lv P fn R ds oi tmps aT) (λ_ _=>False)))
 |[],.run,_,_=>False
theorem Ec{f:TO}{fn:Yz}{kd:Xa}{R:Out->View->Prop}(hf:P.funcs[f]?=some fn){main:Bool}{J:View->SG->Prop}(C:Closed lv P main J){cs:List Uc}(hR:∀o V' Ca,R o V'->Leaves P Ca f kd o V'->J V' (G Ca cs)):∀(ds:List UW)(md:U6)(V:View)(fr:Uc),fr.fn=f->fr.kind=kd->fr.mode=md->fr.defers=ds->ur lv P fn R ds md fr.tmps V->J V (G fr cs)
 |[],.returning,V,fr,h1,h2,h3,h4,h=>by
  obtain⟨v,hs,hr⟩:=h;exact hR _ _ _ hr ⟨h1,h4,h2,fn,hf,h3,hs⟩
 |[],.panicking ch,V,fr,h1,h2,h3,h4,h=>hR _ _ _ h ⟨h1,h4,h2,fn,hf,h3⟩
 |[],.run,_,_,_,_,_,_,h=>h.elim
 |d::ds,md,V,fr,h1,h2,h3,h4,h=>by
  obtain⟨hm,⟨b,rfl,ho,fx,hu⟩|⟨⟨tf,c9,ht⟩,hs⟩⟩:=h
  ·refine C.step _ _ rfl λw hw=> ?_;obtain⟨es,w',V',k1,k2,k3⟩:=(NI (P:=P) ho fx).runs hw;rcases k3 with⟨x,k3,rfl,rfl⟩|⟨_,_,hx⟩
   ·refine⟨G {fr with defers:=ds} cs,w',seen P fr.fn es,_,?_,k1.seen P fr.fn,?_⟩
    ·have e:∀main,stepG P main (G fr cs) w=unwind P main fr cs none w:=λmain=>by
      cases md with
      |run=>cases hm
      |returning=>simp[G,stepG,h3]
      |panicking ch=>simp[G,stepG,h3]
     rw[e];simp only[unwind,h4];simp[TA,k3,k2,T5,G]
    ·exact Ec hf C hR ds md _ {fr with defers:=ds} h1 h2 h3 rfl hu
   ·exact hx.elim
  ·refine C.step _ _ rfl λw hw=> ?_;obtain⟨es,w',V',k1,k2,k3⟩:=hs.runs hw;rcases k3 with⟨nx,k3,g,args,rfl,hd⟩|⟨_,_,h⟩
   ·refine⟨G (Frame.enter P g args .deferred) ({fr with defers:=ds}::cs),w',seen P fr.fn es,V',?_,k1.seen P fr.fn,?_⟩
    ·have e:∀main,stepG P main (G fr cs) w=unwind P main fr cs none w:=λmain=>by
      cases md with
      |run=>cases hm
      |returning=>simp[G,stepG,h3]
      |panicking ch=>simp[G,stepG,h3]
     rw[e];obtain⟨tgt,ar⟩:=d;simp only at ht k3 k2;subst ht;simp only[unwind,h4];simp[callDeferred,TA,k3,k2,T5,G]
    ·refine hd main J C {fr with defers:=ds} cs h3 λoi aT hU=> ?_;exact Ec hf C hR ds oi aT {fr with defers:=ds,mode:=oi} h1 h2 rfl rfl hU
   ·exact h.elim
def ad0 (lv:Bool)(P:SJ)(fn:Yz)(R:Out->View->Prop):Ex->Act->View->Prop
 |.normal,a,V|.ret,a,V=>ur lv P fn R a.defers .returning a.tmps V
 |.panic ch,a,V=>ur lv P fn R a.defers (.panicking ch) a.tmps V
 |_,_,_=>False
theorem agm{f:TO}{fn:Yz}{c:Ua}{args:Array SQ}{kd:Xa}{V:View}{R:Out->View->Prop}(hk:kd≠ .early)(hf:P.funcs[f]?=some fn)(hb:fn.body=some c)
  (h:WP lv P none c (ad0 lv P fn R) {tmps:=args++TK (fn.ntmps-args.size) undef,defers:=[]} V):Body lv P f args kd V R:=by
 intro main J C cs hR;let b:Uc:={(default:Uc)with fn:=f,kind:=kd,roundOf:=none};have uO:Frame.enter P f args kd=on b {tmps:=args++TK (fn.ntmps-args.size) undef,defers:=[]} [.code c]:=by
  simp[Frame.enter,on,hf,hb,b]
 rw[uO];refine h main J C b [] cs hk rfl λe a' V' q=> ?_;cases e with
 |normal=>exact C.idle rfl (λw=>DR rfl) (Ec hf C hR _ _ _ _ rfl rfl rfl rfl q)
 |ret=>intro k;exact C.idle rfl (λw=>DT rfl) (Ec hf C hR _ _ _ _ rfl rfl rfl rfl q)
 |panic ch=>intro todo _;exact Ec hf C hR _ _ _ _ rfl rfl rfl rfl q
 |exit id=>exact q.elim
 |goto l=>exact q.elim
theorem adE{fn:Yz}{R:Out->View->Prop}{tmps:Array SQ}{md:U6}(hm:(md matches .run)=false):∀(ms:List Nat)(H H':List aa)(E:Env)(V:View)(l:List UW),i_ ms H=some H'->Conc E V H->um E ms bs l->(∀V',V'.role=V.role->V'.deaf=V.deaf->Conc E V' H'->ur lv P fn R bs md tmps V')->ur lv P fn R l md tmps V
 |[],H,H',E,V,l,hg,hc,rV,hk=>by
  rw[i_]at hg;cases hg;have:l=bs:=rV.1;subst this;exact hk V rfl rfl hc
 |i::ms,H,H',E,V,l,hg,hc,rV,hk=>by
  simp only[i_]at hg;split at hg
  ·rename_i hi;obtain⟨e,hlt⟩:=rV;simp only[UV,Ve]at e;subst e;obtain⟨p1,p2,p3,p4⟩:=hc.obj i _ hi;exact⟨hm,.inl ⟨_,rfl,p1,(hc.jB hi rfl).2,adE hm ms _ H' E _ _ hg (hc.DW _ hi _ rfl) ⟨rfl,λj hj=>hlt j (by simp[hj])⟩ λV' h1 h2 h3=>hk V' h1 h2 h3⟩⟩
  ·cases hg
def zl (lv:Bool)(P:SJ)(rs:List UN)(n:Nat)(c:AV×List AV)(k kp:AV->List aa->Prop):an->AS->List Nat->Prop
 |.normal,s,ms|.ret,s,ms=>ao (i_ ms s.H) λH'=>rh lv P c H' none (λH'=>ao (iw P ⟨s.T,H'⟩ rs) λl=>cK n H' (jm l) k) (λ_=>False)
 |.panic pv,s,ms=>ao (i_ ms s.H) λH'=>rh lv P c H' (some pv) (λH'=>ao (iw P ⟨s.T,H'⟩ rs) λl=>cK n H' (jm l) k) (λH'=>cK n H' pv kp)
 |_,_,_=>False
end
end Go.Gg
namespace Go.Gg.Tk
structure iM where
 min:Int
 max:Int
 deriving DecidableEq
structure aC where
 number:iM
 hour:iM
 deriving DecidableEq
structure Seen where
 hour:Int
 next:iM
 deriving DecidableEq
structure aj where
 first:Int
 hours:Int
 am:Int
 seen:List Seen
 pieces:List aC
 aB:List aC
 deriving DecidableEq
def lf (b:iM)(n:Int):Bool:=decide (b.min<=n)&&decide (n<=b.max)
def fP:Nat->List Int->Int->Int
 |i,a::b::l,n=>if a<=n/\n<b then i else fP (i+1) (b::l) n
 |_,_,_=> -1
def jF (h:List Int)(n:Int):Int:=fP 0 h n
def fits (h:List Int)(y:aC)(n:Int):Bool:=decide (0<=jF h n)&&lf y.number n&&lf y.hour (jF h n)
def sx (x:aj)(hour:Nat)(n:Int):Bool:=x.seen.all λs=> !decide (s.hour=hour)||lf s.next n
def kY (x:aj):Nat->List Int->List (List Int)
 |0,pre=>if sx x (pre.length-1) (pre.getLastD 0)then[pre]else[]
 |d+1,pre=>if sx x (pre.length-1) (pre.getLastD 0)then(SZ (x.am.toNat+1)).flatMap λn:Nat=>kY x d (pre++[pre.getLastD 0+(n:Int)])else[]
def aK (x:aj):List (List Int):=kY x x.hours.toNat [x.first]
def wx (x:aj)(t:Nat):List (List Int):=if sx x 0 x.first then kY x (x.hours.toNat-1) [x.first,x.first+t]else[]
def GW (h:List Int):List Int:=(SZ (h.getLastD 0-h.headD 0).toNat).map λi:Nat=>h.headD 0+i
def nq (h:List Int):List aC->List Int->List (List Int)
 |[],t=>[t]
 |y::ys,t=>((GW h).filter λn=>fits h y n&& !t.contains n).flatMap λn=>nq h ys (t++[n])
def qa (h:List Int)(ns:List Int):List aC->List Nat->List (List Nat)
 |[],t=>[t]
 |s::ss,t=>((SZ ns.length).filter λp=>fits h s (ns.getD p 0)&& !t.contains p).flatMap λp=>qa h ns ss (t++[p])
structure Tr where
 bE:List Int
 aA:List Int
 bK:List Nat
 deriving DecidableEq
def Ea (x:aj)(h ns:List Int):List Tr:=(qa h ns x.aB []).map λos=>⟨h,ns,os⟩
def o_ (x:aj)(h:List Int):List Tr:=(nq h x.pieces []).flatMap (Ea x h)
def bZ (x:aj):List Tr:=(aK x).flatMap (o_ x)
def vF (x:aj)(h:List Int):List Tr:=(nq h x.pieces []).flatMap λns=>(Ea x h ns).take 1
def sF (x:aj)(deep:Int)(h:List Int):List Tr:=if deep=0 then(vF x h).take 1 else if deep=1 then vF x h else o_ x h
def HR (x:aj)(deep:Int)(t:Nat):List Tr:=(wx x t).flatMap (sF x deep)
theorem adu{i:Nat}:∀{h:List Int}{n:Int},fP i h n<i+h.length:=by
 intro h;induction h generalizing i with
 |nil=>intro n;simp[fP];omega
 |cons a h ih=>
  intro n;cases h with
  |nil=>simp[fP];omega
  |cons b l=>
   simp only[fP];split
   ·simp;omega
   ·have:=ih (i:=i+1) (n:=n);simp at this⊢;omega
theorem N3{i k:Nat}{z:Int}:∀{h:List Int}{n:Int},h.getLastD z=z->h≠[]->fP i (h++TG k z) n=fP i h n:=by
 intro h;induction h generalizing i with
 |nil=>intro n _ h;exact absurd rfl h
 |cons a h ih=>
  intro n hz _;cases h with
  |nil=>
   simp only[Zp,List.getLastD_nil]at hz;subst hz;have:∀(k i:Nat),fP i ([a]++TG k a) n= -1:=by
    intro k;induction k with
    |zero=>intro i;simp[fP]
    |succ k ihk=>
     intro i;rw[Wt,Y0];simp only[fP];rw[if_neg (by omega)];exact ihk (i+1)
   rw[this];simp[fP]
  |cons b l=>
   have:=ih (i:=i+1) (n:=n) (by simpa using hz) (by simp);simp only[Ve,fP]at this⊢;rw[this]
end Go.Gg.Tk
namespace Go.Gg.Tk
inductive dJ (S:Type)where
 |go (s:S)
 |stop (s:S)
 |bad (s:S)
def bI {S α:Type}(f:S->α->dJ S):List α->S->dJ S
 |[],s=> .go s
 |a::l,s=>match f s a with
  |.go s'=>bI f l s'
  |r=>r
theorem qW{S α:Type}(f:S->α->dJ S):∀(l m:List α)(s:S),bI f (l++m) s=match bI f l s with
  |.go s'=>bI f m s'
  |r=>r
 |[],m,s=>rfl
 |a::l,m,s=>by
  simp only[Ve,bI];cases f s a with
  |go s'=>exact qW f l m s'
  |stop s'=>rfl
  |bad s'=>rfl
theorem NC{S α:Type}(f:S->α->dJ S)(a:α)(s:S):bI f [a] s=f s a:=by
 simp only[bI];cases f s a<;>rfl
theorem DO{S α:Type}{f:S->α->dJ S}{g:S->α->S}(h:∀s a,f s a=.go (g s a)):∀(l:List α)(s:S),bI f l s=.go (l.foldl g s)
 |[],s=>rfl
 |a::l,s=>by simp only[bI,h,UX];exact DO h l _
theorem A1{S α:Type}{f:S->α->dJ S}{I:S->Prop}{A:α->Prop}(h:∀s a s',I s->A a->f s a=.go s'->I s'):∀(l:List α)(s s':S),(∀a∈l,A a)->I s->bI f l s=.go s'->I s'
 |[],s,s',_,hs,e=>by cases e;exact hs
 |a::l,s,s',ha,hs,e=>by
  simp only[bI]at e;cases hf:f s a with
  |go s1=>rw[hf]at e;exact A1 h l s1 s' (λb hb=>ha b (by simp[hb])) (h s a s1 hs (ha a (by simp)) hf) e
  |stop s1=>rw[hf]at e;cases e
  |bad s1=>rw[hf]at e;cases e
def cQ (h:List Int):List Int:=h++TG (4-h.length) (h.getLastD 0)
def nh (x:aj)(bh:Nat):Nat->List Int->List (List Int)
 |0,pre=>if sx x (pre.length-1) (pre.getLastD 0)then[cQ pre]else[]
 |d+1,pre=>if sx x (pre.length-1) (pre.getLastD 0)then(SZ (x.am.toNat+1)).flatMap λn:Nat=>if pre.length=1/\n≠bh then[]else nh x bh d (pre++[pre.getLastD 0+(n:Int)])else[]
def kZ (x:aj)(bh:Nat):List (List Int):=nh x bh x.hours.toNat [x.first]
def lY (h:List Int)(y:aC)(n:Nat):Bool:=decide (h.getD 0 0+n<h.getD 3 0)&&lf y.number (h.getD 0 0+n)&&lf y.hour (jF h (h.getD 0 0+n))
def jL (p:Nat->Bool):Nat->Nat
 |0=>0
 |n+1=>if p n then jL p n|||2^n else jL p n
theorem BV{p:Nat->Bool}:∀{n i:Nat},(jL p n).testBit i=(decide (i<n)&&p i)
 |0,i=>by simp[jL]
 |n+1,i=>by
  have ih:=BV (p:=p) (n:=n) (i:=i);simp only[jL];by_cases hp:p n=true
  ·rw[if_pos hp,Xi,ih,VR];by_cases hi:n=i
   ·subst hi;simp[hp]
   ·have:(i<n+1)<->i<n:=(by omega);simp[hi,this]
  ·rw[if_neg hp,ih];by_cases hi:i=n
   ·subst hi;simp at hp;simp[hp]
   ·have:(i<n+1)<->i<n:=(by omega);simp[this]
theorem EO{p:Nat->Bool}:∀{n:Nat},jL p n<2^n
 |0=>by simp[jL]
 |n+1=>by
  have ih:=EO (p:=p) (n:=n);have h1:2^n<2^(n+1):=W7 (by omega) (by omega);simp only[jL];split
  ·exact WJ (Wn ih h1) h1
  ·exact Wn ih h1
def cm (h:List Int)(y:aC):Nat:=jL (lY h y) 9
def lj:List Nat->Nat->List Nat->List (List Nat)
 |[],_,t=>[t]
 |q::qs,used,t=>(SZ 9).flatMap λn=>if used.testBit n|| !q.testBit n then[]else lj qs (used|||2^n) (t++[n])
def mR (k:Nat)(ns:List Nat):List Nat->Nat->List Nat->List (List Nat)
 |[],_,o=>[o]
 |q::qs,given,o=>(SZ k).flatMap λp=>if given.testBit p|| !q.testBit (ns.getD p 0)then[]else mR k ns qs (given|||2^p) (o++[p])
def lP (k:Nat)(l:List Nat):List Int:=l.map (λn:Nat=>(n:Int))++TG (k-l.length) (-1)
def eg (h:List Int)(ns:List Nat):List Int:=h++lP 4 ns++[-1, -1, -1]
def dH (h:List Int)(ns os:List Nat):List Int:=h++lP 4 ns++lP 3 os
def gD (x:aj)(h:List Int):List (List Nat):=lj (x.pieces.map (cm h)) 0 []
def iK (x:aj)(h:List Int)(ns:List Nat):List (List Nat):=mR x.pieces.length ns (x.aB.map (cm h)) 0 []
def jG (x:aj)(deep:Int)(h:List Int):List (List Int):=
 let all:=(gD x h).map λns=>(iK x h ns).map λos=>dH h ns os
 if deep=0 then all.flatten.take 1 else if deep=1 then(all.map (·.take 1)).flatten else all.flatten
end Go.Gg.Tk
namespace Go.Gg.Tk
structure Kn where
 has:Bool
 aK:List (List Int)
 aA:List Nat
 hours:List Nat
 less:List Nat
 aX:List Nat
 first:List Int
def Kn.zero:Kn:=⟨false,[],[0,0,0,0],[0,0,0,0],[0,0,0,0],[0,0,0],TG 11 0⟩
def po (l:List Nat)(p n:Nat):List Nat:=l.set p (l.getD p 0|||2^n)
def jW (hs:List (List Int))(h:List Int):List (List Int):=if h∈hs then hs else hs++[h]
def mU (t:List Int)(p:Nat):Nat:=(t.getD (4+p) 0).toNat
def D5 (t:List Int)(p:Nat):Nat:=(jF (t.take 4) (t.getD (4+p) 0+t.getD 0 0)).toNat
def sC (t:List Int)(s:Nat):Nat:=(t.getD (8+s) 0).toNat
def j7 (F:Kn)(t:List Int):Kn:=if F.has then F else{F with has:=true,first:=t}
def nu (t:List Int):Nat->List Nat->List Nat
 |0,l=>l
 |s+1,l=>po (nu t s l) s (sC t s)
def sq (t:List Int):Nat->List Nat->List Nat
 |0,l=>l
 |p+1,l=>po (sq t p l) p (mU t p)
def wD (t:List Int):Nat->List Nat->List Nat
 |0,l=>l
 |p+1,l=>po (wD t p l) p (D5 t p)
def wP (t:List Int)(p:Nat):Nat->List Nat->List Nat
 |0,l=>l
 |q+1,l=>if t.getD (4+p) 0<t.getD (4+q) 0 then po (wP t p q l) p q else wP t p q l
def yH (t:List Int)(k:Nat):Nat->List Nat->List Nat
 |0,l=>l
 |p+1,l=>wP t p k (yH t k p l)
def eS (x:aj)(deep:Int)(F:Kn)(t:List Int):Kn:=
 let F:=j7 F t
 if deep=2 then{F with aX:=nu t x.aB.length F.aX}
 else if deep=0 then{F with aK:=jW F.aK (t.take 4)}
 else{F with aA:=sq t x.pieces.length F.aA,hours:=wD t x.pieces.length F.hours,less:=yH t x.pieces.length x.pieces.length F.less}
def h_ (x:aj)(deep:Int)(bh:Nat):Kn:=((kZ x bh).flatMap (jG x deep)).foldl (eS x deep) Kn.zero
def mj (l m:List Nat):List Nat:=(List.zipWith (·|||·) l m)
end Go.Gg.Tk
namespace Go.Gg
open Go.Conc Go.Gg.Tk
theorem HT{n:Nat}(h:n<65536):S5.wrap (n:Int)=n:=by
 have h1:S5.bits=16:=rfl;have h2:S5.signed=false:=rfl;unfold W9;rw[h1,h2];simp;omega
theorem BY{n:Nat}(h:n<65536):(Ui S5.bits (n:Int)).toNat=n:=by
 have h1:S5.bits=16:=rfl;rw[h1,BitVec.ofInt_natCast,BitVec.toNat_ofNat];omega
theorem ajL{m n:Nat}(hm:m<65536):(S5.wrap (Ui S5.bits ((m:Int).fdiv (2^(min n S5.bits)))&&&Ui S5.bits 1).toNat==1)=m.testBit n:=by
 have h1:S5.bits=16:=rfl;have e:(m:Int).fdiv (2^(min n S5.bits))=((m/2^(min n 16):Nat):Int):=by
  rw[h1,Int.fdiv_eq_ediv_of_nonneg _ (by exact_mod_cast Xz _)];norm_cast
 have hlt:m/2^(min n 16)<65536:=Ze (Nat.div_le_self _ _) hm;rw[e,BitVec.toNat_and,BY hlt,show (Ui S5.bits 1).toNat=1 from rfl,HT (Ze Nat.and_le_left hlt)];have hb:m/2^(min n 16)&&&1=(m/2^(min n 16)) % 2:=Nat.and_one_is_mod _;rw[hb];have ht:m.testBit n=decide (m/2^n % 2=1):=Nat.testBit_eq_decide_div_mod_eq;by_cases hn:n<=16
 ·rw[Ww hn,ht];by_cases h:m/2^n % 2=1
  ·simp[h]
  ·have:m/2^n % 2=0:=(by omega);simp[this]
 ·rw[Nat.min_eq_right (by omega)];have h0:m/2^16=0:=Nat.div_eq_of_lt (by omega);have h2:m.testBit n=false:=Nat.testBit_lt_two_pow (Tc hm (by calc 65536=2^16:=rfl
   _<=2^n:=Xj (by omega) (by omega)))
  rw[h0,h2];rfl
theorem asa{m n:Nat}(hm:m<65536)(hn:n<16):S5.wrap (Ui S5.bits (m:Int)|||Ui S5.bits (S5.wrap (1* 2^(min n S5.bits)))).toNat=((m|||2^n:Nat):Int):=by
 have h1:S5.bits=16:=rfl;have hp:2^n<65536:=by calc 2^n<2^16:=W7 (by omega) hn
  _=65536:=rfl
 have e:S5.wrap (1* 2^(min n S5.bits))=((2^n:Nat):Int):=by
  rw[h1,Ww (by omega),Int.one_mul,<- HT hp];norm_cast
 rw[e,Zn,BY hm,BY hp];exact HT (WJ (n:=16) hm hp)
theorem G_{m n:Nat}(hm:m<65536)(hn:n<65536):S5.wrap (Ui S5.bits (m:Int)|||Ui S5.bits (n:Int)).toNat=((m|||n:Nat):Int):=by
 rw[Zn,BY hm,BY hn];exact HT (WJ (n:=16) hm hn)
theorem p_{m n:Nat}(hm:m<65536)(hn:n<65536):m|||n<65536:=WJ (n:=16) hm hn
theorem xa{n:Nat}(hn:n<16):2^n<65536:=by calc 2^n<2^16:=W7 (by omega) hn
  _=65536:=rfl
abbrev wv (m:Nat):AV:=.val (.int .u16 m)
def dc {S:Type}(Gf:S->List aa)(pv:AV)(k kp:AV->List aa->Prop)(M:List aa):dJ S->Prop
 |.go s=>k (.val (.bool true)) (Gf s++M)
 |.stop s=>k (.val (.bool false)) (Gf s++M)
 |.bad s=>kp pv (Gf s++M)
def gH {S:Type}(Gf:S->List aa)(pv:AV)(k kp:AV->List aa->Prop)(M:List aa):dJ S->Prop
 |.go s=>k (.aM []) (Gf s++M)
 |.stop s=>k (.aM []) (Gf s++M)
 |.bad s=>kp pv (Gf s++M)
structure j6 (lv:Bool)(P:SJ)(yv:AV){S:Type}(f:S->List Int->dJ S)(Gf:S->List aa)(N:Nat)(I:S->Prop)(A:List Int->Prop)(pv:AV):Prop where
 call:∀(σ:S)(a:List Int)(M:List aa)(k kp:AV->List aa->Prop),I σ->A a->dc Gf pv k kp M (f σ a)->jo lv P yv (Gf σ++M) [.agg (a.map λn=> .val (.int .i64 n))] k kp
 inv:∀σ a σ',I σ->A a->f σ a=.go σ'->I σ'
 len:∀σ,(Gf σ).length=N
 ok:∀m σ σ',(∀z∈Gf σ,fh m z)->∀z∈Gf σ',fh m z
 sure:yv.sure=true
 parts:yv.parts=some [yv]
 leaf:yv.leaf=true
theorem j6.get{lv:Bool}{P:SJ}{yv:AV}{S:Type}{f:S->List Int->dJ S}{Gf:S->List aa}{N:Nat}{I:S->Prop}{A:List Int->Prop}{pv:AV}(h:j6 lv P yv f Gf N I A pv)(σ:S)(L:List aa)(i:Nat):(Gf σ++L)[N+i]?=L[i]?:=by
 rw[<- h.len σ,S8 (by omega)];congr 1;omega
theorem j6.set{lv:Bool}{P:SJ}{yv:AV}{S:Type}{f:S->List Int->dJ S}{Gf:S->List aa}{N:Nat}{I:S->Prop}{A:List Int->Prop}{pv:AV}(h:j6 lv P yv f Gf N I A pv)(σ:S)(L:List aa)(i:Nat)(x:aa):(Gf σ++L).set (N+i) x=Gf σ++L.set i x:=by
 rw[<- h.len σ,T9 _ _ (by omega)];congr 2;omega
theorem j6.au{lv:Bool}{P:SJ}{yv:AV}{S:Type}{f:S->List Int->dJ S}{Gf:S->List aa}{N:Nat}{I:S->Prop}{A:List Int->Prop}{pv:AV}(h:j6 lv P yv f Gf N I A pv){σ:S}{M:List aa}(hH:bM (Gf σ++M))(σ':S):bM (Gf σ'++M):=λz hz=>by
 have hl:(Gf σ'++M).length=(Gf σ++M).length:=by simp[h.len]
 rw[hl];rcases SV.1 hz with h'|h'
 ·exact h.ok _ σ σ' (λw hw=>hH w (Tf _ hw)) z h'
 ·exact hH z (S4 _ h')
def sR (l:Nat)(S:Nat->AS)(ok:Nat->Prop)(m:Nat)(Φ:an->AS->Prop):an->AS->Prop
 |.goto l',s=>l'=l/\∃m',m'<m/\ok m'/\s.Sub (S m')
 |e,s=>Φ e s
section
variable {lv:Bool}{P:SJ}{r:Option Nat}{s:AS}
end
theorem amS(l:Nat)(S:Nat->AS)(ok:Nat->Prop)(m:Nat)(Φ:an->AS->Prop)(s:AS):sR l S ok m Φ .normal s=Φ .normal s:=by rw[sR];simp
theorem amU(l:Nat)(S:Nat->AS)(ok:Nat->Prop)(m:Nat)(Φ:an->AS->Prop)(s:AS):sR l S ok m Φ .ret s=Φ .ret s:=by rw[sR];simp
theorem amR(l:Nat)(S:Nat->AS)(ok:Nat->Prop)(m:Nat)(Φ:an->AS->Prop)(i:Nat)(s:AS):sR l S ok m Φ (.exit i) s=Φ (.exit i) s:=by rw[sR];simp
theorem amT(l:Nat)(S:Nat->AS)(ok:Nat->Prop)(m:Nat)(Φ:an->AS->Prop)(a:AV)(s:AS):sR l S ok m Φ (.panic a) s=Φ (.panic a) s:=by rw[sR];simp
@[congr] theorem atJ {l m : Nat} {S : Nat -> AS} {ok : Nat -> Prop} {s s' : AS} {Φ : an -> AS -> Prop} {e e' : an} (he : e = e') (h : s = s') : sR l S ok m Φ e s = sR l S ok m Φ e' s' := by rw [he, h]
attribute [seval] amS amU amR amT
open Go.Proofs
namespace Tk
def iM.l (b:iM):List AV:=[iv b.min,iv b.max]
def iM.av (b:iM):AV:=.agg b.l
def aC.l (y:aC):List AV:=[iv y.number.min,iv y.number.max,iv y.hour.min,iv y.hour.max]
def aC.av (y:aC):AV:=.agg y.l
def Seen.l (s:Seen):List AV:=[iv s.hour,iv s.next.min,iv s.next.max]
def Seen.av (s:Seen):AV:=.agg s.l
def br (xs:List Int):AV:=.sl xs.length (xs.map iv) .shut
def zt (ls:List (List Int)):AV:=.sl ls.length (ls.map br) .shut
def aS (xs:List aC):AV:=.sl xs.length (xs.flatMap aC.l) .shut
def dP (xs:List Seen):AV:=.sl xs.length (xs.flatMap Seen.l) .shut
def aj.l (x:aj):List AV:=[iv x.first,iv x.hours,iv x.am,dP x.seen,aS x.pieces,aS x.aB]
def aj.av (x:aj):AV:=.agg x.l
theorem aC.len(b:aC):b.l.length=4:=rfl
theorem Seen.len(b:Seen):b.l.length=3:=rfl
end Tk
section
variable {i:Nat}
theorem ff{xs:List Int}{x:Int}(h:xs[i]?=some x):AV.shift i (.rp (xs.map iv))=some (.rp (iv x::(xs.drop (i+1)).map iv)):=by have:=acO (f:=iv) h;rwa [X9]at this
theorem acL{xs:List (List Int)}{x:List Int}(h:xs[i]?=some x):AV.shift i (.rp (xs.map br))=some (.rp (br x::(xs.drop (i+1)).map br)):=by have:=acO (f:=br) h;rwa [X9]at this
theorem DY{xs:List aC}{x:aC}(h:xs[i]?=some x):AV.shift (i* 4) (.rp (xs.flatMap aC.l))=some (.rp (iv x.number.min::iv x.number.max::iv x.hour.min::iv x.hour.max::(xs.drop (i+1)).flatMap aC.l)):=acN aC.len h
theorem acM{xs:List Seen}{x:Seen}(h:xs[i]?=some x):AV.shift (i* 3) (.rp (xs.flatMap Seen.l))=some (.rp (iv x.hour::iv x.next.min::iv x.next.max::(xs.drop (i+1)).flatMap Seen.l)):=acN Seen.len h
end
theorem yI(n:Nat)(xs:List Int):Lt n (br xs)=True:=by simp[br,vq,fe]
theorem aa5(n:Nat)(xs:List (List Int)):Lt n (zt xs)=True:=by
 simp only[zt,vq,Tl,eq_iff_iff,iff_true]
 rintro a ⟨b,_,rfl⟩
 rw[yI];trivial
theorem GM(n:Nat)(xs:List aC):Lt n (aS xs)=True:=by
 simp only[aS,vq,S6,eq_iff_iff,iff_true]
 rintro a ⟨b,_,h⟩
 simp only[aC.l,SL,S0,or_false]at h;rcases h with rfl|rfl|rfl|rfl<;>exact .val _
theorem aa6(n:Nat)(xs:List Seen):Lt n (dP xs)=True:=by
 simp only[dP,vq,S6,eq_iff_iff,iff_true]
 rintro a ⟨b,_,h⟩
 simp only[Seen.l,SL,S0,or_false]at h;rcases h with rfl|rfl|rfl<;>exact .val _
theorem aa4(n:Nat)(x:aj):∀a∈x.l,Lt n a:=by
 intro a ha;simp only[aj.l,SL,S0,or_false]at ha;rcases ha with rfl|rfl|rfl|rfl|rfl|rfl
 ·exact .val _
 ·exact .val _
 ·exact .val _
 ·rw[aa6];trivial
 ·rw[GM];trivial
 ·rw[GM];trivial
theorem Ds(n:Nat)(x:aj):Lt n x.av=True:=by simp only[aj.av,tX,eq_iff_iff,iff_true];exact aa4 n x
open Go.Conc Go.Proofs Go.Gg.Tk
namespace Tk
structure mY (h:List Int):Prop where
 len:h.length=4
 lo:∀a∈h,0<=a
 hi:∀a∈h,a<=1000
 span:h.getD 3 0<=h.getD 0 0+9
theorem mY.out{h:List Int}(k:mY h):∃a b c d,h=[a,b,c,d]/\(0<=a/\a<=1000)/\(0<=b/\b<=1000)/\(0<=c/\c<=1000)/\(0<=d/\d<=1000)/\d<=a+9:=by
 match h,k with
 |[a,b,c,d],k=>exact⟨a,b,c,d,rfl,⟨k.lo a (by simp),k.hi a (by simp)⟩,⟨k.lo b (by simp),k.hi b (by simp)⟩,⟨k.lo c (by simp),k.hi c (by simp)⟩,⟨k.lo d (by simp),k.hi d (by simp)⟩,by simpa using k.span⟩
theorem aiY{h:List Int}{y:aC}{n:Nat}(hn:(h.getD 3 0-h.getD 0 0).toNat<=n):lY h y n=false:=by
 unfold lY;rw[show decide (h.getD 0 0+(n:Int)<h.getD 3 0)=false from decide_eq_false (by omega)];rfl
theorem aiZ{h:List Int}{y:aC}(hs:h.getD 3 0<=h.getD 0 0+9):cm h y=jL (lY h y) (h.getD 3 0-h.getD 0 0).toNat:=by
 apply Nat.eq_of_testBit_eq;intro i;unfold cm;rw[BV,BV];by_cases hi:i<(h.getD 3 0-h.getD 0 0).toNat
 ·have h9:i<9:=by omega
  rw[decide_eq_true hi,decide_eq_true h9]
 ·rw[aiY (by omega)];simp
theorem Qt(h:List Int)(y:aC):cm h y<512:=EO (n:=9)
end Tk
theorem v6{α:Type}{xs:List α}{i:Nat}{x:α}(h:xs[i]?=some x):xs.drop i=x::xs.drop (i+1):=by
 obtain⟨h1,h2⟩:=SM.1 h;rw[TR h1,h2]
section
variable {lv:Bool}{H:List aa}{k kp:AV->List aa->Prop}
theorem Jw{b:iM}{n:Int}(hk:k (bv (lf b n)) H):bk lv SC 88 H [b.av,iv n] k kp:=by
 refine bL (rs:=[.tmp 4]) (nt:=15) Tryz.f88 λhH hA=> ?_;simp only[bt,SX,iM.av,iM.l];refine ak ?_;refine ak ?_;refine xR (λh=> ?_) (λh=> ?_)
 ·(try simp only[seval]);refine bf ?_;exact lX hH (by simpa[lf,h]using hk)
 ·(try simp only[seval]);refine bf ?_;exact lX hH (by simpa[lf,h]using hk)
theorem Qn{h:List Int}{n:Int}(h4:h.length=4)(hk:k (iv (jF h n)) H):bk lv SC 90 H [.agg (h.map iv),iv n] k kp:=by
 refine bL (rs:=[.tmp 4]) (nt:=24) Tryz.f90 λhH hA=> ?_;simp only[bt,SX];have qF:(h.map iv).length=4:=by simp[h4]
 refine ak ?_;refine ak ?_;refine cL ?_;refine sY 3 (λi:Nat=>[(6,iv i)]) (λ_=>_) (λi=>jF h n=fP i (h.drop i) n) rfl (λb_ dj i cV hi R hR=> ?_);refine ak ?_;refine aD ?_;refine⟨λhc=> ?_,λhc=> ?_⟩
 ·
  have qD:i<3:=by omega
  obtain⟨a,ha⟩:=cD (xs:=h) (i:=i) (by omega);obtain⟨b,hb⟩:=cD (xs:=h) (i:=i+1) (by omega);have e4:(0<=(i:Int)/\(i:Int)<4)=True:=by simp;omega
  have P6:(0<=(i:Int)+1/\(i:Int)+1<4)=True:=by simp;omega
  have hw:SE.wrap ((i:Int)+1)=(i:Int)+1:=bG _ (by omega);have pN:((i:Int)+1).toNat=i+1:=by omega
  have lJ:fP i (h.drop i) n=if a<=n/\n<b then(i:Int)else fP (i+1) (h.drop (i+1)) n:=by
   rw[v6 ha,v6 hb];simp only[fP]
  refine aN ?_;refine ak ?_;refine ai ?_;simp only[seval,e4,P6,hw,pN,ly ha,ly hb];refine xR (λh2=> ?_) (λh2=> ?_)
  ·(try simp only[seval,e4,P6,hw,pN,ly ha,ly hb]);refine aD ?_;refine⟨λh3=> ?_,λh3=> ?_⟩
   ·refine ak ?_;refine bf ?_;rw[hi,lJ,if_pos ⟨of_decide_eq_true h2,h3⟩]at hk;exact lX hH hk
   ·refine aN ?_;refine ai ?_;simp only[seval,hw];refine hR _ ⟨by omega,?_,dn⟩;rw[hi,lJ,if_neg (λq=>h3 q.2)]
  ·(try simp only[seval]);refine aD ?_;refine aN ?_;refine ai ?_;simp only[seval,hw];refine hR _ ⟨by omega,?_,dn⟩;rw[hi,lJ,if_neg (λq=>by simp at h2;omega)]
 ·
  have:i=3:=by omega
  subst this;refine cq ?_;refine ak ?_;refine bf ?_;have hm:fP 3 (h.drop 3) n= -1:=by
   match h,h4 with
   |[a,b,c,d],_=>rfl
  rw[hi,hm]at hk;exact lX hH hk
theorem xL{m n:Nat}(hm:m<65536)(hk:k (bv (m.testBit n)) H):bk lv SC 67 H [wv m,iv n] k kp:=by
 refine bL (rs:=[.tmp 4]) (nt:=10) Tryz.f67 λhH hA=> ?_;simp only[bt,SX];refine ak ?_;refine ai ?_;simp only[seval,BM,aeE];refine bf ?_;refine cr ?_;rw[ajL hm];exact hk
theorem uD{m n:Nat}(hm:m<65536)(hn:n<16)(hk:k (wv (m|||2^n)) H):bk lv SC 68 H [wv m,iv n] k kp:=by
 refine bL (rs:=[.tmp 4]) (nt:=9) Tryz.f68 λhH hA=> ?_;simp only[bt,SX];refine ak ?_;refine ai ?_;simp only[seval,aeO,BL];refine bf ?_;refine cr ?_;rw[asa hm hn];exact hk
theorem Fc{h:List Int}{y:aC}(hh:mY h)(hk:k (wv (cm h y)) H):bk lv SC 65 H [.agg (h.map iv),y.av] k kp:=by
 refine bL (rs:=[.tmp 4]) (nt:=34) Tryz.f65 λhH hA=> ?_;simp only[bt,SX,aC.av,aC.l];obtain⟨a,b,c,d,rfl,ha,hb,hc,hd,hs⟩:=hh.out;have pC:cm [a,b,c,d] y=jL (lY [a,b,c,d] y) (d-a).toNat:=aiZ hs;have hz:wv (jL (lY [a,b,c,d] y) 0)=wv 0:=rfl;refine ak ?_;refine ak ?_;refine ak ?_;refine cL ?_;refine iD (d-a).toNat (λi:Nat=>[(6,iv (a+i)),(5,wv (jL (lY [a,b,c,d] y) i))]) (λ_=>_) (λi=>True) (λ_ _=>rfl) (by rw[hz];simp only[seval];simp[bw,Wk.refl];exact Wk.refl _) rfl (λ_ _ _=>rfl) trivial (λb_ dj i cV hi R hR=> ?_);refine ak ?_;refine aD ?_;have cT:jL (lY [a,b,c,d] y) i<65536:=Tc EO (UL (Xj (by omega) (show i<=16 by omega)) (by decide));refine⟨λhc=> ?_,λhc=> ?_⟩
 ·
  have hlt:i<(d-a).toNat:=by omega
  have hw:SE.wrap (a+(i:Int)+1)=a+((i+1:Nat):Int):=by rw[bG _ (by omega)];push_cast;omega
  have f_:SE.wrap (a+(i:Int)-a)=(i:Int):=by rw[bG _ (by omega)];omega
  have FH:lY [a,b,c,d] y i=(lf y.number (a+i)&&lf y.hour (jF [a,b,c,d] (a+i))):=by
   unfold lY;rw[show decide ([a,b,c,d].getD 0 0+(i:Int)<[a,b,c,d].getD 3 0)=true from decide_eq_true (show a+(i:Int)<d by omega),Vs];rfl
  refine aN ?_;refine cL ?_;refine eU 12 ?_;simp only[seval];refine iU (bv (lf y.number (a+i))) (bX (Jw (b:=y.number) ⟨rfl,rfl⟩)) ?_;(try simp only[seval]);refine xR (λh2=> ?_) (λh2=> ?_)
  ·(try simp only[seval]);refine iU (iv (jF [a,b,c,d] (a+i))) (bX (Qn (h:=[a,b,c,d]) rfl ⟨rfl,rfl⟩)) ?_;(try simp only[seval]);refine iU (bv (lf y.hour (jF [a,b,c,d] (a+i)))) (bX (Jw (b:=y.hour) ⟨rfl,rfl⟩)) ?_;(try simp only[seval]);refine aD ?_;rw[h2,Vs]at FH;refine⟨λh3=> ?_,λh3=> ?_⟩
   ·refine ai ?_;simp only[seval,f_];refine aI ((uD cT (show i<16 by omega) ?_));(try simp only[seval]);refine ai ?_;simp only[seval,hw];refine hR _ ⟨by omega,trivial,?_⟩;rw[show jL (lY [a,b,c,d] y) (i+1)=jL (lY [a,b,c,d] y) i|||2^i from by rw[jL,FH,h3];rfl];exact dn
   ·refine aN ?_;refine ai ?_;simp only[seval,hw];refine hR _ ⟨by omega,trivial,?_⟩;rw[show jL (lY [a,b,c,d] y) (i+1)=jL (lY [a,b,c,d] y) i from by rw[jL,FH,h3];rfl];exact dn
  ·(try simp only[seval]);refine aD ?_;refine aN ?_;refine ai ?_;simp only[seval,hw];refine hR _ ⟨by omega,trivial,?_⟩;rw[show jL (lY [a,b,c,d] y) (i+1)=jL (lY [a,b,c,d] y) i from by rw[jL,FH,show lf y.number (a+i)=false by simpa using h2];rfl];exact dn
 ·have:i=(d-a).toNat:=by omega
  subst this;refine cq ?_;refine ak ?_;refine bf ?_;rw[pC]at hk;exact lX hH hk
end
open Go.Conc Go.Proofs Go.Gg.Tk
namespace Tk
structure sM (b:iM)(hi:Int):Prop where
 min:0<=b.min
 le:b.min<=b.max
 max:b.max<=hi
structure If (x:aj)(y:aC):Prop where
 number:sM y.number 99
 hour:sM y.hour (x.hours-1)
structure aj.Ok (x:aj):Prop where
 first:0<=x.first/\x.first<=90
 hours:1<=x.hours/\x.hours<=3
 am:1<=x.am/\x.am<=3
 vz:x.seen.length<=3
 eN:x.pieces.length<=4
 dx:x.aB.length<=3
 seen:∀s∈x.seen,(0<=s.hour/\s.hour<=x.hours)/\sM s.next 99
 piece:∀y∈x.pieces,If x y
 stub:∀y∈x.aB,If x y
def ud (hour:Nat)(n:Int)(s:Seen):Bool:= !decide (s.hour=hour)||lf s.next n
theorem aco(x:aj)(hour:Nat)(n:Int):sx x hour n=x.seen.all (ud hour n):=rfl
end Tk
theorem eI{H L:List aa}{i:Nat}{x:aa}(h:H[i]?=some x):(H++L)[i]?=some x:=by rw[SY (SM.1 h).1];exact h
theorem aW(Hs L:List aa)(i:Nat):(Hs++L)[Hs.length+i]?=L[i]?:=by rw[S8 (by omega)];congr 1;omega
theorem cY(Hs L:List aa)(i:Nat)(y:aa):(Hs++L).set (Hs.length+i) y=Hs++L.set i y:=by rw[T9 _ _ (by omega)];congr 2;omega
section
variable {lv:Bool}{H:List aa}{k kp:AV->List aa->Prop}
theorem Qm{x:aj}{h:List Int}{hour ir ih:Nat}{n:Int}(hx:x.Ok)(h4:h.length=4)(hn:h[hour]?=some n)(hr:H[ir]?=some (.cells x.l 76))(hi:H[ih]?=some (.cells (h.map iv) 83))(hk:k (bv (sx x hour n)) H):bk lv SC 87 H [iv hour,.op ir 0,.op ih 0] k kp:=by
 refine bL (rs:=[.tmp 4]) (nt:=29) Tryz.f87 λhH hA=> ?_;simp only[bt,SX];have pH:hour<4:=by have:=e_ hn;omega
 have b4:(0<=(hour:Int)/\(hour:Int)<4)=True:=by simp;omega
 have hlen:=hx.vz;have yn:∀L:List aa,(H++L)[ir]?=some (.cells x.l 76):=λL=>eI hr;have cu:∀L:List aa,(H++L)[ih]?=some (.cells (h.map iv) 83):=λL=>eI hi;have bT:x.l=[iv x.first,iv x.hours,iv x.am,dP x.seen,aS x.pieces,aS x.aB]:=rfl;refine ak ?_;refine ai ?_;simp only[seval,hr,bT,dP];refine cL ?_;refine sY x.seen.length (λi:Nat=>[(11,iv i)]) (λ_=>H) (λi=>x.seen.all (ud hour n)=(x.seen.drop i).all (ud hour n)) rfl (λb_ dj i cV hI R hR=> ?_);refine ak ?_;refine aD ?_;refine⟨λhc=> ?_,λhc=> ?_⟩
 ·
  have bD:i<x.seen.length:=by omega
  obtain⟨s,hs⟩:=cD bD;have lJ:x.seen.all (ud hour n)=(ud hour n s&&(x.seen.drop (i+1)).all (ud hour n)):=by rw[hI,v6 hs];rfl
  have hw:SE.wrap ((i:Int)+1)=((i+1:Nat):Int):=by rw[bG _ (by omega)];rfl
  refine aN ?_;refine ai ?_;simp only[seval,acM hs,j8 bD];refine eU 13 ?_;simp only[seval,cu,b4,ly hn];refine xR (λh2=> ?_) (λh2=> ?_)
  ·(try simp only[seval,cu,b4,ly hn]);refine iU (bv (lf s.next n)) (bX (Jw (b:=s.next) ⟨rfl,rfl⟩)) ?_;(try simp only[seval]);refine aD ?_;have hp:ud hour n s=lf s.next n:=(by unfold ud;rw[decide_eq_true (show s.hour=(hour:Int) by simpa using h2)];rfl);rw[hp]at lJ;refine⟨λh3=> ?_,λh3=> ?_⟩
   ·refine ak ?_;refine bf ?_;rw[aco,lJ,h3]at hk;exact lX hH hk
   ·refine aN ?_;refine ai ?_;simp only[seval,hw];refine hR _ ⟨bD,?_,(acg b_)⟩;rw[lJ,h3];rfl
  ·(try simp only[seval]);refine aD ?_;refine aN ?_;have hp:ud hour n s=true:=(by unfold ud;rw[decide_eq_false (show ¬s.hour=(hour:Int) by simpa using h2)];rfl);rw[hp]at lJ;refine ai ?_;simp only[seval,hw];refine hR _ ⟨bD,?_,(acg b_)⟩;rw[lJ];rfl
 ·
  have:i=x.seen.length:=by omega
  subst this;refine cq ?_;refine ak ?_;refine bf ?_;rw[aco,hI,List.drop_length]at hk;exact cr hk
end
end Go.Gg
