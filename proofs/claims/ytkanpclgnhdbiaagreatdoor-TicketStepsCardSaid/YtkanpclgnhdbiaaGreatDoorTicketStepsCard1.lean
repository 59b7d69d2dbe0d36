/- A part of the proof. -/
import Derived.Test.YtkanpclgnhdbiaaGreatDoorTicketStepsCard0
import Derived.Test.YtkanpclgnhdbiaaGreatDoorProg
import Derived.KernelRfl
set_option linter.all false
set_option maxRecDepth 4000
set_option maxHeartbeats 1000000
open Array renaming all_eq_true_iff_forall_mem->Uq,ext'->Va,getD_eq_getD_getElem?->SH,getElem?_append_left->Xq,getElem?_eq_getElem->SJ,getElem?_eq_none->XN,getElem?_eq_some_iff->SP,getElem?_modify->VG,getElem?_setIfInBounds_ne->SR,getElem?_setIfInBounds_self_of_lt->S7,getElem_mem->Xd,mem_iff_getElem?->XS,mem_of_getElem?->Wq,range->VY,replicate->TA,toList_map->Vm
open BitVec renaming ofInt->T4,toNat_or->Yy
open Bool renaming and_eq_true->Td,eq_iff_iff->UL,false_and->XR,false_eq_true->TC,false_or->YG,not_eq_true'->TL,not_true->ZD,or_eq_true->Xm,true_and->U0
open Classical renaming byContradiction->To
open ForInStep renaming yield->Ya
open Go.Act renaming put->Xl
open Go.BinOp renaming eql->W3,neq->Vk
open Go.Call renaming operands->Vr
open Go.CallKind renaming deferred->XZ,early->UJ,normal->Yh
open Go.Deferred renaming ofValue->UI
open Go.Frame renaming catches->Y0,round->Ww
open Go.FrameMode renaming returning->XF
open Go.GStep renaming after->TN
open Go.Instr renaming beginRound->W2,checkKey->UN,endLoop->YS,endRound->Ws,enterLoop->Wl,findAsking->W1,findKey->Vq,getLoop->VX,sameBits->VR,takeDeferred->Yg
open Go.IntKind renaming bits->ZL,i64->SE,signed->ZK,u16->S0,u32->Zp,u64->Ts,wrap->Wy
open Go.LoopState renaming busy->ZB
open Go.Next renaming value->Wr
open Go.Op renaming equal->Wa,equalIn->U6,operands->Tn
open Go.Operand renaming tmp->ZI
open Go.Proofs.Tryz renaming f77->W8,f97->ZG,prog->SD
open Go.Region renaming binds->XE,linearise->Yl,schedule->Vo,wanted->Tf
open Go.Region.linearise renaming go->Uo
open Go.Result.ok renaming inj->Zy
open Go.Sem renaming runT->Vf,runT_eq->Tt
open Go.Value renaming agg->Tw,bool->WB,cells->Y9,chan->W_,int->SG,map->YC,nilFunc->X7,slice->Uc
open Go.stepG renaming exec->TZ
open Int renaming toNat_natCast->U8
open List renaming all_cons->YW,all_eq_true->Tp,any_cons->X6,any_eq_true->Uw,append_assoc->SC,append_nil->SI,cons_append->Vb,contains_eq_mem->Ub,countP_le_length->Ye,drop_drop->Zd,drop_eq_getElem_cons->TR,drop_eq_nil_of_le->TK,drop_zero->WS,ext_getElem?->Zw,filter_congr->UU,filter_cons_of_neg->XJ,filter_cons_of_pos->XI,foldl_cons->Ux,forIn_cons->Wo,getD_eq_getElem?_getD->SF,getElem?_append_left->SY,getElem?_append_right->Tg,getElem?_cons_succ->Ut,getElem?_eq_getElem->SV,getElem?_eq_none->Us,getElem?_eq_some_iff->SM,getElem?_map->Ti,getElem?_set_ne->TP,getElem?_set_self->Wv,getElem?_take->TY,getLastD_cons->YA,length_append->SQ,length_drop->T8,length_map->Tj,length_set->TF,length_singleton->TQ,length_take->TW,mapM_cons->TS,mapM_nil->Um,mapM_toArray->Xi,map_congr_left->U9,map_cons->UE,map_drop->Zk,map_map->Xh,map_take->Vy,mem_append->SN,mem_append_left->Tb,mem_append_right->SZ,mem_cons->SK,mem_cons_of_mem->S9,mem_cons_self->Tu,mem_eraseDups->Yj,mem_filter->Uh,mem_filterMap->Vx,mem_flatMap->S4,mem_map->Th,mem_of_getElem?->S_,mem_range->TH,mem_range'->Xg,mem_toArray->Tx,nil_append->Up,nodup_cons->Vv,nodup_nil->V_,not_mem_nil->SU,range->SX,range'->TU,range'_append_1->Yi,range'_succ->Vu,range_eq_range'->UX,replicate->TG,replicate_succ->VN,reverse_nil->Xe,set_append_left->WQ,set_append_right->Uy,singleton_append->Yd,take_append_drop->UR,take_of_length_le->SW,take_succ_cons->Vt,take_zero->Zr
open Nat renaming add_mul->UO,add_zero->Uv,le_refl->SO,le_trans->Ur,lt_of_le_of_lt->Yq,lt_of_lt_of_le->Ta,lt_trans->VH,lt_trichotomy->WX,min_eq_left->WI,mod_lt->ZE,mul_le_mul_right->T1,mul_one->Xs,or_lt_two_pow->VZ,pow_le_pow_right->WH,pow_lt_pow_right->Wx,reduceAdd->SS,sub_self->UP,sub_zero->Y1,testBit_or->WG,testBit_two_pow->Vs,zero_add->VK,zero_le->Xr
open Option renaming bind_eq_some_iff->Tc,getD_some->S6,map_eq_some_iff->Tl,map_some->UB,some->SL
open Option.some renaming injEq->Te
open Std.Legacy.Range renaming forIn_eq_forIn_range'->VO,size->WM
namespace Go.Gg
open Go.Conc
structure Hv (k:AV->Prop):Type where
 n:Nat
def Ns (lv:Bool)(P:Program)(f:AV)(H:List aa)(aD:List AV)(k:AV->Prop)(_t:Hv k):Prop:=∃av,ja lv P f H aD (λb H'=>b=av/\H'=H) (λ_ _=>False)/\k av
def ac8 (lv:Bool)(P:Program)(f:AV)(name:String)(H:List aa)(aD:List AV)(k:AV->Prop)(_t:Hv k):Prop:=∃av,Dz lv P f name H aD (λb H'=>b=av/\H'=H) (λ_ _=>False)/\k av
theorem iH{lv:Bool}{P:Program}{f:AV}{H:List aa}{aD:List AV}{k:AV->Prop}{t:Hv k}(av:AV)(h:ja lv P f H aD (λb H'=>b=av/\H'=H) (λ_ _=>False))(hk:k av):Ns lv P f H aD k t:=⟨av,h,hk⟩
section
variable (lv:Bool)(P:Program)
def AQ (s:AS)(o:Oper)(k:AV->Prop):Prop:=match o.op with
 | .call c=>match c.callee with
  | .value x=>an (s.ev x) λf=>an (fx s c.args.toList) λaD=>Ns lv P f s.H aD k ⟨0⟩
  | .invoke x name=>an (s.ev x) λf=>an (fx s c.args.toList) λaD=>ac8 lv P f name s.H aD k ⟨0⟩
  | .builtin .append=>match c.args.toList,c.argTypes.toList with
   |[x,y],[t,t']=>an (jM P t t') λ(_,sz,_)=>an (s.ev x) λa=>an (s.ev y) λb=>a.u5 λn l e=>e= .exact/\an (s.src sz b) λ(m,l')=>l.length=n* sz/\l'.length=m* sz/\n+m<=2^30/\k (.sl (n+m) (l++l') .shut)
   |_,_=>False
  |_=>lx P s o k
 |_=>lx P s o k
def nZ (all:Array Oper):List Oper->AS->(AS->Prop)->Prop
 |[],s,K=>K s
 |o::rest,s,K=>match o.guard with
  |none=>AQ lv P s o λav=>nZ all rest (s.put o.dst av) K
  |some (j,b_)=>an ((all[j]?).bind (·.dst)) λd=>an (look s.T d) λa=>a.asBool λb=>qD b b_ (AQ lv P ⟨(d, .val (.bool b_))::s.T,s.H⟩ o λav=>nZ all rest ((⟨(d, .val (.bool b_))::s.T,s.H⟩:AS).put o.dst av) K) (nZ all rest ((⟨(d, .val (.bool !b_))::s.T,s.H⟩:AS).put o.dst (.val undef)) K) ⟨0⟩
end
section
variable {lv:Bool}{P:Program}{r:Option Nat}{o:Oper}{s:AS}
theorem abi{a:Act}{E:Env}{V:View}{av:AV}{N:Act->View->Prop}{Q:Ex->Act->View->Prop}(h1:∀E' V' v,E.Le E'->V'.role=V.role->V'.deaf=V.deaf->Conc E' V' s.H->ap E' av v->N (a.put o.dst v) V'):
  (∀nx V',Nx lv P (gW E V (λb H'=>b=av/\H'=s.H) (λ_ _=>False)) nx V'->mF lv P r o a N Q nx V')/\(∀v V',gW E V (λb H'=>b=av/\H'=s.H) (λ_ _=>False) (.panic [{v,recovered:=false}]) V'->Q (.panic [{v,recovered:=false}]) a V'):=by
 have hv:∀v V',gW E V (λb H'=>b=av/\H'=s.H) (λ_ _=>False) (.ret v) V'->N (a.put o.dst v) V':=λv V' ⟨b,E',H',hle,b8,fl,bm,bc,e1,e2⟩=>by
  subst e1 e2;exact h1 E' V' v hle b8 fl bc bm
 have hp:∀ch V',gW E V (λb H'=>b=av/\H'=s.H) (λ_ _=>False) (.panic ch) V'->Q (.panic ch) a V':=λch V' ⟨pv,v,E',H',fi,hle,b8,fl,bm,bc,hk⟩=>hk.elim;refine⟨λnx V' hn=> ?_,λv V' h=>hp _ _ h⟩;cases nx with
 |value v=>exact hv _ _ hn
 |skip=>exact hv _ _ hn
 |enter f args=>
  refine Body.mono (R':=fun
   | .ret v,V'=>N (a.put o.dst v) V'
   | .panic ch,V'=>Q (.panic ch) a V') hn λot aU h=> ?_
  cases ot with
  |ret v=>exact hv _ _ h
  |panic ch=>exact hp _ _ h
 |round l f tmps aD b=>
  refine na.mono (R':=fun
   | .ret v,V'=>N (a.put o.dst v) V'
   | .panic ch,V'=>Q (.panic ch) a V') hn λot aU h=> ?_
  cases ot with
  |ret v=>exact hv _ _ h
  |panic ch=>exact hp _ _ h
 |_=>exact hn.elim
theorem anQ{c:Call}{x y:Operand}{t t' elem:TypeId}{sz n m:Nat}{z:Value}{l l':List AV}{av:AV}(ho:o.op= .call c)(aX:c.callee= .builtin .append)(cO:c.args=#[x,y]) (di:c.argTypes=#[t,t']) (ht:jM P t t'=some (elem,sz,z))
  (hx:s.ev x=some (.sl n l .exact)) (hy:s.ev y=some av) (hs:s.src sz av=some (m,l')) (hl:l.length=n* sz) (eV:l'.length=m* sz) (hb:n+m<=2^30):dC lv P r o s (.sl (n+m) (l++l') .shut):=by
 intro E V a N Q hc aF bz hN;refine⟨bz, ?_⟩;have dz:=ap.ev aF hx;have iQ:=ap.ev aF hy;generalize ku:a.eval x=vx at dz;generalize rB:a.eval y=vy at iQ;unfold execOp;rw[ho];dsimp only;unfold resolve;rw[aX];dsimp only;refine az (aq ?_);unfold invoke builtin;dsimp only;refine az ?_;have nH:c.args.map a.eval=#[vx,vy]:=by rw[cO];simp[ku,rB]
 rw[nH,di];obtain⟨base,cap,rfl⟩:∃base cap,vx= .slice base n cap:=by
  cases dz with
  |sl b o cap f ec he q1 q2=>exact⟨_,_,rfl⟩
  |nil he=>exact⟨_,_,rfl⟩
 have gX:cap=n:=by
  cases dz with
  |sl b o cap f ec he q1 q2=>exact he
  |nil he=>rfl
 subst gX;have sT:(l++l').length=(cap+m)* sz:=by rw[SQ,hl,eV,UO]
 by_cases hm:m=0
 ·subst hm;have sL:l'=[]:=by simpa using eV
  subst sL;refine GB hc ht iQ hs eV (SO _) ?_;refine aq (hN E V _ (Env.Le.refl E) rfl rfl hc ?_);rw[Uv,SI];exact jw _ _ _ _ _ dz
 ·refine GA hc ht dz iQ hs hl eV hb (by omega) λrr cs cap' hf bm hle aW=> ?_;obtain⟨bc,rk⟩:=hc.acu (el:=elem) hf aW hle;have un:(cap+m)* sz<=cs.size:=by rw[aW];exact T1 _ hle
  refine aO.ghost (yL (f:=(0,0)) (cs:=cs) (el:=elem) (p:=(·<(cap+m)* sz)) (by simp[View.upd]) (λo _=>hf.2 o)) ?_;have p8:=Db (n:=s.H.length) (m:=s.H.length) (SO _) (by simp[Env.tok,hc.n]) rk hc.n;refine aq (hN _ _ _ p8 rfl rfl (bc.trim hc.ay) (Ie (I:=(V.laid rr cs elem (·<(cap+m)* sz)).ab) (e:= .shut) (sz:=sz) (cs:=cs) rfl (bm.mono p8) sT un (λo h=>FR (by simpa using h)) hle trivial))
theorem AQ.sound{k:AV->Prop}(h:AQ lv P s o k):∃av,dC lv P r o s av/\k av:=by
 unfold AQ at h;split at h
 ·rename_i c ho;split at h
  ·rename_i x aX;obtain⟨f,h1,hA⟩:=h.out;obtain⟨aD,h2,hB⟩:=hA.out;obtain⟨av,h3,h4⟩:=hB;refine⟨av,λE V a N Q hc aF bz hN=> ?_,h4⟩;have rz:=abi (lv:=lv) (P:=P) (r:=r) (o:=o) (Q:=Q) hN;refine⟨bz, ?_⟩;unfold execOp;rw[ho];dsimp only;unfold resolve;rw[aX];dsimp only;have e:c.args.map a.eval=(c.args.toList.map a.eval).toArray:=(by apply Va;simp);rw[e];exact(h3 E V (a.eval x) _ hc (ap.ev aF h1) (yJ aF h2)).mono (λnx V' h=>rz.1 nx V' h) (λv V' h=>rz.2 v V' h)
  ·rename_i x name aX;obtain⟨f,h1,hA⟩:=h.out;obtain⟨aD,h2,hB⟩:=hA.out;obtain⟨av,h3,h4⟩:=hB;refine⟨av,λE V a N Q hc aF bz hN=> ?_,h4⟩;have rz:=abi (lv:=lv) (P:=P) (r:=r) (o:=o) (Q:=Q) hN;refine⟨bz, ?_⟩;unfold execOp;rw[ho];dsimp only;unfold resolve;rw[aX];dsimp only;refine az (aq ?_);have e:c.args.map a.eval=(c.args.toList.map a.eval).toArray:=(by apply Va;simp);rw[e];exact(h3 E V (a.eval x) _ hc (ap.ev aF h1) (yJ aF h2)).mono (λnx V' h=>rz.1 nx V' h) (λv V' h=>rz.2 v V' h)
  ·rename_i aX;split at h
   ·rename_i x y t t' ha ht;obtain⟨⟨elem,sz,z⟩,h1,hA⟩:=h.out;obtain⟨a,h2,hB⟩:=hA.out;obtain⟨b,h3,hC⟩:=hB.out;obtain⟨n,l,e,e1,e0,hD⟩:=NH hC;subst e1 e0;obtain⟨⟨m,l'⟩,h4,h5,h6,h7,h8⟩:=hD.out;exact⟨_,anQ ho aX (nf ha) (rT ht) h1 h2 h3 h4 h5 h6 h7,h8⟩
   ·exact h.elim
  ·exact h.sound
 ·exact h.sound
end
section
variable {lv:Bool}{P:Program}{o:Oper}{T T':List (Nat×AV)}{H:List aa}{k:AV->Prop}
theorem Bg:∀(l:List Operand),(∀x∈l,AS.ev ⟨T,H⟩ x=AS.ev ⟨T',H⟩ x)->fx ⟨T,H⟩ l=fx ⟨T',H⟩ l
 |[],_=>rfl
 |x::l,h=>by simp only[fx,h x (Tu ..),Bg l λy hy=>h y (S9 _ hy)]
theorem Iz:∀(l:List (Nat×Operand)),(∀x∈l,AS.ev ⟨T,H⟩ x.2=AS.ev ⟨T',H⟩ x.2)->j9 ⟨T,H⟩ l=j9 ⟨T',H⟩ l
 |[],_=>rfl
 |x::l,h=>by simp only[j9,h x (Tu ..),Iz l λy hy=>h y (S9 _ hy)]
theorem mapM_congr:∀(l:List Operand),(∀x∈l,AS.ev ⟨T,H⟩ x=AS.ev ⟨T',H⟩ x)->l.mapM (AS.ev ⟨T,H⟩)=l.mapM (AS.ev ⟨T',H⟩)
 |[],_=>rfl
 |x::l,h=>by simp only[TS,h x (Tu ..),mapM_congr l λy hy=>h y (S9 _ hy)]
theorem HT(x:Option Operand)(h:∀y,x=some y->AS.ev ⟨T,H⟩ y=AS.ev ⟨T',H⟩ y):AS.jc ⟨T,H⟩ x=AS.jc ⟨T',H⟩ x:=by
 cases x with
 |none=>rfl
 |some y=>simp only[AS.jc,h y rfl]
theorem adi{op:BinOp}{t:TypeId}{y:Operand}{a:AV}(h:AS.ev ⟨T,H⟩ y=AS.ev ⟨T',H⟩ y):iK P ⟨T,H⟩ op t y a k=iK P ⟨T',H⟩ op t y a k:=by
 unfold iK;split<;>first|rfl|rw[h]
theorem lx.congr(h:∀x∈o.op.operands,AS.ev ⟨T,H⟩ x=AS.ev ⟨T',H⟩ x)(ha:lx P ⟨T,H⟩ o k):lx P ⟨T',H⟩ o k:=by
 unfold lx at ha⊢;generalize o.op=op at h ha⊢;cases op with
 |call c=>
  have cO:∀x∈c.args,AS.ev ⟨T,H⟩ x=AS.ev ⟨T',H⟩ x:=λx hx=>h x (by simp[Tn,Vr,hx]);dsimp only at ha⊢;split at ha
  ·obtain⟨x,h1,hA⟩:=ha.out;rw[h1,an];obtain⟨t,h2,hB⟩:=hA.out;rw[h2,an];rw[<- cO x (Wq h1)];obtain⟨a,h3,hC⟩:=hB.out;rw[h3,an];exact hC
  ·split at ha
   ·rename_i x y Jq;have:=nf Jq;rw[this]at cO;rw[<- cO x (by simp),<- cO y (by simp)];exact ha
   ·exact ha.elim
  ·split at ha
   ·rename_i x y Jq;have:=nf Jq;rw[this]at cO;rw[<- cO x (by simp),<- cO y (by simp)];exact ha
   ·exact ha.elim
  ·exact ha.elim
 |build t parts=>
  dsimp only at ha⊢;rw[<- Iz parts.toList λx hx=>h x.2 (by simp only[Tn,Tx,Th];exact⟨x,hx,rfl⟩)];exact ha
 |buildSlice t n parts=>
  dsimp only at ha⊢;rw[<- Iz parts.toList λx hx=>h x.2 (by simp only[Tn,Tx,Th];exact⟨x,hx,rfl⟩)];exact ha
 |makeFunc f first cS=>
  dsimp only at ha⊢;rw[<- mapM_congr first.toList λx hx=>h x (by simp[Tn];exact .inl (by simpa using hx)),<- mapM_congr cS.toList λx hx=>h x (by simp[Tn];exact .inr (by simpa using hx))];exact ha
 |slice t x lo hi mx=>
  dsimp only at ha⊢;rw[<- h x (by simp[Tn]),<- HT lo λy hy=>h y (by simp[Tn,hy]),<- HT hi λy hy=>h y (by simp[Tn,hy]),<- HT mx λy hy=>h y (by simp[Tn,hy])];exact ha
 |pick c a b=>dsimp only at ha⊢;rw[<- h c (by simp[Tn]),<- h a (by simp[Tn]),<- h b (by simp[Tn])];exact ha
 |binOp op t a b u=>
  dsimp only at ha⊢;rw[<- h a (by simp[Tn])];obtain⟨x,h1,hA⟩:=ha.out;rw[h1,an];rw[<- adi (h b (by simp[Tn]))];exact hA
 |indexAddr t a b=>dsimp only at ha⊢;rw[<- h a (by simp[Tn]),<- h b (by simp[Tn])];exact ha
 |index t a b=>dsimp only at ha⊢;rw[<- h a (by simp[Tn]),<- h b (by simp[Tn])];exact ha
 |move x=>dsimp only at ha⊢;rw[<- h x (by simp[Tn])];exact ha
 |assign x=>dsimp only at ha⊢;rw[<- h x (by simp[Tn])];exact ha
 |unOp op t x=>cases op<;>dsimp only at ha⊢<;>first|exact ha.elim|(rw[<- h x (by simp[Tn])];exact ha)
 |convert a b x=>dsimp only at ha⊢;rw[<- h x (by simp[Tn])];exact ha
 |lookup t m x ok=>dsimp only at ha⊢;rw[<- h m (by simp[Tn]),<- h x (by simp[Tn])];exact ha
 |extract x i=>dsimp only at ha⊢;rw[<- h x (by simp[Tn])];exact ha
 |nilCheck x=>dsimp only at ha⊢;rw[<- h x (by simp[Tn])];exact ha
 |makeInterface t x=>dsimp only at ha⊢;rw[<- h x (by simp[Tn])];exact ha
 |typeAssert x a b c=>dsimp only at ha⊢;rw[<- h x (by simp[Tn])];exact ha
 |fieldAddr t x f=>dsimp only at ha⊢;rw[<- h x (by simp[Tn])];exact ha
 |field t x f=>dsimp only at ha⊢;rw[<- h x (by simp[Tn])];exact ha
 |load t x=>dsimp only at ha⊢;rw[<- h x (by simp[Tn])];exact ha
 |entry x=>dsimp only at ha⊢;rw[<- h x (by simp[Tn])];exact ha
 |_=>exact ha.elim
theorem apE(sz:Nat)(a:AV):AS.src ⟨T,H⟩ sz a=AS.src ⟨T',H⟩ sz a:=by cases a<;>rfl
theorem AQ.congr(h:∀x∈o.op.operands,AS.ev ⟨T,H⟩ x=AS.ev ⟨T',H⟩ x)(ha:AQ lv P ⟨T,H⟩ o k):AQ lv P ⟨T',H⟩ o k:=by
 unfold AQ at ha⊢;split at ha
 ·rename_i c ho;have cO:∀x∈c.args.toList,AS.ev ⟨T,H⟩ x=AS.ev ⟨T',H⟩ x:=λx hx=>h x (by rw[ho];simp[Tn,Vr];exact .inr (by simpa using hx));split at ha
  ·rename_i x aX;rw[<- h x (by rw[ho];simp[Tn,Vr,aX]),<- Bg _ cO];exact ha
  ·rename_i x name aX;rw[<- h x (by rw[ho];simp[Tn,Vr,aX]),<- Bg _ cO];exact ha
  ·split at ha
   ·rename_i x y t t' hx ht;rw[hx]at cO;rw[<- cO x (by simp),<- cO y (by simp)];simp only[apE (T:=T) (T':=T')]at ha;exact ha
   ·exact ha.elim
  ·exact lx.congr h ha
 ·exact lx.congr h ha
end
def cY (ops:Array Oper)(j:Nat):Option Nat:=(ops[j]?).bind (·.dst)
inductive Reach (ops:Array Oper):Nat->Nat->Prop
 |It {i j:Nat} {o:Oper} (ho:ops[i]?=some o) (hj:j∈cQ o):Reach ops i j
 |more {i k j:Nat} {o:Oper} (ho:ops[i]?=some o) (hk:k∈cQ o) (h:Reach ops k j):Reach ops i j
def tK (acc:List (List Nat))(o:Oper):List (List Nat):=acc++[(cQ o++(cQ o).flatMap λj=>acc.getD j []).eraseDups]
def H2 (ops:Array Oper):List (List Nat):=ops.toList.foldl tK []
theorem Oj(ops:Array Oper):∀(l:List Oper)(acc:List (List Nat))(i:Nat),acc.length=i->(∀k o,l[k]?=some o->ops[i+k]?=some o)->(∀a,a<acc.length->∀j∈acc.getD a [],Reach ops a j)->
  ∀a,∀j∈(l.foldl tK acc).getD a [],Reach ops a j
 |[],acc,i,_,_,h,a,j,hj=>by
  simp only[List.foldl_nil]at hj;by_cases ha:a<acc.length
  ·exact h a ha j hj
  ·rw[SF,Us (by omega)]at hj;simp at hj
 |o::l,acc,i,hi,ho,h,a,j,hj=>by
  rw[Ux]at hj;refine Oj ops l (tK acc o) (i+1) (by simp[tK,hi]) (λk o' hk=>by have:=ho (k+1) o' (by simpa using hk);rwa [show i+(k+1)=i+1+k by omega]at this) (λa ha j hj=> ?_) a j hj;have Ff:ops[i]?=some o:=by have:=ho 0 o rfl;simpa using this
  have rf:∀a,a<acc.length->(tK acc o).getD a []=acc.getD a []:=λa ha=>by
   simp[tK,SF,SY ha]
  by_cases gC:a<acc.length
  ·rw[rf a gC]at hj;exact h a gC j hj
  ·have hae:a=acc.length:=(by simp[tK]at ha;omega);subst hae;have e:(tK acc o).getD acc.length []=(cQ o++(cQ o).flatMap λj=>acc.getD j []).eraseDups:=by
    simp[tK,SF]
   rw[e,Yj,SN]at hj;rw[hi];rcases hj with hj|hj
   ·exact .It Ff hj
   ·obtain⟨k,hk,hj⟩:=S4.1 hj;have B1:k<acc.length:=by
     apply To;intro hn;rw[SF,Us (by omega)]at hj;simp at hj
    exact .more Ff hk (h k B1 j hj)
def yF (nt p:Nat)(ops:Array Oper):Bool:=
 let cl:=H2 ops;decide (p<=ops.size)&&
 (SX ops.size).all (λi=>match ops[i]?with
  |some o=>o.dst.all (·<nt)&& !ml o.op&&(cQ o).all (·<i)&&
   (if i<p then
    (SX i).all (λj=>match o.dst,cY ops j with
     |some d,some d'=>d !=d'
     |_,_=>true)&&
    (o.op.operands.toList.all λx=>match x with
     | .tmp t=>(SX p).all λj=>cY ops j !=some t||(cQ o).contains j
     |_=>true)&&
    (match o.guard with
     |some (j,_)=>(cQ o).contains j
     |none=>true)
   else(SX i).all λj=>(cl.getD i []).contains j)
  |none=>true)
structure yh (nt p:Nat)(ops:Array Oper):Prop where
 le:p<=ops.size
 dst:∀(i:Nat) o d,ops[i]?=some o->o.dst=some d->d<nt
 vd:∀(i:Nat) o,ops[i]?=some o->ml o.op=false
 low:∀(i:Nat) o,ops[i]?=some o->∀j∈cQ o,j<i
 dT:∀(i j:Nat) o d,j<i->i<p->ops[i]?=some o->o.dst=some d->cY ops j≠some d
 LS:∀(i:Nat) o t j,i<p->ops[i]?=some o-> .tmp t∈o.op.operands->j<p->cY ops j=some t->j∈cQ o
 Bs:∀(i:Nat) o j w,i<p->ops[i]?=some o->o.guard=some (j,w)->j∈cQ o
 suf:∀(i j:Nat),p<=i->i<ops.size->j<i->Reach ops i j
theorem yF.out{nt p:Nat}{ops:Array Oper}(h:yF nt p ops=true):yh nt p ops:=by
 unfold yF at h;simp only[Td,decide_eq_true_eq]at h;obtain⟨hle,h⟩:=h;have key:∀(i:Nat) o,ops[i]?=some o->(o.dst.all (·<nt)=true/\ml o.op=false/\(∀j∈cQ o,j<i))/\
   (if i<p then
    (SX i).all (λj=>match o.dst,cY ops j with
     |some d,some d'=>d !=d'
     |_,_=>true)&&
    (o.op.operands.toList.all λx=>match x with
     | .tmp t=>(SX p).all λj=>cY ops j !=some t||(cQ o).contains j
     |_=>true)&&
    (match o.guard with
     |some (j,_)=>(cQ o).contains j
     |none=>true)
   else(SX i).all λj=>((H2 ops).getD i []).contains j)=true:=λi o ho=>by
  have hi:i<ops.size:=(SP.1 ho).1;have:=Tp.1 h i (by simpa using hi);rw[ho]at this;simp only[Td,Tp,TL,decide_eq_true_eq]at this;exact⟨⟨this.1.1.1,this.1.1.2,this.1.2⟩,by simpa only[Td,Tp]using this.2⟩
 refine⟨hle,λi o d ho hd=> ?_,λi o ho=>(key i o ho).1.2.1,λi o ho=>(key i o ho).1.2.2,λi j o d hj hp ho hd e=> ?_,λi o t j hp ho ht hj e=> ?_,λi o j w hp ho hg=> ?_,λi j hp hi hj=> ?_⟩
 ·have:=(key i o ho).1.1;rw[hd]at this;simpa using this
 ·have:=(key i o ho).2;rw[if_pos hp]at this;simp only[Td,Tp]at this;have:=this.1.1 j (by simpa using hj);rw[hd,e]at this;simp at this
 ·have:=(key i o ho).2;rw[if_pos hp]at this;simp only[Td,Tp]at this;have:=this.1.2 (.tmp t) (by simpa using ht);simp only[Tp]at this;have:=this j (by simpa using hj);rw[e]at this;simpa using this
 ·have:=(key i o ho).2;rw[if_pos hp]at this;simp only[Td]at this;have:=this.2;rw[hg]at this;simpa using this
 ·have:=(key i ops[i] (SJ hi)).2;rw[if_neg (by omega)]at this;simp only[Tp]at this;have:=this j (by simpa using hj);refine Oj ops ops.toList [] 0 rfl (λk o hk=>by simpa using hk) (by simp) i j ?_;simpa[H2]using this
theorem Ph{α β:Type}{f g:α->Option β}:∀{l:List α},(∀x∈l,f x=g x)->l.filterMap f=l.filterMap g
 |[],_=>rfl
 |x::l,h=>by
  have ih:=Ph (l:=l) λy hy=>h y (S9 _ hy);simp only[List.filterMap_cons,h x (Tu ..),ih]
def lA (ops:Array Oper)(f:Nat->AV)(o:Oper):List (Nat×AV):=(cQ o).filterMap λj=>(cY ops j).map λd=>(d,f j)
def wy (lv:Bool)(P:Program)(r:Option Nat)(ops:Array Oper)(T0:List (Nat×AV))(H:List aa)(f:Nat->AV)(i:Nat)(o:Oper):Prop:=
 match o.guard with
 |none=>dC lv P r o ⟨lA ops f o++T0,H⟩ (f i)
 |some (j,b_)=>∃d b,cY ops j=some d/\look (lA ops f o++T0) d=some (.val (.bool b))/\(b=b_->dC lv P r o ⟨lA ops f o++T0,H⟩ (f i))/\(b= !b_->f i= .val undef)
theorem zK(l m:List (Nat×AV))(t:Nat):look (l++m) t=(look l t).or (look m t):=by
 induction l with
 |nil=>rfl
 |cons x l ih=>
  obtain⟨k,a⟩:=x;simp only[Vb,look];split
  ·rfl
  ·exact ih
theorem rG{l:List (Nat×AV)}{t:Nat}{a:AV}(h:look l t=some a):(t,a)∈l:=by
 induction l with
 |nil=>cases h
 |cons x l ih=>
  obtain⟨k,b⟩:=x;simp only[look]at h;split at h
  ·rename_i e;subst e;cases h;exact Tu ..
  ·exact S9 _ (ih h)
theorem aaf{l:List (Nat×AV)}{t:Nat}(h:∀p∈l,p.1≠t):look l t=none:=by
 induction l with
 |nil=>rfl
 |cons x l ih=>
  obtain⟨k,b⟩:=x;simp only[look];rw[if_neg (h _ (Tu ..))];exact ih λp hp=>h p (S9 _ hp)
theorem ama{l:List (Nat×AV)}{q:Nat->Bool}{t:Nat}:look (l.filter λp=>q p.1) t=if q t then look l t else none:=by
 induction l with
 |nil=>simp[look]
 |cons x l ih=>
  obtain⟨k,b⟩:=x;by_cases hk:q k=true
  ·rw[XI (by simpa using hk)];simp only[look];by_cases e:k=t
   ·subst e;simp[hk]
   ·simp[e,ih]
  ·rw[XJ (by simpa using hk),ih];simp only[look];by_cases e:k=t
   ·subst e;simp[hk]
   ·simp[e]
section
variable {ops:Array Oper}{f:Nat->AV}{p:Nat}
theorem al8{o:Oper}{j t:Nat}(hj:j∈cQ o)(ht:cY ops j=some t)(xx:∀j'∈cQ o,cY ops j'=some t->j'=j):look (lA ops f o) t=some (f j):=by
 cases e:look (lA ops f o) t with
 |none=>
  exfalso;have hm:(t,f j)∈lA ops f o:=Vx.2 ⟨j,hj,by rw[ht];rfl⟩;have:∀(l:List (Nat×AV)),(t,f j)∈l->look l t≠none:=by
   intro l;induction l with
   |nil=>intro h;cases h
   |cons x l ih=>
    intro h;obtain⟨k,b⟩:=x;simp only[look];split
    ·simp
    ·rename_i aE;rcases SK.1 h with h|h
     ·cases h;exact absurd rfl aE
     ·exact ih h
  exact this _ hm e
 |some a=>
  obtain⟨j',iC,e'⟩:=Vx.1 (rG e);obtain⟨d,hd,e'⟩:=Tl.1 e';cases e';rw[xx j' iC hd]
theorem al9{o:Oper}{t:Nat}(h:∀j∈cQ o,cY ops j≠some t):look (lA ops f o) t=none:=by
 refine aaf λx hx e=> ?_;obtain⟨j,hj,e'⟩:=Vx.1 hx;obtain⟨d,hd,e'⟩:=Tl.1 e';cases e';exact h j hj (by rw[hd];exact congrArg some e)
end
section
variable {lv:Bool}{P:Program}{r:Option Nat}{s:AS}{ops:Array Oper}{nt p:Nat}
def tI (s:AS)(ops:Array Oper)(p:Nat):List (Nat×AV):=s.T.filter λx=>(SX p).all λj=>cY ops j !=some x.1
theorem FZ(t:Nat):look (tI s ops p) t=if(SX p).all (λj=>cY ops j !=some t)then look s.T t else none:=ama (q:=λt=>(SX p).all λj=>cY ops j !=some t)
structure oO (s:AS)(ops:Array Oper)(fs:List AV)(s':AS):Prop where
 H:s'.H=s.H
 new:∀j t,j<fs.length->cY ops j=some t->look s'.T t=fs[j]?
 old:∀t,(∀j,j<fs.length->cY ops j≠some t)->look s'.T t=look s.T t
theorem oO.put(ay:yh nt p ops){fs:List AV}{s':AS}(h:oO s ops fs s')(hp:fs.length<p){o:Oper}(ho:ops[fs.length]?=some o)(av:AV):oO s ops (fs++[av]) (s'.put o.dst av):=by
 have hd:cY ops fs.length=o.dst:=by simp[cY,ho]
 refine⟨by rw[fB];exact h.H,λj t hj ht=> ?_,λt ht=> ?_⟩
 ·simp only[SQ,TQ]at hj;by_cases J4:j=fs.length
  ·subst J4;rw[hd]at ht;rw[ht];simp[AS.put,look]
  ·have iC:j<fs.length:=(by omega);rw[SY iC,<- h.new j t iC ht];cases sG:o.dst with
   |none=>rfl
   |some d=>
    have aE:d≠t:=λe=>ay.dT fs.length j o d iC hp ho sG (by rw[e];exact ht);simp[AS.put,look,aE]
 ·have hold:=h.old t λj hj=>ht j (by simp;omega);rw[<- hold];cases sG:o.dst with
  |none=>rfl
  |some d=>
   have aE:d≠t:=λe=>ht fs.length (by simp) (by rw[hd,sG,e]);simp[AS.put,look,aE]
theorem oO.rF{fs:List AV}{s':AS}(h:oO s ops fs s'){d:Nat}{a:AV}(hd:look s'.T d=some a):oO s ops fs ⟨(d,a)::s'.T,s'.H⟩:=by
 have e:∀t,look ((d,a)::s'.T) t=look s'.T t:=λt=>by
  simp only[look];split
  ·rename_i e;subst e;exact hd.symm
  ·rfl
 exact⟨h.H,λj t hj ht=>by rw[e];exact h.new j t hj ht,λt ht=>by rw[e];exact h.old t ht⟩
theorem oO.seen(ay:yh nt p ops){fs gs:List AV}{s':AS}(h:oO s ops fs s')(hp:fs.length<p){o:Oper}(ho:ops[fs.length]?=some o){t:Nat}(ht:∀j,j<p->cY ops j=some t->j∈cQ o):
  look (lA ops (λj=>(fs++gs).getD j (.val undef)) o++tI s ops p) t=look s'.T t:=by
 have im:=ay.low fs.length o ho;have akM:∀j j',j<p->j'<p->cY ops j=some t->cY ops j'=some t->j'=j:=λj j' hj iC e e'=>by
  have get:∀i,i<p->∃o,ops[i]?=some o:=λi hi=>⟨_,SJ (Ta hi ay.le)⟩;rcases WX j j' with hlt|hlt|hlt
  ·obtain⟨o',bf⟩:=get j' iC;exact absurd e (ay.dT j' j o' t hlt iC bf (by simpa[cY,bf]using e'))
  ·exact hlt.symm
  ·obtain⟨o',bf⟩:=get j hj;exact absurd e' (ay.dT j j' o' t hlt hj bf (by simpa[cY,bf]using e))
 rw[zK];by_cases hex:∃j,j<p/\cY ops j=some t
 ·obtain⟨j,hj,vK⟩:=hex;have dL:=ht j hj vK;have fy:=im j dL;rw[al8 dL vK λj' iC e=>akM j j' hj (VH (im j' iC) hp) vK e];rw[h.new j t fy vK];simp[SF,SY fy,SV fy]
 ·have gk:∀j,j<p->cY ops j≠some t:=λj hj e=>hex ⟨j,hj,e⟩;rw[al9 λj hj=>gk j (VH (im j hj) hp),Option.none_or,FZ,if_pos (by simp only[Tp];intro j hj;simpa using gk j (by simpa using hj))];exact(h.old t λj hj=>gk j (by omega)).symm
theorem Mp(ay:yh nt p ops){K:AS->Prop}:∀(n:Nat)(fs:List AV)(s':AS),fs.length+n=p->oO s ops fs s'->nZ lv P ops ((ops.toList.take p).drop fs.length) s' K->
  ∃gs,(fs++gs).length=p/\(∀i o,fs.length<=i->i<p->ops[i]?=some o->wy lv P r ops (tI s ops p) s.H (λj=>(fs++gs).getD j (.val undef)) i o)/\∃dA,oO s ops (fs++gs) dA/\K dA
 |0,fs,s',hn,hr,h=>by
  have:(ops.toList.take p).drop fs.length=[]:=by
   apply TK;simp;omega
  rw[this]at h;exact⟨[],by simp;omega,λi o h1 h2=>absurd h2 (by omega),s',by simpa using hr,h⟩
 |n+1,fs,s',hn,hr,h=>by
  have hp:fs.length<p:=by omega
  have aW:fs.length<ops.size:=Ta hp ay.le;have ho:ops[fs.length]?=some ops[fs.length]:=SJ aW;generalize Km:ops[fs.length]=o at ho;have hd:(ops.toList.take p).drop fs.length=o::(ops.toList.take p).drop (fs.length+1):=by
   rw[TR (by simp;omega)];simp[Km]
  rw[hd]at h;have aj6:∀t,ZI t∈o.op.operands->∀j,j<p->cY ops j=some t->j∈cQ o:=λt ht j hj e=>ay.LS fs.length o t j hp ho ht hj e;have cu:∀(s1:AS)(gs:List AV),oO s ops fs s1->∀x∈o.op.operands,AS.ev s1 x=AS.ev ⟨lA ops (λj=>(fs++gs).getD j (.val undef)) o++tI s ops p,s.H⟩ x:=λs1 gs Cf x hx=>by
   cases x with
   |tmp t=>exact(Cf.seen ay hp ho (aj6 t hx)).symm
   |_=>rfl
  have go:∀(s1:AS),oO s ops fs s1->(AQ lv P s1 o λav=>nZ lv P ops ((ops.toList.take p).drop (fs.length+1)) (s1.put o.dst av) K)->
    ∃av gs,(fs++av::gs).length=p/\dC lv P r o ⟨lA ops (λj=>(fs++av::gs).getD j (.val undef)) o++tI s ops p,s.H⟩ av/\(∀i o,fs.length+1<=i->i<p->ops[i]?=some o->wy lv P r ops (tI s ops p) s.H (λj=>(fs++av::gs).getD j (.val undef)) i o)/\∃dA,oO s ops (fs++av::gs) dA/\K dA:=λs1 Cf h1=>by
   obtain⟨av0,_,_⟩:=h1.sound (r:=r);have dW:s1=⟨s1.T,s.H⟩:=(by rw[<- Cf.H]);rw[dW]at h1;have h2:=AQ.congr (T':=lA ops (λj=>(fs++[]).getD j (.val undef)) o++tI s ops p) (λx hx=>by rw[<- dW];exact cu s1 [] Cf x hx) h1;obtain⟨av,hq,h3⟩:=h2.sound (r:=r);obtain⟨gs,g1,g2,dA,g3,g4⟩:=Mp ay n (fs++[av]) (s1.put o.dst av) (by simp;omega) (Cf.put ay hp ho av) (by rw[<- dW]at h3;simpa using h3);have e:fs++[av]++gs=fs++av::gs:=(by simp);rw[e]at g1 g2 g3;refine⟨av,gs,g1, ?_,λi o hi=>g2 i o (by simpa using hi),dA,g3,g4⟩;have ed:lA ops (λj=>(fs++av::gs).getD j (.val undef)) o=lA ops (λj=>(fs++[]).getD j (.val undef)) o:=by
    unfold lA;apply Ph;intro j hj;have fy:=ay.low fs.length o ho j hj;simp[SF,SY fy]
   rw[ed];exact hq
  simp only[nZ]at h;split at h
  ·rename_i hg;obtain⟨av,gs,g1,g2,g3,g4⟩:=go s' hr h;refine⟨av::gs,g1,λi o' hi pY bf=> ?_,g4⟩;by_cases dK:i=fs.length
   ·subst dK;rw[ho]at bf;cases bf;unfold wy;rw[hg];simpa[SF]using g2
   ·exact g3 i o' (by omega) pY bf
  ·rename_i j b_ hg;obtain⟨d,bW,hA⟩:=h.out;obtain⟨a,fz,hB⟩:=hA.out;obtain⟨b,e1,hC,hD⟩:=yu hB;subst e1;have dL:=ay.Bs fs.length o j b_ hp ho hg;have fy:=ay.low fs.length o ho j dL;have RB:∀gs,look (lA ops (λj=>(fs++gs).getD j (.val undef)) o++tI s ops p) d=some (.val (.bool b)):=λgs=>by
    rw[hr.seen ay hp ho λj' iC e=> ?_]
    ·exact fz
    ·have get:∀i,i<p->∃o,ops[i]?=some o:=λi hi=>⟨_,SJ (Ta hi ay.le)⟩;rcases WX j j' with hlt|hlt|hlt
     ·obtain⟨o',bf⟩:=get j' iC;exact absurd bW (ay.dT j' j o' d hlt iC bf (by simpa[cY,bf]using e))
     ·rw[<- hlt];exact dL
     ·obtain⟨o',bf⟩:=get j (by omega);exact absurd e (ay.dT j j' o' d hlt (by omega) bf (by simpa[cY,bf]using bW))
   by_cases hb:b=b_
   ·subst hb;obtain⟨av,gs,g1,g2,g3,g4⟩:=go _ (hr.rF fz) (hC rfl);refine⟨av::gs,g1,λi o' hi pY bf=> ?_,g4⟩;by_cases dK:i=fs.length
    ·subst dK;rw[ho]at bf;cases bf;unfold wy;rw[hg];refine⟨d,b,bW,RB _,λ_=>by simpa[SF]using g2,λe=>by cases b<;>cases e⟩
    ·exact g3 i o' (by omega) pY bf
   ·have dG:b= !b_:=(by cases b<;>cases b_<;>simp_all);subst dG;have h3:=hD rfl;obtain⟨gs,g1,g2,dA,g3,g4⟩:=Mp ay n (fs++[.val undef]) _ (by simp;omega) ((hr.rF fz).put ay hp ho (.val undef)) (by simpa using h3);have e:fs++[.val undef]++gs=fs++ .val undef::gs:=(by simp);rw[e]at g1 g2 g3;refine⟨.val undef::gs,g1,λi o' hi pY bf=> ?_,dA,g3,g4⟩;by_cases dK:i=fs.length
    ·subst dK;rw[ho]at bf;cases bf;unfold wy;rw[hg];exact⟨d, !b_,bW,RB _,λe=>absurd e hb,λ_=>by simp[SF]⟩
    ·exact g2 i o' (by simp;omega) pY bf
structure Ho (E:Env)(V:View)(ops:Array Oper)(T0:List (Nat×AV))(H:List aa)(f:Nat->AV)(X:List Nat)(a:Act)(nt:Nat):Prop where
 bw:Conc E V H
 base:cj E T0 a.tmps
 done:∀i∈X,∀d,cY ops i=some d->ap E (f i) (a.tmps.getD d undef)
 size:a.tmps.size=nt
theorem z_{X:List Nat}(hX:∀i∈X,∀o,ops[i]?=some o->∀j∈cQ o,j∈X){i j:Nat}(h:Reach ops i j):((∀o,ops[i]?=some o->∀k∈cQ o,k∈X))->j∈X:=by
 induction h with
 |It ho hj=>intro hd;exact hd _ ho _ hj
 |more ho hk _ ih=>intro hd;exact ih (hX _ (hd _ ho _ hk))
theorem ao5(ay:yh nt p ops){X l:List Nat}(hs:l5 ops X l):∀q,p<=q->q<=ops.size->(∀i,i∈X<->i<q)->(∀i∈X,∀o,ops[i]?=some o->∀j∈cQ o,j∈X)->l=TU q (ops.size-q):=by
 induction hs with
 |nil X h=>
  intro q hp hq hX _;have:ops.size<=q:=by
   apply To;intro hn;have:=(hX q).1 (h q (by omega));omega
  have:ops.size-q=0:=by omega
  rw[this];rfl
 |cons o ho hn hd _ ih=>
  rename_i X i l _;intro q hp hq hX hc;have hi:i<ops.size:=(SP.1 ho).1;have hiq:q<=i:=by
   apply To;intro h;exact hn ((hX i).2 (by omega))
  have hqi:i=q:=by
   apply To;intro aE;have:=z_ hc (ay.suf i q (by omega) hi (by omega)) (λo' bf k hk=>by rw[ho]at bf;cases bf;exact hd k hk);have:=(hX q).1 this;omega
  subst hqi;have e:ops.size-i=(ops.size-(i+1))+1:=by omega
  rw[e,Vu];congr 1;refine ih (i+1) (by omega) (by omega) (λk=> ?_) (λk hk o' bf j hj=> ?_)
  ·simp only[SK,hX];omega
  ·rcases SK.1 hk with rfl|hk
   ·rw[ho]at bf;cases bf;exact S9 _ (hd j hj)
   ·exact S9 _ (hc k hk o' bf j hj)
theorem af7{T0:List (Nat×AV)}{H:List aa}{f:Nat->AV}(ay:yh nt p ops)(aiW:∀j,j<p->∀d,cY ops j=some d->look T0 d=none)(au:∀(i:Nat) o,i<p->ops[i]?=some o->wy lv P r ops T0 H f i o){X l:List Nat}(hs:l5 ops X l):
  (∀i∈X,i<p)->(∀i∈X,∀o,ops[i]?=some o->∀j∈cQ o,j∈X)->∀(E:Env)(V:View)(a:Act)(Q:Ex->Act->View->Prop),Ho E V ops T0 H f X a nt->
   (∀E' V' a' X',Kept E E' V V' a a'->Ho E' V' ops T0 H f X' a' nt->(∀i,i<p->i∈X')->dj lv P r ops Q (TU p (ops.size-p)) a' V')->dj lv P r ops Q l a V:=by
 have full:∀X:List Nat,(∀i∈X,i<p)->(∀i,i<p->i∈X)->∀i,i∈X<->i<p:=λX h1 h2 i=>⟨h1 i,h2 i⟩;induction hs with
 |nil X h=>
  intro hX hc E V a Q ah hQ;have dq:p=ops.size:=by
   apply To;intro aE;have:=hX p (h p (by have:=ay.le;omega));omega
  have:=hQ E V a X (Kept.refl E V a) ah (λi hi=>h i (by omega));rw[dq,UP]at this;exact this
 |cons o ho hn hd lL ih=>
  rename_i X i l;intro hX hc E V a Q ah hQ;have hi:i<ops.size:=(SP.1 ho).1;by_cases pY:i<p
  ·simp only[dj,ho];have o0:∀k∈i::X,k<p:=λk hk=>(SK.1 hk).elim (λe=>by rw[e];exact pY) (hX k);have bc:∀k∈i::X,∀o',ops[k]?=some o'->∀j∈cQ o',j∈i::X:=λk hk o' bf j hj=>by
    rcases SK.1 hk with rfl|hk
    ·rw[ho]at bf;cases bf;exact S9 _ (hd j hj)
    ·exact S9 _ (hc k hk o' bf j hj)
   have tok:cj E (lA ops f o++T0) a.tmps:=by
    intro t av e;rw[zK]at e;cases hl:look (lA ops f o) t with
    |none=>rw[hl]at e;exact ah.base t av e
    |some x=>
     rw[hl]at e;cases e;obtain⟨j,hj,e⟩:=Vx.1 (rG hl);obtain⟨d,cE,e⟩:=Tl.1 e;cases e;obtain⟨oj,lK,jV⟩:=Tc.1 cE;exact⟨by rw[ah.size];exact ay.dst j oj _ lK jV,ah.done j (hd j hj) _ cE⟩
   have sG:cY ops i=o.dst:=(by simp[cY,ho]);have put:∀{E' V'}(v:Value),E.Le E'->Conc E' V' H->ap E' (f i) v->Ho E' V' ops T0 H f (i::X) (a.put o.dst v) nt:=λ{E' V'} v hle cT hv=>by
    cases dn:o.dst with
    |none=>
     refine⟨cT,ah.base.mono hle,λk hk d eO=> ?_,ah.size⟩;rcases SK.1 hk with rfl|hk
     ·rw[sG,dn]at eO;cases eO
     ·exact(ah.done k hk d eO).mono hle
    |some d0=>
     have hlt:d0<a.tmps.size:=(by rw[ah.size];exact ay.dst i o d0 ho dn);refine⟨cT,λt av e=> ?_,λk hk d eO=> ?_,by simp[Xl,ah.size]⟩
     ·have aE:d0≠t:=λe'=>(by rw[<- e',aiW i pY d0 (by rw[sG,dn])]at e;cases e);have:=ah.base.mono hle t av e;exact⟨by simpa[Xl]using this.1,by simpa[Xl,SH,SR aE]using this.2⟩
     ·by_cases rj:k=i
      ·subst rj;rw[sG,dn]at eO;cases eO;simpa[Xl,SH,S7 hlt]using hv
      ·have aI:k∈X:=(SK.1 hk).resolve_left rj;have aE:d0≠d:=λe'=>by
        subst e';have QS:=hX k aI;have get:∀i,i<p->∃o,ops[i]?=some o:=λi hi=>⟨_,SJ (Ta hi ay.le)⟩;rcases WX k i with hlt|hlt|hlt
        ·exact ay.dT i k o d0 hlt pY ho dn eO
        ·exact rj hlt
        ·obtain⟨o',bf⟩:=get k QS;exact ay.dT k i o' d0 hlt QS bf (by simpa[cY,bf]using eO) (by rw[sG,dn])
       have:=(ah.done k aI d eO).mono hle;simpa[Xl,SH,SR aE]using this
   have go:dC lv P r o ⟨lA ops f o++T0,H⟩ (f i)->wD lv P r o a V (dj lv P r ops Q l) Q:=λhq=>
    hq E V a _ Q ah.bw tok (.inr (ay.vd i o ho)) λE' V' v hle b8 fl cT hv=>
     ih o0 bc E' V' (a.put o.dst v) Q (put v hle cT hv) λbR aU cC n4 hk dx fO=>
      hQ bR aU cC n4 ⟨hle.trans hk.le,hk.size.trans (eD _ _ _),hk.defers.trans (put_defers _ _ _),hk.role.trans b8,hk.deaf.trans fl⟩ dx fO
   have EN:=au i o pY ho;unfold wy at EN;split at EN
   ·rename_i ES;have hw:Tf o (yielded ops a.tmps)=true:=(by unfold Tf;rw[ES]);rw[if_pos hw];exact .inl (go EN)
   ·rename_i j b_ ES;obtain⟨d,b,bW,bQ,h1,h2⟩:=EN;obtain⟨hlt,hv⟩:=tok d _ bQ;have hy:yielded ops a.tmps j=some b:=by
     obtain⟨oj,lK,jV⟩:=Tc.1 bW;generalize hx:a.tmps.getD d undef=x at hv;cases hv;rw[SH,SJ hlt]at hx;simp only[S6]at hx;simp[yielded,lK,jV,SJ hlt,hx]
    by_cases hb:b=b_
    ·have hw:Tf o (yielded ops a.tmps)=true:=(by unfold Tf;rw[ES];simp[hy,hb]);rw[if_pos hw];exact .inl (go (h1 hb))
    ·have hw:¬Tf o (yielded ops a.tmps)=true:=(by unfold Tf;rw[ES];simp[hy,hb]);rw[if_neg hw];have hu:=h2 (by cases b<;>cases b_<;>simp_all);exact ih o0 bc E V (a.put o.dst undef) Q (put undef (Env.Le.refl E) ah.bw (by rw[hu];exact .val _)) λbR aU cC n4 hk dx fO=>
      hQ bR aU cC n4 ⟨hk.le,hk.size.trans (eD _ _ _),hk.defers.trans (put_defers _ _ _),hk.role,hk.deaf⟩ dx fO
  ·have fO:∀k,k<p->k∈X:=λk hk=>z_ hc (ay.suf i k (by omega) hi (by omega)) (λo' bf j hj=>by rw[ho]at bf;cases bf;exact hd j hj);have hl:=ao5 ay (.cons o ho hn hd lL) p (SO _) ay.le (full X hX fO) hc;rw[hl];exact hQ E V a X (Kept.refl E V a) ah fO
theorem aeE{id:Nat}{Φ:ao->AS->Prop}(hm:P.follows .mixedOrders=true)(p:Nat)(ay:yF nt p ops=true)(h:nZ lv P ops (ops.toList.take p) s (λs'=>iy lv P ops (ops.toList.drop p) s' (Φ .normal) (λpv s=>Φ (.panic pv) s))):aY lv P r nt (.region id ops true) s Φ:=by
 intro E V a Q ah hQ;have ay:=yF.out ay;obtain⟨gs,g1,g2,dA,g3,g4⟩:=Mp (lv:=lv) (r:=r) ay p [] s (by simp) ⟨rfl,by simp,by simp⟩ (by simpa using h);simp only[Up]at g1 g2 g3;refine M9 λt=> ?_;rw[show Vo (P.follows .mixedOrders) ops t=Uo .any ops ops.size t (TA ops.size false) [] by unfold Vo;rw[hm];simp[Yl]];have hs:=SA (ops:=ops) (λi o ho j hj=>ay.low i o ho j hj) ops.size t (TA ops.size false) [] ⟨by simp,λi hi=>by simp[hi]⟩ (Ur Ye (by simp));refine af7 (T0:=tI s ops p) (H:=s.H) ay (λj hj d hd=> ?_) (λi o hi ho=>g2 i o (by simp) hi ho) hs (by simp) (by simp) E V a Q ⟨ah.bw,λt av e=> ?_,by simp,ah.size⟩ λE' V' a' X' hk aR fO=> ?_
 ·rw[FZ,if_neg];simp only[Tp];intro h;have:=h j (by simpa using hj);rw[hd]at this;simp at this
 ·rw[FZ]at e;split at e
  ·exact ah.tok t av e
  ·cases e
 ·refine zS (Φ:=Φ) (λo ho d e=> ?_) (λo ho=> .inr ?_) (ops.size-p) p dA (by have:=ay.le;omega) g4 E' V' a' Q ⟨by rw[g3.H];exact aR.bw,λt av e=> ?_,aR.size⟩ (λae e bR aU cC s3 aI pU he hΦ=>hQ ae e bR aU cC s3 (hk.trans aI) pU he hΦ)
  ·obtain⟨i,hi⟩:=XS.1 ho;exact ay.dst i o d hi e
  ·obtain⟨i,hi⟩:=XS.1 ho;exact ay.vd i o hi
  ·by_cases hex:∃j,j<p/\cY ops j=some t
   ·obtain⟨j,hj,vK⟩:=hex;rw[g3.new j t (by omega) vK]at e;obtain⟨oj,lK,jV⟩:=Tc.1 vK;refine⟨by rw[aR.size];exact ay.dst j oj t lK jV, ?_⟩;have:=aR.done j (fO j hj) t vK;simpa[SF,e]using this
   ·have gk:∀j,j<p->cY ops j≠some t:=λj hj e=>hex ⟨j,hj,e⟩;rw[g3.old t λj hj=>gk j (by omega)]at e;refine aR.base t av ?_;rw[FZ,if_pos (by simp only[Tp];intro j hj;simpa using gk j (by simpa using hj))];exact e
end
def r_ (T base Vn:List (Nat×AV)):Prop:=T.drop (T.length-base.length)=base/\((T.take (T.length-base.length)).all λp=>(Vn.any λq=>q.1==p.1)|| !(base.any λq=>q.1==p.1))=true
theorem aea{l:List (Nat×AV)}{t:Nat}{a:AV}(h:look l t=some a):(l.any λq=>q.1==t)=true:=Uw.2 ⟨_,rG h,by simp⟩
theorem aae{l:List (Nat×AV)}{t:Nat}(h:(l.any λq=>q.1==t)=true):∃a,look l t=some a:=by
 induction l with
 |nil=>cases h
 |cons x l ih=>
  obtain⟨k,b⟩:=x;simp only[look];split
  ·exact⟨b,rfl⟩
  ·rename_i aE;refine ih ?_;simpa[X6,aE]using h
theorem r_.look{T base Vn:List (Nat×AV)}(h:r_ T base Vn){t:Nat}{a:AV}(hb:look base t=some a)(hv:look Vn t=none):look T t=some a:=by
 obtain⟨h1,h2⟩:=h;have e:T=T.take (T.length-base.length)++base:=by
  have:=(UR (T.length-base.length) T).symm;rwa [h1]at this
 rw[e,zK];cases hl:Gg.look (T.take (T.length-base.length)) t with
 |none=>exact hb
 |some x=>
  exfalso;have:=Tp.1 h2 _ (rG hl);simp only[Xm,TL]at this;rcases this with this|this
  ·obtain⟨y,hy⟩:=aae this;rw[hv]at hy;cases hy
  ·rw[aea hb]at this;cases this
def tF (base Vi Vn:List (Nat×AV))(Hn:List aa)(s':AS):Prop:=
 r_ s'.T (Vi++base) Vn/\(∀p∈Vn,∃b,look s'.T p.1=some b/\Wk b p.2)/\∃G,s'.H=Hn++G/\(G=[]\/(bL Hn/\∀p∈Vn,Lt Hn.length p.2))
section
variable {lv:Bool}{P:Program}{r:Option Nat}{s:AS}
theorem wN{nt:Nat}{α:Type}{lt:α->α->Prop}(wf:WellFounded lt){c:Code}{Φ:ao->AS->Prop}(V:α->List (Nat×AV))(Hf:α->List aa)(ok:α->Prop)(m0:α)
  (B0:∀m m',(V m).map (·.1)=(V m').map (·.1)) (iO:∀p∈V m0,∃b,look s.T p.1=some b/\Wk b p.2) (By:Hf m0=s.H) (hl:∀m,ok m->(Hf m).length=s.H.length) (hm:ok m0)
  (h:bL s.H->(∀t a,look s.T t=some a->Lt s.H.length a)->∀m,ok m->∀R:AS->Prop,(∀s',(∃m',lt m' m/\ok m'/\tF s.T (V m) (V m') (Hf m') s')->R s')->aY lv P r nt c ⟨V m++s.T,Hf m⟩ (ao.then R Φ)):aY lv P r nt (.loop c) s Φ:=by
 have same:∀m m' t,look (V m) t=none->look (V m') t=none:=λm m' t h=>aaf λp hp e=>by
  have h1:p.1∈(V m').map (·.1):=Th.2 ⟨p,hp,rfl⟩;rw[B0 m' m]at h1;obtain⟨q,hq,e'⟩:=Th.1 h1;have h2:((V m).any λx=>x.1==t)=true:=Uw.2 ⟨q,hq,by simp[e',e]⟩;obtain⟨a,ha⟩:=aae h2;rw[h]at ha;cases ha
 intro E V0 a Q ah hQ;have hlt:∀t a,look s.T t=some a->Lt s.H.length a:=λt x e=>by rw[<- ah.bw.n];exact(ah.tok t x e).2.lt
 have h0:s.Sub ⟨V m0++s.T,Hf m0⟩:=⟨λt x e=>by
  rw[zK]at e;cases hl:look (V m0) t with
  |none=>rw[hl]at e;exact⟨x,e,Wk.refl x⟩
  |some y=>rw[hl]at e;cases e;exact iO (t,x) (rG hl),By.symm⟩
 refine aeH wf (s:=s) (λm=>⟨V m++s.T,Hf m⟩) ok m0 h0 hm (λm ay=>by rw[hl m ay];exact SO _) (λm ay=> ?_) E V0 a Q ah hQ;refine(h ah.bw.ay hlt m ay _ λ_ h=>h).mono λe s' hΦ=> ?_;cases e with
 |normal=>
  obtain⟨m',q1,q2,hk,hv,G,hG,vH⟩:=hΦ;have tok:∀t x,look (V m'++s.T) t=some x->∃b,look s'.T t=some b/\Wk b x/\(look (V m') t=some x\/look s.T t=some x):=λt x e=>by
   rw[zK]at e;cases hl:look (V m') t with
   |none=>
    rw[hl]at e;have hb:look (V m++s.T) t=some x:=(by rw[zK,same m' m t hl];exact e);exact⟨x,hk.look hb hl,Wk.refl x, .inr e⟩
   |some y=>
    rw[hl]at e;cases e;obtain⟨b,h1,h2⟩:=hv (t,x) (rG hl);exact⟨b,h1,h2, .inl rfl⟩
  refine⟨m',q1,q2, ?_⟩;rcases vH with rfl|⟨pk,ajN⟩
  ·exact .inl ⟨λt x e=>by obtain⟨b,h1,h2,_⟩:=tok t x e;exact⟨b,h1,h2⟩,by rw[hG,SI]⟩
  ·refine .inr ⟨λt x e=> ?_,⟨G,hG⟩,pk⟩;obtain⟨b,h1,h2,h3⟩:=tok t x e;refine⟨b,h1,h2, ?_⟩;rcases h3 with h3|h3
   ·exact ajN (t,x) (rG h3)
   ·show Lt (Hf m').length x;rw[hl m' q2];exact hlt t x h3
 |_=>exact hΦ
theorem gM{nt:Nat}{c:Code}{Φ:ao->AS->Prop}(n:Nat)(V:Nat->List (Nat×AV))(Hf:Nat->List aa)(ok:Nat->Prop)
  (B0:∀m m',(V m).map (·.1)=(V m').map (·.1)) (iO:∀p∈V 0,∃b,look s.T p.1=some b/\Wk b p.2) (By:Hf 0=s.H) (hl:∀m,m<=n->ok m->(Hf m).length=s.H.length) (hm:ok 0)
  (h:bL s.H->(∀t a,look s.T t=some a->Lt s.H.length a)->∀m,m<=n->ok m->∀R:AS->Prop,(∀s',(m<n/\ok (m+1)/\tF s.T (V m) (V (m+1)) (Hf (m+1)) s')->R s')->aY lv P r nt c ⟨V m++s.T,Hf m⟩ (ao.then R Φ)):aY lv P r nt (.loop c) s Φ:=by
 refine wN (measure λi=>n-i).wf V Hf (λi=>i<=n/\ok i) 0 B0 iO By (λm h=>hl m h.1 h.2) ⟨Xr _,hm⟩ (λh1 h2 m ay R hR=> ?_);exact h h1 h2 m ay.1 ay.2 R λs' ⟨q1,q2,q3⟩=>hR s' ⟨m+1,(by show n-(m+1)<n-m;omega),⟨q1,q2⟩,q3⟩
end
theorem oE{T base Vn:List (Nat×AV)}(h1:T.drop (T.length-base.length)=base)(h2:((T.take (T.length-base.length)).all λp=>(Vn.any λq=>q.1==p.1)|| !(base.any λq=>q.1==p.1))=true):r_ T base Vn:=⟨h1,h2⟩
theorem lB{H L:List aa}{x:Value}{k:AV->List aa->Prop}(hH:bL H)(h:k (.val x) H):cy H.length (H++L) (.val x) k:=jT (Wk.refl _) rfl (SO _) hH (.val x) h
theorem je{H L:List aa}{a b:AV}{k:AV->List aa->Prop}(hH:bL H)(hw:Wk a b)(hl:Lt H.length b)(h:k b H):cy H.length (H++L) a k:=jT hw rfl (SO _) hH hl h
def aa.cellsOf:aa->Option (List AV)
 | .cells l _| .part _ l _| .own _ l _=>some l
 |_=>none
theorem afA(l:List AV)(e:TypeId):aa.cellsOf (.cells l e)=some l:=rfl
theorem afC(p:Nat)(l:List AV)(e:TypeId):aa.cellsOf (.part p l e)=some l:=rfl
def aa.rowOf:aa->Option (List AV)
 | .cells l _| .part _ l _| .own _ l _=>some l
 |_=>none
theorem aoJ(l:List AV)(e:TypeId):aa.rowOf (.cells l e)=some l:=rfl
theorem afB(p:Nat)(l:List AV)(e:TypeId):aa.cellsOf (.own p l e)=some l:=rfl
theorem aoK(p:Nat)(l:List AV)(e:TypeId):aa.rowOf (.own p l e)=some l:=rfl
theorem aoL(p:Nat)(l:List AV)(e:TypeId):aa.rowOf (.part p l e)=some l:=rfl
theorem aeB(T:List (Nat×AV))(H:List aa)(i off:Nat):AS.at ⟨T,H⟩ (.op i off)=((H[i]?).bind aa.cellsOf).map λl=>l.drop off:=by
 simp only[AS.at];cases H[i]?with
 |none=>rfl
 |some x=>cases x<;>rfl
theorem anp(k:IntKind)(n:Int):AV.parts (.val (.int k n))=some [.val (.int k n)]:=rfl
theorem anl(b:Bool):AV.parts (.val (.bool b))=some [.val (.bool b)]:=rfl
theorem anA(b:ByteArray):AV.parts (.val (.string b))=some [.val (.string b)]:=rfl
theorem anw(b:Option Addr):AV.parts (.val (.pointer b))=some [.val (.pointer b)]:=rfl
theorem ans:AV.parts (.val .nilFunc)=some [.val .nilFunc]:=rfl
theorem ant:AV.parts (.val .nilIface)=some [.val .nilIface]:=rfl
theorem anq(r:Option Nat):AV.parts (.val (.map r))=some [.val (.map r)]:=rfl
theorem ank(l:List AV):AV.parts (.agg l)=some l:=rfl
theorem anz(n:Nat)(l:List AV)(e:End):AV.parts (.sl n l e)=some [.sl n l e]:=rfl
theorem alQ(n:Nat)(l:List AV)(e:End):AV.len (.sl n l e)=some n:=by rw[AV.len]
theorem alP(i o n c:Nat):AV.len (.bJ i o n c)=some n:=by rw[AV.len]
attribute [seval] alQ alP
theorem anv(i o n c:Nat):AV.parts (.bJ i o n c)=some [.bJ i o n c]:=rfl
theorem anx(l:List AV):AV.parts (.rp l)=some [.rp l]:=rfl
theorem anu(i o:Nat):AV.parts (.op i o)=some [.op i o]:=rfl
theorem ann(f:Fn)(l m:List AV):AV.parts (.fn f l m)=some [.fn f l m]:=rfl
theorem ano(t:TypeId)(a:AV):AV.parts (.c_ t a)=some [.c_ t a]:=rfl
theorem anr(i:Nat):AV.parts (.mp i)=some [.mp i]:=rfl
theorem alA(k:IntKind)(n:Int):AV.leaf (.val (.int k n))=true:=rfl
theorem alw(b:Bool):AV.leaf (.val (.bool b))=true:=rfl
theorem alL(b:ByteArray):AV.leaf (.val (.string b))=true:=rfl
theorem alI(b:Option Addr):AV.leaf (.val (.pointer b))=true:=rfl
theorem alD:AV.leaf (.val .nilFunc)=true:=rfl
theorem alE:AV.leaf (.val .nilIface)=true:=rfl
theorem alB(r:Option Nat):AV.leaf (.val (.map r))=true:=rfl
theorem alK(n:Nat)(l:List AV)(e:End):AV.leaf (.sl n l e)=true:=rfl
theorem alH(i o n c:Nat):AV.leaf (.bJ i o n c)=true:=rfl
theorem alJ(l:List AV):AV.leaf (.rp l)=true:=rfl
theorem alG(i o:Nat):AV.leaf (.op i o)=true:=rfl
theorem aly(f:Fn)(l m:List AV):AV.leaf (.fn f l m)=true:=rfl
theorem alz(t:TypeId)(a:AV):AV.leaf (.c_ t a)=true:=rfl
theorem alC(i:Nat):AV.leaf (.mp i)=true:=rfl
theorem amU(k:IntKind)(n:Int):AV.py (.int k n)= .val (.int k n):=rfl
theorem amR(b:Bool):AV.py (.bool b)= .val (.bool b):=rfl
theorem amX:AV.py (.slice none 0 0)= .sl 0 [] .exact:=rfl
theorem amS:AV.py .nilFunc= .val .nilFunc:=rfl
theorem amT:AV.py .nilIface= .val .nilIface:=rfl
theorem amW(a:Option Addr):AV.py (.pointer a)= .val (.pointer a):=rfl
theorem amV(a:Option Nat):AV.py (.map a)= .val (.map a):=rfl
theorem arx(l:List Value):lY (.agg l.toArray)=l.map AV.py:=by simp[lY,Y9]
theorem arC(k:IntKind)(n:Int):lY (.int k n)=[.val (.int k n)]:=rfl
theorem ary(b:Bool):lY (.bool b)=[.val (.bool b)]:=rfl
theorem arF:lY (.slice none 0 0)=[.sl 0 [] .exact]:=rfl
theorem arA:lY .nilFunc=[.val .nilFunc]:=rfl
theorem arB:lY .nilIface=[.val .nilIface]:=rfl
theorem arE(a:Option Addr):lY (.pointer a)=[.val (.pointer a)]:=rfl
theorem arD(a:Option Nat):lY (.map a)=[.val (.map a)]:=rfl
theorem agG(s:AS):j9 s []=some []:=rfl
theorem agF(s:AS)(i:Nat)(x:Operand)(l:List (Nat×Operand)):j9 s ((i,x)::l)=(s.ev x).bind λa=>(j9 s l).map λaD=>(i,a)::aD:=by
 simp only[j9];cases s.ev x with
 |none=>rfl
 |some a=>cases j9 s l<;>rfl
theorem ahS(p:Nat->Option (Nat×Nat))(c:List AV):oe p c []=some c:=rfl
theorem ahR(p:Nat->Option (Nat×Nat))(c:List AV)(i:Nat)(a:AV)(r:List (Nat×AV)):oe p c ((i,a)::r)=(p i).bind λx=>(a.parts).bind λlp=>if lp.length≠x.2\/x.1+lp.length>c.length then none else oe p (iF c x.1 lp) r:=by
 simp only[oe];cases p i with
 |none=>rfl
 |some x=>cases a.parts<;>rfl
theorem anG(l:List (Nat×Nat))(i:Nat):iz.at (.fields l) i=l[i]?:=rfl
theorem anF(sz i:Nat):iz.at (.elems sz) i=some (i* sz,sz):=rfl
theorem arv(z:Value):gU z 0=[]:=rfl
theorem apG(s:AS)(sz m:Nat)(l:List AV)(e:End):s.src sz (.sl m l e)=some (m,l.take (m* sz)):=rfl
theorem apF(T:List (Nat×AV))(H:List aa)(sz i off m c:Nat):AS.src ⟨T,H⟩ sz (.bJ i off m c)=((H[i]?).bind aa.rowOf).map λl=>(m,(l.drop off).take (m* sz)):=by
 simp only[AS.src];cases H[i]?with
 |none=>rfl
 |some x=>cases x<;>rfl
theorem aeu(n:Nat)(l:List AV)(e:End)(kO:Nat->Nat->Nat->Nat->Prop)(k:Nat->List AV->End->Prop):AV.pK (.sl n l e) kO k=k n l e:=by rw[AV.pK]
theorem aet(i o n c:Nat)(kO:Nat->Nat->Nat->Nat->Prop)(k:Nat->List AV->End->Prop):AV.pK (.bJ i o n c) kO k=kO i o n c:=by rw[AV.pK]
theorem aed:type_of% @tn.eq_1:=by intros;rw[tn.eq_1]
theorem aeb(s:AS)(dst:Option Nat)(next:AS->Prop)(n m sz:Nat)(elem:TypeId)(l l':List AV):Au s dst next n m sz elem l l' .exact=next ((⟨s.T,s.H++[.tail (n+m) sz elem]⟩:AS).put dst (.sl (n+m) (l++l') (.opn s.H.length))):=rfl
theorem aec(s:AS)(dst:Option Nat)(next:AS->Prop)(n m sz:Nat)(elem:TypeId)(l l':List AV)(k:Nat):Au s dst next n m sz elem l l' (.opn k)=((match s.H[k]?with
   |some (.tail n' eP gA)=>n'=n/\eP=sz/\gA=elem
   |_=>False)/\(∀a∈l',a.leaf=true)/\next ((⟨s.T,s.H.set k (.tail (n+m) sz elem)⟩:AS).put dst (.sl (n+m) (l++l') (.opn k)))):=rfl
theorem aoA(P:Program)(T:List (Nat×AV))(H:List aa)(b t:Nat):uG P ⟨T,H⟩ (.cell b t)=(look T b).bind λp=>((⟨T,H⟩:AS).at p).bind λl=>(Ty P t).bind λx=>if x.2 then(if x.1<=l.length then some (.agg (l.take x.1))else none)else l[0]?:=rfl
section
variable {lv:Bool}{P:Program}{s s':AS}
@[congr] theorem asN {α : Type} {x y : Option α} {k : α -> Prop} (h : x = y) : an x k = an y k := by rw [h]
@[congr] theorem arT {a b : AV} {k : Bool -> Prop} (h : a = b) : AV.asBool a k = AV.asBool b k := by rw [h]
@[congr] theorem arU {a b : AV} {k : IntKind -> Int -> Prop} (h : a = b) : AV.asInt a k = AV.asInt b k := by rw [h]
@[congr] theorem arZ {a b : AV} {k : List AV -> Prop} (h : a = b) : AV.wL a k = AV.wL b k := by rw [h]
@[congr] theorem arS {a b : AV} {k : List AV -> Prop} (h : a = b) : AV.asAgg a k = AV.asAgg b k := by rw [h]
@[congr] theorem arW {a b : AV} {k : Nat -> Nat -> Prop} (h : a = b) : AV.pJ a k = AV.pJ b k := by rw [h]
@[congr] theorem arV {a b : AV} {k : Nat -> Prop} (h : a = b) : AV.sj a k = AV.sj b k := by rw [h]
@[congr] theorem arY {a b : AV} {k : Nat -> List AV -> End -> Prop} (h : a = b) : AV.u5 a k = AV.u5 b k := by rw [h]
@[congr] theorem arX {a b : AV} {kO : Nat -> Nat -> Nat -> Nat -> Prop} {k : Nat -> List AV -> End -> Prop} (h : a = b) : AV.pK a kO k = AV.pK b kO k := by rw [h]
@[congr] theorem arQ {H H' : List aa} {k : AV -> List aa -> Prop} {id oD off CQ n n' c0 Oa m m' sz : Nat} {elem : TypeId} {l l' : List AV} (h0 : H = H') (h1 : id = oD) (h2 : off = CQ) (h3 : n = n') (h4 : c0 = Oa) (h5 : m = m') (h6 : l = l') : tn H k id off n c0 m sz elem l = tn H' k oD CQ n' Oa m' sz elem l' := by rw [h0, h1, h2, h3, h4, h5, h6]
@[congr] theorem arI {op : BinOp} {t : TypeId} {a a' b b' : AV} {k : AV -> Prop} (h : a = a') (h' : b = b') : du P op t a b k = du P op t a' b' k := by rw [h, h']
@[congr] theorem arH {s' : AS} {op : BinOp} {t : TypeId} {y : Operand} {a a' : AV} {k : AV -> Prop} (hs : s = s') (h : a = a') : iK P s op t y a k = iK P s' op t y a' k := by rw [hs, h]
@[congr] theorem arL {a b : AV} {k : AV -> Prop} (h : a = b) : mz P a k = mz P b k := by rw [h]
@[congr] theorem arG {t : TypeId} {ok : Bool} {a b : AV} {k : AV -> Prop} (h : a = b) : Ar P t ok a k = Ar P t ok b k := by rw [h]
@[congr] theorem arK {t : TypeId} {a b : AV} {k : AV -> Prop} (h : a = b) : rW P s t a k = rW P s t b k := by rw [h]
@[congr] theorem arO {t : TypeId} {a b : AV} {x y z : Option Int} {k : AV -> Prop} (h : a = b) : rX P t a x y z k = rX P t b x y z k := by rw [h]
@[congr] theorem arM {o : Oper} {k : AV -> Prop} (h : s = s') : lx P s o k = lx P s' o k := by rw [h]
@[congr] theorem arR {o : Oper} {k : AV -> Prop} (h : s = s') : AQ lv P s o k = AQ lv P s' o k := by rw [h]
@[congr] theorem arP {o : Oper} {next : AS -> Prop} {bad : AV -> AS -> Prop} (h : s = s') : mA lv P s o next bad = mA lv P s' o next bad := by rw [h]
@[congr] theorem arN {all : Array Oper} {l : List Oper} {next : AS -> Prop} {bad : AV -> AS -> Prop} (h : s = s') : iy lv P all l s next bad = iy lv P all l s' next bad := by rw [h]
@[congr] theorem asP {all : Array Oper} {l l' : List Oper} {K : AS -> Prop} (hl : l = l') (h : s = s') : nZ lv P all l s K = nZ lv P all l' s' K := by rw [hl, h]
@[congr] theorem ar2 {r : Option Nat} {nt : Nat} {c : Code} {Φ : ao -> AS -> Prop} (h : s = s') : aY lv P r nt c s Φ = aY lv P r nt c s' Φ := by rw [h]
@[congr] theorem asW {K : AS -> Prop} {Φ : ao -> AS -> Prop} {e e' : ao} (he : e = e') (h : s = s') : ao.then K Φ e s = ao.then K Φ e' s' := by rw [he, h]
@[congr] theorem asK {i : Nat} {Φ : ao -> AS -> Prop} {e e' : ao} (he : e = e') (h : s = s') : ao.inBlock i Φ e s = ao.inBlock i Φ e' s' := by rw [he, h]
end
theorem adC:type_of% @iy.eq_1:=by intros;rw[iy.eq_1]
theorem adB:type_of% @iy.eq_2:=by intros;rw[iy.eq_2]
theorem adI:type_of% @mA.eq_1:=by intros;rw[mA.eq_1]
theorem adA:type_of% @lx.eq_1:=by intros;rw[lx.eq_1]
theorem anP:type_of% @nZ.eq_1:=by intros;rw[nZ.eq_1]
theorem anO:type_of% @nZ.eq_2:=by intros;rw[nZ.eq_2]
theorem adD:type_of% @AQ.eq_1:=by intros;rw[AQ.eq_1]
theorem aox:type_of% @hZ.eq_1:=by intros;rw[hZ.eq_1]
theorem aow:type_of% @hZ.eq_2:=by intros;rw[hZ.eq_2]
theorem aoz:type_of% @iY.eq_1:=by intros;rw[iY.eq_1]
theorem agI:type_of% @fx.eq_1:=by intros;rw[fx.eq_1]
theorem agH:type_of% @fx.eq_2:=by intros;rw[fx.eq_2]
theorem adf:type_of% @Ar.eq_1:=by intros;rw[Ar.eq_1]
theorem anK:type_of% @iF.eq_1:=by intros;rw[iF.eq_1]
theorem aoy:iY []= .aK []:=by rw[iY];simp
theorem abl(a b:AV)(l:List AV):iY (a::b::l)= .aK (a::b::l):=by rw[iY];simp
theorem aqh(l:List AV):(AV.rp l).sure=true:=by simp[AV.sure]
theorem aqf(i j:Nat):(AV.op i j).sure=true:=by simp[AV.sure]
theorem aqb(f:FuncId)(x y:List AV):(AV.fn (.func f) x y).sure=true:=by simp[AV.sure]
theorem aqc(t:TypeId)(x:AV):(AV.c_ t x).sure=true:=by simp[AV.sure]
theorem adw(P:Program)(k:AV->Prop)(name:String)(t:TypeId)(av:AV):mz P (.fn (.method name) [.c_ t av] []) k=(Hx P t name/\k (.fn (.method name) [.c_ t av] [])):=by rw[mz]
theorem ady(P:Program)(k:AV->Prop)(l:List AV):mz P (.rp l) k=k (.rp l):=by simp[mz,AV.sure]
theorem adx(P:Program)(k:AV->Prop)(i j:Nat):mz P (.op i j) k=k (.op i j):=by simp[mz,AV.sure]
theorem adu(P:Program)(k:AV->Prop)(f:FuncId)(x y:List AV):mz P (.fn (.func f) x y) k=k (.fn (.func f) x y):=by simp[mz,AV.sure]
theorem adz(P:Program)(k:AV->Prop)(f)(x y:List AV):mz P (.fn (.yield f) x y) k=k (.fn (.yield f) x y):=by simp[mz,AV.sure]
theorem adv(P:Program)(k:AV->Prop)(t:TypeId)(x:AV):mz P (.c_ t x) k=k (.c_ t x):=by simp[mz,AV.sure]
theorem adp(P:Program)(s:AS)(op:BinOp)(xt:TypeId)(t:Nat)(a:AV)(k:AV->Prop):iK P s op xt (.tmp t) a k=an (s.ev (.tmp t)) λb=>du P op xt a b k:=by rw[iK]<;>(intros;simp_all)
theorem adk(P:Program)(s:AS)(op:BinOp)(xt:TypeId)(j:IntKind)(m:Int)(a:AV)(k:AV->Prop):iK P s op xt (.const (.int j m)) a k=an (s.ev (.const (.int j m))) λb=>du P op xt a b k:=by rw[iK]<;>(intros;simp_all)
theorem adh(P:Program)(s:AS)(op:BinOp)(xt:TypeId)(c:Bool)(a:AV)(k:AV->Prop):iK P s op xt (.const (.bool c)) a k=an (s.ev (.const (.bool c))) λb=>du P op xt a b k:=by rw[iK]<;>(intros;simp_all)
theorem ado(P:Program)(s:AS)(op:BinOp)(xt:TypeId)(c:ByteArray)(a:AV)(k:AV->Prop):iK P s op xt (.const (.string c)) a k=an (s.ev (.const (.string c))) λb=>du P op xt a b k:=by rw[iK]<;>(intros;simp_all)
theorem adg(P:Program)(s:AS)(op:BinOp)(xt:TypeId)(c:Array Value)(a:AV)(k:AV->Prop):iK P s op xt (.const (.agg c)) a k=an (s.ev (.const (.agg c))) λb=>du P op xt a b k:=by rw[iK]<;>(intros;simp_all)
theorem adn(P:Program)(s:AS)(op:BinOp)(xt:TypeId)(c:Option Addr)(a:AV)(k:AV->Prop):iK P s op xt (.const (.pointer c)) a k=an (s.ev (.const (.pointer c))) λb=>du P op xt a b k:=by rw[iK]<;>(intros;simp_all)
theorem adl(P:Program)(s:AS)(op:BinOp)(xt:TypeId)(c:Option Addr)(m n:Nat)(a:AV)(k:AV->Prop):iK P s op xt (.const (.slice c m n)) a k=an (s.ev (.const (.slice c m n))) λb=>du P op xt a b k:=by rw[iK]<;>(intros;simp_all)
theorem adm(P:Program)(s:AS)(op:BinOp)(xt:TypeId)(k:AV->Prop):iK P s op xt (.const .nilIface) (.val .nilIface) k=(mm P xt=some true/\(op= .eql\/op= .neq)/\k (.val (.bool (if op== .neq then false else true)))):=by rw[iK]
theorem adj(P:Program)(s:AS)(op:BinOp)(xt t:TypeId)(x:AV)(k:AV->Prop):iK P s op xt (.const .nilIface) (.c_ t x) k=(mm P xt=some true/\(op= .eql\/op= .neq)/\k (.val (.bool (if op== .neq then true else false)))):=by rw[iK]
theorem agt:((W3== .neq)=false):=rfl
theorem amH:((Vk== .neq)=true):=rfl
theorem aii(z:Value):AV.found z true none= .aK [AV.of z, .val (.bool false)]:=by rw[AV.found];simp
theorem aij(z:Value)(x:Nat×Value):AV.found z true (some x)= .aK [AV.of x.2, .val (.bool true)]:=by rw[AV.found];simp
attribute [seval] aii aij
attribute [seval] adp adk adh ado adg adn adl adm adj agt amH
attribute [seval] aiI aiH aiG aiF v_ agE agv agz agx agD agA agB agw agy amb amc anM anL aqB aqD aqz aqA aqC afk afm afh afl afi afj aih aif aig aoC aeo aeq aex aem aes aer aev aeu aet aed adJ adW adR adL Nz adQ adP adN adM true_and and_true Option.bind_some List.getElem?_toArray List.getElem?_cons_succ List.getElem?_cons_zero Bool.not_true Bool.not_false true_implies false_implies if_true if_false aeC apq apr aps aoN aoM List.drop_succ_cons List.drop_zero List.take_succ_cons List.take_zero List.cons_append List.nil_append List.length_cons List.length_nil Int.toNat_natCast decide_eq_true_eq decide_eq_false_iff_not Bool.not_eq_true' Bool.not_eq_false' Bool.not_eq_eq_eq_not aeB afA afC aoJ aoL aoK afB Option.map_some uX aef uY aej aee aei Nat.zero_add List.set_cons_zero List.set_cons_succ anp anl anA anw ans ant anq ank anz anv anx anu ann ano anr List.forall_mem_cons List.not_mem_nil false_imp_iff implies_true alA alw alL alI alD alE alB alK alH alJ alG aly alz alC amU amR amX amS amT amW amV arx arC ary arF arA arB arE arD List.map_cons List.map_nil agG agF ahS ahR anG anF arv apG apF aeb aec aoA adt ads ne_eq not_true_eq_false not_false_eq_true gt_iff_lt Nat.lt_irrefl or_self or_false false_or Nat.le_refl Nat.mul_one Nat.one_mul Nat.zero_mul Nat.mul_zero bne_iff_ne bne_eq_false_iff_eq beq_iff_eq adC adB adI adA anP anO adD aox aow aoz aoy abl agI agH adf anK abl aqh aqf aqb aqc adw ady adx adu adz adv
theorem aoI{base Vi Vn T:List (Nat×AV)}{H:List aa}(hk:r_ T (Vi++base) Vn)(hv:∀p∈Vn,∃b,look T p.1=some b/\Wk b p.2):tF base Vi Vn H ⟨T,H⟩:=⟨hk,hv,[],by simp, .inl rfl⟩
theorem Mv{base Vi Vn T:List (Nat×AV)}{H G:List aa}(hk:r_ T (Vi++base) Vn)(hv:∀p∈Vn,∃b,look T p.1=some b/\Wk b p.2)(ay:bL H)(hlt:∀p∈Vn,Lt H.length p.2):tF base Vi Vn H ⟨T,H++G⟩:=⟨hk,hv,G,rfl, .inr ⟨ay,hlt⟩⟩
theorem Aa{base Vi Vn T:List (Nat×AV)}{H L G:List aa}(hk:r_ T (Vi++base) Vn)(hv:∀p∈Vn,∃b,look T p.1=some b/\Wk b p.2)(ay:bL (H++L))(hlt:∀p∈Vn,Lt (H++L).length p.2):tF base Vi Vn (H++L) ⟨T,H++(L++G)⟩:=⟨hk,hv,G,(SC ..).symm, .inr ⟨ay,hlt⟩⟩
def pick (ks:List Nat)(T:List (Nat×AV)):List (Nat×AV):=ks.filterMap λk=>(look T k).map λa=>(k,a)
theorem NS{lv:Bool}{P:Program}{r:Option Nat}{nt:Nat}{c:Code}{T:List (Nat×AV)}{H:List aa}{Φ:ao->AS->Prop}(ks:List Nat)(h:aY lv P r nt c ⟨pick ks T,H⟩ Φ):aY lv P r nt c ⟨T,H⟩ Φ:=by
 refine mJ (s':=⟨pick ks T,H⟩) ⟨λt a e=> ?_,rfl⟩ h;obtain⟨k,_,e'⟩:=Vx.1 (rG e);obtain⟨b,hb,e'⟩:=Tl.1 e';cases e';exact⟨a,hb,Wk.refl a⟩
theorem Ls{ops:Array Oper}(mc:∀(i:Nat) o,ops[i]?=some o->∀j∈cQ o,j<ops.size)(Rx:∀X:List Nat,(∃i,i<ops.size/\i∉X)->∃i o,ops[i]?=some o/\i∉X/\∀j∈cQ o,j∈X):∀(fuel t:Nat)(L:Array Bool)(X:List Nat),Nt ops L X->(SX ops.size).countP (λi=> !X.contains i)<=fuel->l5 ops X (Uo .any ops fuel t L [])
 |0,t,L,X,hr,hc=>by
  simp only[Uo,Xe];refine .nil X λi hi=> ?_;have:(SX ops.size).countP (λi=> !X.contains i)=0:=by omega
  have:=List.countP_eq_zero.1 this i (by simpa using hi);simpa using this
 |fuel+1,t,L,X,hr,hc=>by
  have ul:∀i,i∈((SX ops.size).filter λi=> !L.getD i true&&((ops[i]?).map (·.after.all λe=> !Region.binds .any e||L.getD e.on false)).getD false)<->∃o,ops[i]?=some o/\i∉X/\∀j∈cQ o,j∈X:=by
   intro i;simp only[Uh,TH,Td,TL];constructor
   ·rintro⟨hi,h1,h2⟩
    have ho:=SJ hi;refine⟨ops[i],ho,λhx=> ?_,λj hj=> ?_⟩
    ·have:=(hr.mem i hi).2 hx;rw[SH,this]at h1;cases h1
    ·obtain⟨e,he,hb,rfl⟩:=F3.1 hj;rw[ho]at h2;simp only[UB,S6,Uq]at h2;have:=h2 e he;rw[hb]at this;simp only[ZD,YG]at this;have hlt:e.on<ops.size:=mc i _ ho _ hj;refine(hr.mem _ hlt).1 ?_;rw[SH]at this;cases hx:L[e.on]?with
     |none=>rw[hx]at this;cases this
     |some b=>rw[hx]at this;cases b;cases this;rfl
   ·rintro⟨o,ho,h1,h2⟩
    have hi:i<ops.size:=(SP.1 ho).1;refine⟨hi, ?_, ?_⟩
    ·rw[SH,SJ (by rw[hr.size];exact hi)];simp only[S6];cases hb:L[i]'(by rw[hr.size];exact hi)with
     |false=>rfl
     |true=>exact absurd ((hr.mem i hi).1 (by rw[SJ (by rw[hr.size];exact hi),hb])) h1
    ·rw[ho];simp only[UB,S6,Uq];intro e he;cases hb:XE .any e with
     |false=>rfl
     |true=>
      have hj:=F3.2 ⟨e,he,hb,rfl⟩;have hlt:e.on<ops.size:=mc i _ ho _ hj;have:=(hr.mem _ hlt).2 (h2 _ hj);simp[SH,this]
  simp only[Uo];generalize Ch:((SX ops.size).filter λi=> !L.getD i true&&((ops[i]?).map (·.after.all λe=> !Region.binds .any e||L.getD e.on false)).getD false)=rs at ul;cases hi:rs[t % rs.length]?with
  |none=>
   have Kh:rs=[]:=by
    cases rs with
    |nil=>rfl
    |cons x xs=>
     have hlt:t % (x::xs).length<(x::xs).length:=ZE _ (by simp);rw[List.getElem?_eq_none_iff]at hi;omega
   simp only[Xe];refine .nil X λi hlt=> ?_;apply To;intro hx;obtain⟨i',o,h1,h2,h3⟩:=Rx X ⟨i,hlt,hx⟩;have:i'∈rs:=(ul i').2 ⟨o,h1,h2,h3⟩;rw[Kh]at this;cases this
  |some i=>
   simp only[];obtain⟨o,ho,h1,h2⟩:=(ul i).1 (S_ hi);have hlt:i<ops.size:=(SP.1 ho).1;rw[linearise_go_acc,List.reverse_singleton,Yd];refine .cons o ho h1 h2 (Ls mc Rx fuel _ _ (i::X) ⟨by simp[hr.size],λk hk=> ?_⟩ ?_)
   ·by_cases rj:k=i
    ·subst rj;simp[S7 (by rw[hr.size];exact hlt)]
    ·rw[SR (Ne.symm rj),hr.mem k hk];simp[rj]
   ·have fP:i∈(SX ops.size):=(by simpa using hlt);have:(SX ops.size).countP (λk=> !(i::X).contains k)<(SX ops.size).countP (λk=> !X.contains k):=by
     exact Oo fP (λk hk=>by simp only[TL,Ub,decide_eq_false_iff_not]at hk⊢;exactλh=>hk (S9 _ h)) (by simpa using h1) (by simp)
    omega
theorem IR{X:List Nat}:∀{l:List Nat},(∃i∈l,i∉X)->∃A i B,l=A++i::B/\i∉X/\∀a∈A,a∈X
 |[],⟨_,h,_⟩=>by cases h
 |x::l,⟨i,h,hn⟩=>by
  by_cases hx:x∈X
  ·have hi:i∈l:=(SK.1 h).resolve_left λe=>hn (e▸hx);obtain⟨A,j,B,h1,h2,h3⟩:=IR ⟨i,hi,hn⟩;exact⟨x::A,j,B,by rw[h1];rfl,h2,λa ha=>(SK.1 ha).elim (λe=>e▸hx) (h3 a)⟩
  ·exact⟨[],x,l,rfl,hx,by simp⟩
structure AD (k:AV->List aa->Prop):Type where
 n:Nat
def Dt (lv:Bool)(P:Program)(f:AV)(H:List aa)(aD:List AV)(k:AV->List aa->Prop)(_t:AD k):Prop:=∃av H',ja lv P f H aD (λb tw=>b=av/\tw=H') (λ_ _=>False)/\k av H'
def Hp (lv:Bool)(P:Program)(f:AV)(name:String)(H:List aa)(aD:List AV)(k:AV->List aa->Prop)(_t:AD k):Prop:=∃av H',Dz lv P f name H aD (λb tw=>b=av/\tw=H') (λ_ _=>False)/\k av H'
theorem kW{lv:Bool}{P:Program}{f:AV}{H:List aa}{aD:List AV}{k:AV->List aa->Prop}{t:AD k}(av:AV)(H':List aa)(h:ja lv P f H aD (λb tw=>b=av/\tw=H') (λ_ _=>False))(hk:k av H'):Dt lv P f H aD k t:=⟨av,H',h,hk⟩
def j6 (x:Option aa)(X Y:Prop)(_t:lZ X Y):Prop:=match x with
 |some (.own _ _ _)=>X
 |_=>Y
def qC (G H:List aa)(k:AV->List aa->Prop)(n m sz:Nat)(elem:TypeId)(l l':List AV):End->Prop
 | .exact=>j6 G[H.length]? (0<m/\k (.bJ H.length 0 (n+m) 0) (H++[.own sz (l++l') elem])) (k (.sl (n+m) (l++l') (.opn H.length)) (H++[.tail (n+m) sz elem])) ⟨0⟩
 | .opn i=>(match H[i]?with
   |some (.tail n' eP gA)=>n'=n/\eP=sz/\gA=elem
   |_=>False)/\(∀a∈l',a.leaf=true)/\k (.sl (n+m) (l++l') (.opn i)) (H.set i (.tail (n+m) sz elem))
 | .shut=>m=0/\k (.sl n l .shut) H
section
variable (lv:Bool)(P:Program)
def j4 (G:List aa)(s:AS)(o:Oper)(k:AV->List aa->Prop):Prop:=match o.op with
 | .box t x=>an (s.ev x) λa=>an a.parts λl=>k (.op s.H.length 0) (s.H++[.cells l t])
 | .alloc t=>an (eW P t) λz=>k (.op s.H.length 0) (s.H++[.cells (lY z) t])
 | .store t x y=>an (s.ev x) λp=>an (s.ev y) λa=>an a.parts λlp=>p.pJ λid off=>match s.H[id]?with
  |some (.cells l el)=>(an (Ty P t) λx=>lp.length=x.1)/\off+lp.length<=l.length/\(∀a∈lp,a.leaf=true)/\k (.val undef) (s.H.set id (.cells (iF l off lp) el))
  |some (.own p l el)=>(an (Ty P t) λx=>lp.length=x.1)/\off+lp.length<=l.length/\(∀a∈lp,a.leaf=true)/\k (.val undef) (s.H.set id (.own p (iF l off lp) el))
  |_=>False
 | .call c=>match c.callee with
  | .builtin .append=>match c.args.toList,c.argTypes.toList with
   |[x,y],[t,t']=>an (jM P t t') λ(elem,sz,_)=>an (s.ev x) λa=>an (s.ev y) λb=>a.pK (λid off n c0=>an (s.src sz b) λ(m,l')=>tn s.H k id off n c0 m sz elem l') λn l e=>an (s.src sz b) λ(m,l')=>l.length=n* sz/\l'.length=m* sz/\n+m<=2^30/\qC G s.H k n m sz elem l l' e
   |_,_=>False
  | .value x=>an (s.ev x) λf=>an (fx s c.args.toList) λaD=>Dt lv P f s.H aD k ⟨0⟩
  | .invoke x name=>an (s.ev x) λf=>an (fx s c.args.toList) λaD=>Hp lv P f name s.H aD k ⟨0⟩
  |_=>False
 | .makeSlice t x y=>an (AE P t) λ(e,sz,z)=>an (s.ev x) λa=>an (s.ev y) λb=>a.asInt λ_ n=>b.asInt λ_ n'=>n'=n/\0<=n/\n<=2^30/\k (.bJ s.H.length 0 n.toNat n.toNat) (s.H++[.cells (gU z (n.toNat* sz)) e])
 | .buildSlice t len parts=>an (qJ P t) λ(e,sz,z)=>len* sz<=2^24/\an (j9 s parts.toList) λl7=>an (oe (iz.at (.elems sz)) (gU z (len* sz)) l7) λl=>k (.bJ s.H.length 0 len len) (s.H++[.cells l e])
 |_=>False
end
section
variable {lv:Bool}{P:Program}{r:Option Nat}{o:Oper}{s:AS}{k:AV->List aa->Prop}
theorem Step.drop{G:List aa}{av mH:AV}{bad:AV->AS->Prop}(h:Step lv P r o s (λs'=>s'=(⟨s.T,s.H++G⟩:AS).put o.dst av) bad)(hw:Wk av mH)(hl:∀(E:Env)(V:View)(a:Act),Conc E V s.H->cj E s.T a.tmps->Lt s.H.length mH):Step lv P r o s (λs'=>s'=(⟨s.T,s.H⟩:AS).put o.dst mH) bad:=λE V a N Q hc ht hd hf n1 n2=>by
 refine h E V a N Q hc ht hd hf (λE' V' a' s' q1 q2 q3 q4=> ?_) n2;subst q4;rw[fB]at q2;have fj:((⟨s.T,s.H++G⟩:AS).put o.dst av).Hm ((⟨s.T,s.H⟩:AS).put o.dst mH):=by
  refine⟨λt x e=> ?_,⟨G,by rw[fB,fB]⟩,by rw[fB];exact hc.ay⟩;rw[fB];have hold:look s.T t=some x->Lt s.H.length x:=λe=>by rw[<- hc.n];exact(ht t x e).2.lt
  cases dn:o.dst with
  |none=>
   rw[dn]at e;simp only[AS.put]at e⊢;exact⟨x,e,Wk.refl x,hold e⟩
  |some d=>
   rw[dn]at e;simp only[AS.put,look]at e⊢;by_cases Qw:d=t
   ·rw[if_pos Qw]at e⊢;cases e;exact⟨av,rfl,hw,hl E V a hc ht⟩
   ·rw[if_neg Qw]at e⊢;exact⟨x,e,Wk.refl x,hold e⟩
 have ah:At E' V' ((⟨s.T,s.H++G⟩:AS).put o.dst av) a' a'.tmps.size:=⟨by rw[fB];exact q2,q3,rfl⟩;have aR:=ah.cut fj;rw[fB]at aR;refine n1 _ V' a' _ ⟨Db (SO _) (by rw[q2.n];simp) q1.le hc.n,q1.size,q1.defers,q1.role,q1.deaf⟩ aR.bw aR.tok rfl
end
section
variable {lv:Bool}{P:Program}{r:Option Nat}{o:Oper}{s:AS}{G:List aa}{k:AV->List aa->Prop}
theorem eC{α:Type}{x:Option α}{a:α}{k:α->Prop}(h:x=some a)(hk:k a):an x k:=by rw[h,an];exact hk
theorem PI{x:Option aa}{X Y:Prop}{t:lZ X Y}(h:j6 x X Y t):((∃a b c,x=some (.own a b c))/\X)\/((∀a b c,x≠some (.own a b c))/\Y):=by
 unfold j6 at h;split at h
 ·exact .inl ⟨⟨_,_,_,rfl⟩,h⟩
 ·rename_i hx;exact .inr ⟨λa b c e=>hx a b c e,h⟩
theorem ait{x:Option aa}{X Y:Prop}{t:lZ X Y}{a:Nat}{b:List AV}{c:TypeId}(h:x=some (.own a b c))(hX:X):j6 x X Y t:=by subst h;exact hX
theorem aiw{x:Option aa}{X Y:Prop}{t:lZ X Y}(h:∀a b c,x≠some (.own a b c))(hY:Y):j6 x X Y t:=by
 unfold j6;split
 ·exact absurd rfl (h _ _ _)
 ·exact hY
theorem qC.ex{H:List aa}{n m sz:Nat}{elem:TypeId}{l l':List AV}{e:End}(h:qC G H k n m sz elem l l' e):∃av H',qC G H (λa h=>a=av/\h=H') n m sz elem l l' e/\k av H':=by
 cases e with
 |exact=>
  rcases PI (t:=⟨0⟩) h with⟨⟨a,b,c,e⟩,h0,h1⟩|⟨e,h1⟩
  ·exact⟨_,_,ait (t:=⟨0⟩) e ⟨h0,rfl,rfl⟩,h1⟩
  ·exact⟨_,_,aiw (t:=⟨0⟩) e ⟨rfl,rfl⟩,h1⟩
 |shut=>exact⟨_,_,⟨h.1,rfl,rfl⟩,h.2⟩
 |opn i=>exact⟨_,_,⟨h.1,h.2.1,rfl,rfl⟩,h.2.2⟩
theorem tn.ex{H:List aa}{id off n c0 m sz:Nat}{elem:TypeId}{l':List AV}(h:tn H k id off n c0 m sz elem l'):∃av H',tn H (λa h=>a=av/\h=H') id off n c0 m sz elem l'/\k av H':=by
 obtain⟨h1,h2,h3,h4,h5,h6⟩:=h;split at h6
 ·rename_i hk;obtain⟨g1,g2,g3,g4⟩:=h6;refine⟨_,_,⟨h1,h2,h3,h4,h5, ?_⟩,g4⟩;rw[hk];exact⟨g1,g2,g3,rfl,rfl⟩
 ·exact h6.elim
end
section
variable {lv:Bool}{P:Program}{r:Option Nat}{o:Oper}{s:AS}{next:AS->Prop}{bad:AV->AS->Prop}
theorem ab7{t e:TypeId}{len sz:Nat}{z:Value}{parts:Array (Nat×Operand)}{l7:List (Nat×AV)}{l:List AV}(ho:o.op= .buildSlice t len parts)(ht:qJ P t=some (e,sz,z))(aW:len* sz<=2^24)(hp:j9 s parts.toList=some l7)
  (hl:oe (iz.at (.elems sz)) (gU z (len* sz)) l7=some l) (hn:next ((⟨s.T,s.H++[.cells l e]⟩:AS).put o.dst (.bJ s.H.length 0 len len))):Step lv P r o s next bad:=by
 intro E V a N Q hc aF hd bz h1 _;unfold qJ at ht;split at ht
 ·rename_i e' hu;obtain⟨i,hi,ht⟩:=Tc.1 ht;obtain⟨z',hz,ht⟩:=Tl.1 ht;cases ht;refine⟨bz, ?_⟩;unfold execOp;rw[ho];dsimp only;refine az ?_;unfold Instr.buildSlice;refine eE hu ?_;dsimp only;refine j3 hi ?_;rw[if_neg (by omega)];obtain⟨hlen,bm⟩:=Ee aF hp;obtain⟨eY,nD,tZ⟩:=Bh (Ih (E:=E) z (len* i.size)) hlen bm hl;have fin:∀(rr:Nat),V.fresh rr->aO P (V.upd rr (.cells eY e)) (pure (Wr (.slice (some ⟨rr,0,none⟩) len len))) (mF lv P r o a N Q) (λv V'=>Q (.panic [{v,recovered:=false}]) a V'):=λrr hf=>by
   have oz:E.Le (E.add rr V.ab):=E.qn rr (λb o v h=>by rw[<- hc.I];exact h);have bc:Conc (E.add rr V.ab) (V.upd rr (.cells eY e)) (s.H++[.cells l e]):=by
    refine hc.add hf _ ⟨⟨_, ?_,tZ.mono oz⟩,λo=> ?_⟩ (λb e=> ?_)
    ·rw[Env.dS];simp[View.upd]
    ·rw[Env.dS];exact hf.2 o
    ·simp only[bN,Env.dS,Te]at e;exact e.symm
   have o5:ap (E.add rr V.ab) (.bJ s.H.length 0 len len) (.slice (some ⟨rr,0,none⟩) len len):=by
    have:=ap.bJ (E:=E.add rr V.ab) (id:=s.H.length) (off:=0) (n:=len) (cap:=len) (cap':=len) (by show _<E.n+1;rw[hc.n];omega) ⟨by omega,λ_=>rfl,λh=>absurd h (by omega)⟩;have e:(E.add rr V.ab).blk s.H.length=rr:=(by rw[<- hc.n];exact E.dS rr _);rwa [e]at this
   exact aq (h1 _ _ (a.put o.dst _) _ ⟨oz,eD _ _ _,put_defers _ _ _,rfl,rfl⟩ (by rw[fB];exact bc) (cj.hO (s:=⟨s.T,s.H++[.cells l e]⟩) (aF.mono oz) hd o5) hn)
  have e2:(λj=>some (j* i.size,i.size))=iz.at (.elems i.size):=rfl;rw[e2];by_cases h0:len* i.size=0
  ·rw[if_pos h0];refine az (aq ?_);rw[h0]at nD⊢;rw[show VY 0=#[]from rfl]at nD⊢;simp only[List.map_toArray,List.map_nil,Vm]at nD⊢;rw[nD];unfold newRow;exact az (az (az (oH λrr hf=>cK (aq (aq (aq (fin rr hf)))))))
  ·rw[if_neg h0];refine az (az ?_);unfold typeInfo;refine az (qv (cK ?_));rw[hi];refine aq ?_;rw[hz];refine aq (az (aq ?_));rw[Vm,nD];unfold newRow;exact az (az (az (oH λrr hf=>cK (aq (aq (aq (fin rr hf)))))))
 ·cases ht
end
section
variable {lv:Bool}{P:Program}{r:Option Nat}{o:Oper}{s:AS}{G:List aa}{k:AV->List aa->Prop}
theorem j4.ex(h:j4 lv P G s o k):∃av H',j4 lv P G s o (λa h=>a=av/\h=H')/\k av H':=by
 unfold j4 at h⊢;generalize o.op=op at h⊢;cases op with
 |box t x=>
  obtain⟨a,h1,h⟩:=h.out;obtain⟨l,h2,h⟩:=h.out;exact⟨_,_,eC h1 (eC h2 ⟨rfl,rfl⟩),h⟩
 |alloc t=>
  obtain⟨z,h1,h⟩:=h.out;exact⟨_,_,eC h1 ⟨rfl,rfl⟩,h⟩
 |store t x y=>
  obtain⟨p,h1,hA⟩:=h.out;obtain⟨a,h2,hB⟩:=hA.out;obtain⟨lp,h3,hC⟩:=hB.out;obtain⟨id,off,e1,hD⟩:=A4 hC;subst e1;clear h hA hB hC;split at hD
  ·rename_i l el hk;refine⟨_,_,eC h1 (eC h2 (eC h3 ?_)),hD.2.2.2⟩;unfold AV.pJ;dsimp only;rw[hk];exact⟨hD.1,hD.2.1,hD.2.2.1,rfl,rfl⟩
  ·rename_i p l el hk;refine⟨_,_,eC h1 (eC h2 (eC h3 ?_)),hD.2.2.2⟩;unfold AV.pJ;dsimp only;rw[hk];exact⟨hD.1,hD.2.1,hD.2.2.1,rfl,rfl⟩
  ·exact hD.elim
 |call c=>
  dsimp only at h⊢;generalize c.callee=cl at h⊢;generalize c.args.toList=xs at h⊢;generalize c.argTypes.toList=ts at h⊢;cases cl with
  |builtin b=>
   cases b with
   |append=>
    dsimp only at h⊢;split at h
    ·obtain⟨⟨elem,sz,z⟩,h1,hA⟩:=h.out;obtain⟨a,h2,hB⟩:=hA.out;obtain⟨b,h3,hC⟩:=hB.out;rcases HH hC with⟨id,off,n,c0,e1,hD⟩|⟨n,l,e,e1,hD⟩
     ·obtain⟨⟨m,l'⟩,h4,h5⟩:=hD.out;subst e1;obtain⟨av,H',g1,g2⟩:=h5.ex;refine⟨av,H',eC h1 (eC h2 (eC h3 ?_)),g2⟩;simp only[AV.pK];exact eC h4 g1
     ·obtain⟨⟨m,l'⟩,h4,h5,h6,h7,h8⟩:=hD.out;subst e1;obtain⟨av,H',g1,g2⟩:=h8.ex;refine⟨av,H',eC h1 (eC h2 (eC h3 ?_)),g2⟩;simp only[AV.pK];exact eC h4 ⟨h5,h6,h7,g1⟩
    ·exact h.elim
   |_=>exact h.elim
  |value x=>
   obtain⟨f,h1,hA⟩:=h.out;obtain⟨aD,h2,hB⟩:=hA.out;obtain⟨av,H',g1,g2⟩:=hB;exact⟨av,H',eC h1 (eC h2 ⟨av,H',g1,rfl,rfl⟩),g2⟩
  |invoke x name=>
   obtain⟨f,h1,hA⟩:=h.out;obtain⟨aD,h2,hB⟩:=hA.out;obtain⟨av,H',g1,g2⟩:=hB;exact⟨av,H',eC h1 (eC h2 ⟨av,H',g1,rfl,rfl⟩),g2⟩
 |makeSlice t x y=>
  obtain⟨⟨e,sz,z⟩,h1,hA⟩:=h.out;obtain⟨a,h2,hB⟩:=hA.out;obtain⟨b,h3,hC⟩:=hB.out;obtain⟨j,n,e1,hD⟩:=n9 hC;obtain⟨j',n',e2,hE⟩:=n9 hD;clear h hA hB hC hD;subst e1 e2;exact⟨_,_,eC h1 (eC h2 (eC h3 ⟨hE.1,hE.2.1,hE.2.2.1,rfl,rfl⟩)),hE.2.2.2⟩
 |buildSlice t len parts=>
  obtain⟨⟨e,sz,z⟩,h1,h2,hA⟩:=h.out;obtain⟨l7,h3,hB⟩:=hA.out;obtain⟨l,h4,hC⟩:=hB.out;exact⟨_,_,eC h1 ⟨h2,eC h3 (eC h4 ⟨rfl,rfl⟩)⟩,hC⟩
 |_=>exact h.elim
theorem j4.step{av:AV}{H':List aa}{bad:AV->AS->Prop}(h:j4 lv P G s o (λa h=>a=av/\h=H')):Step lv P r o s (λs'=>s'=(⟨s.T,H'⟩:AS).put o.dst av) bad:=by
 unfold j4 at h;split at h
 ·rename_i t x ho;obtain⟨a,h1,h⟩:=h.out;obtain⟨l,h2,h⟩:=h.out;obtain⟨e1,e2⟩:=h;exact ab6 ho h1 h2 (by rw[e1,e2])
 ·rename_i t ho;obtain⟨z,h1,h⟩:=h.out;obtain⟨e1,e2⟩:=h;exact ab3 ho h1 (by rw[e1,e2])
 ·rename_i t x y ho;obtain⟨p,h1,hA⟩:=h.out;obtain⟨a,h2,hB⟩:=hA.out;obtain⟨lp,h3,hC⟩:=hB.out;obtain⟨id,off,e1,hD⟩:=A4 hC;clear h hA hB hC;subst e1;split at hD
  ·rename_i l el hk;obtain⟨q1,q2,q3,q4,Mo⟩:=hD;obtain⟨⟨n,g⟩,q5,q6⟩:=q1.out;exact acb ho q5 h1 hk h2 h3 q6 q2 q3 (by rw[q4,Mo])
  ·rename_i p l el hk;obtain⟨q1,q2,q3,q4,Mo⟩:=hD;obtain⟨⟨n,g⟩,q5,q6⟩:=q1.out;exact acd ho q5 h1 hk h2 h3 q6 q2 q3 (by rw[q4,Mo])
  ·exact hD.elim
 ·rename_i c ho;split at h
  ·rename_i aX;split at h
   ·rename_i x y t t' ha ht;obtain⟨⟨elem,sz,z⟩,h1,hA⟩:=h.out;obtain⟨a,h2,hB⟩:=hA.out;obtain⟨b,h3,hC⟩:=hB.out;rcases HH hC with⟨id,off,n,c0,e1,hD⟩|⟨n,l,e,e1,hD⟩
    ·clear h hA hB hC;subst e1;obtain⟨⟨m,l'⟩,h4,rfl,g2,g3,g4,g5,hE⟩:=hD.out;split at hE
     ·rename_i hk;obtain⟨rfl,rfl,g6,g7,g8⟩:=hE;exact ab4 ho aX (nf ha) (rT ht) h1 h2 g2 hk rfl h3 h4 g6 g3 g4 g5 (by rw[g7,g8])
     ·exact hE.elim
    ·clear h hA hB hC;subst e1;obtain⟨⟨m,l'⟩,h4,h5,h6,h7,h8⟩:=hD.out;cases e with
     |exact=>
      rcases PI (t:=⟨0⟩) h8 with⟨_,h0,e1,e2⟩|⟨_,e1,e2⟩
      ·exact ab5 ho aX (nf ha) (rT ht) h1 h2 h3 h4 h5 h6 h7 h0 (by rw[e1,e2])
      ·exact step_append ho aX (nf ha) (rT ht) h1 h2 h3 h4 h5 h6 h7 (by show (_:AS)=_;rw[<- e1,<- e2])
     |shut=>
      obtain⟨e0,e1,e2⟩:=h8;exact step_append ho aX (nf ha) (rT ht) h1 h2 h3 h4 h5 h6 h7 ⟨e0,by rw[<- e1,<- e2]⟩
     |opn i=>
      obtain⟨e0,e0',e1,e2⟩:=h8;exact step_append ho aX (nf ha) (rT ht) h1 h2 h3 h4 h5 h6 h7 ⟨e0,e0',by rw[<- e1,<- e2]⟩
   ·exact h.elim
  ·rename_i x aX;obtain⟨f,h1,hA⟩:=h.out;obtain⟨aD,h2,hB⟩:=hA.out;obtain⟨a0,H0,g1,g2,g3⟩:=hB;subst g2 g3;exact MN ho aX h1 h2 (g1.mono (λa H h=>by rw[h.1,h.2]) λ_ _ h=>h.elim)
  ·rename_i x name aX;obtain⟨f,h1,hA⟩:=h.out;obtain⟨aD,h2,hB⟩:=hA.out;obtain⟨a0,H0,g1,g2,g3⟩:=hB;subst g2 g3;exact ab8 ho aX h1 h2 (λE V cv vs hc hd o6=>(g1 E V cv vs hc hd o6).mono (λ_ _ x=>Nx.mono (λ_ _ y=>y.mono (λa H h=>by rw[h.1,h.2]) λ_ _ h=>h.elim) x) λ_ _ y=>y.mono (λa H h=>by rw[h.1,h.2]) λ_ _ h=>h.elim)
  ·exact h.elim
 ·rename_i t x y ho;obtain⟨⟨e,sz,z⟩,h1,hA⟩:=h.out;obtain⟨a,h2,hB⟩:=hA.out;obtain⟨b,h3,hC⟩:=hB.out;obtain⟨j,n,e1,hD⟩:=n9 hC;obtain⟨j',n',e2,hE⟩:=n9 hD;clear h hA hB hC hD;subst e1 e2;obtain⟨e3,h4,h5,h6,h7⟩:=hE;subst e3;obtain⟨m,rfl⟩:∃m:Nat,n'=m:=⟨n'.toNat,by omega⟩;exact ab9 ho h1 h2 h3 (by omega) (by rw[U8]at h6 h7;rw[h6,h7])
 ·rename_i t len parts ho;obtain⟨⟨e,sz,z⟩,h1,h2,hA⟩:=h.out;obtain⟨l7,h3,hB⟩:=hA.out;obtain⟨l,h4,h5,h6⟩:=hB.out;exact ab7 ho h1 h2 h3 h4 (by rw[h5,h6])
 ·exact h.elim
theorem j4.congr{T T':List (Nat×AV)}{H:List aa}(h:∀x∈o.op.operands,AS.ev ⟨T,H⟩ x=AS.ev ⟨T',H⟩ x)(ha:j4 lv P G ⟨T,H⟩ o k):j4 lv P G ⟨T',H⟩ o k:=by
 unfold j4 at ha⊢;generalize o.op=op at h ha⊢;cases op with
 |box t x=>dsimp only at ha⊢;rw[<- h x (by simp[Tn])];exact ha
 |alloc t=>exact ha
 |store t x y=>dsimp only at ha⊢;rw[<- h x (by simp[Tn]),<- h y (by simp[Tn])];exact ha
 |call c=>
  have cO:∀x∈c.args.toList,AS.ev ⟨T,H⟩ x=AS.ev ⟨T',H⟩ x:=λx hx=>h x (by simp[Tn,Vr];exact .inr (by simpa using hx));dsimp only at ha⊢;split at ha
  ·split at ha
   ·rename_i x y t t' hx ht;rw[hx]at cO;rw[<- cO x (by simp),<- cO y (by simp)];exact ha
   ·exact ha.elim
  ·rename_i x aX;rw[<- h x (by simp[Tn,Vr,aX]),<- Bg _ cO];exact ha
  ·rename_i x name aX;rw[<- h x (by simp[Tn,Vr,aX]),<- Bg _ cO];exact ha
  ·exact ha.elim
 |makeSlice t x y=>dsimp only at ha⊢;rw[<- h x (by simp[Tn]),<- h y (by simp[Tn])];exact ha
 |buildSlice t len parts=>
  have e:j9 ⟨T',H⟩ parts.toList=j9 ⟨T,H⟩ parts.toList:=by
   have hp:∀p∈parts.toList,AS.ev ⟨T,H⟩ p.2=AS.ev ⟨T',H⟩ p.2:=λp hp=>h p.2 (by simp[Tn];exact⟨p.1,by simpa using hp⟩);clear ha;generalize parts.toList=l at hp;induction l with
   |nil=>rfl
   |cons p l ih=>simp only[j9,hp p Tu,ih λq hq=>hp q (S9 _ hq)]
  dsimp only at ha⊢;rw[e];exact ha
 |_=>exact ha.elim
end
def nq (acc:List (Nat×List Nat))(j:Nat):List Nat:=((acc.find? (·.1==j)).map (·.2)).getD []
def gO (ops:Array Oper):List Nat->List (Nat×List Nat)->List (Nat×List Nat)
 |[],acc=>acc
 |i::l,acc=>match ops[i]?with
  |some o=>gO ops l ((i,(cQ o++(cQ o).flatMap (nq acc)).eraseDups)::acc)
  |none=>gO ops l acc
def tj:List Nat->List (List Nat)
 |[]=>[[]]
 |x::l=>tj l++(tj l).map (x::·)
def v8 (cl:List (Nat×List Nat))(es:List Nat)(i:Nat)(D:List Nat):Bool:=
 !D.contains i&&es.all λe=>(!(nq cl i).contains e||D.contains e)&&(!D.contains e||(!(nq cl e).contains i&&es.all λe'=> !(nq cl e).contains e'||D.contains e'))
def sY (es:List Nat)(i:Nat)(D:List Nat):List Nat:=es.filter λe=>e==i||D.contains e
structure qG where
 i:Nat
 eff:Bool
 aft:List Nat
 LU:List (List Nat×List Nat)
 deriving DecidableEq
def entry (cl:List (Nat×List Nat))(es X:List Nat)(i:Nat):qG:=
 let cur:=es.filter λe=>X.contains e
 ⟨i,es.contains i,sY es i cur,((tj es).filter λD=>v8 cl es i D&&D !=cur).map λD=>(D,sY es i D)⟩
def qt (cl:List (Nat×List Nat))(es:List Nat):List Nat->List Nat->List qG
 |_,[]=>[]
 |X,i::B=>entry cl es X i::qt cl es (i::X) B
def aa7 (ops:Array Oper)(es ord:List Nat):List qG:=qt (gO ops ord []) es [] ord
def kz (ops:Array Oper):List Nat->List Nat->Bool
 |_,[]=>true
 |X,i::B=> !X.contains i&&(match ops[i]?with
  |some o=>(cQ o).all X.contains
  |none=>false)&&kz ops (i::X) B
def qR (nt:Nat)(ops:Array Oper)(es ord:List Nat):Bool:=
 let cl:=gO ops ord [];decide (ord.length=ops.size)&&kz ops [] ord&&ord.all λi=>match ops[i]?with
  |some o=>o.dst.all (·<nt)&& !ml o.op&&o.guard.isNone&&
   (ord.all λj=>i==j||match o.dst,cY ops j with
    |some d,some d'=>d !=d'
    |_,_=>true)&&
   (o.op.operands.toList.all λx=>match x with
    | .tmp t=>ord.all λj=>cY ops j !=some t||(cQ o).contains j||(nq cl j).contains i
    |_=>true)
  |none=>false
theorem PK{acc:List (Nat×List Nat)}{j k:Nat}(h:k∈nq acc j):∃l,(j,l)∈acc/\k∈l:=by
 unfold nq at h;cases e:acc.find? (·.1==j)with
 |none=>rw[e]at h;simp at h
 |some x=>
  rw[e]at h;obtain⟨j',l⟩:=x;have h1:=List.mem_of_find?_eq_some e;have h2:=List.find?_some e;simp only[beq_iff_eq]at h2;subst h2;exact⟨l,h1,by simpa using h⟩
theorem H5{ops:Array Oper}:∀(ord:List Nat)(acc:List (Nat×List Nat)),(∀i l,(i,l)∈acc->∀j∈l,Reach ops i j)->∀i l,(i,l)∈gO ops ord acc->∀j∈l,Reach ops i j
 |[],acc,h=>h
 |x::ord,acc,h=>by
  unfold gO;split
  ·rename_i o ho;refine H5 ord _ λi l hm j hj=> ?_;rcases SK.1 hm with e|hm
   ·cases e;rw[Yj,SN]at hj;rcases hj with hj|hj
    ·exact .It ho hj
    ·obtain⟨k,hk,hj⟩:=S4.1 hj;obtain⟨l',h1,h2⟩:=PK hj;exact .more ho hk (h _ _ h1 _ h2)
   ·exact h i l hm j hj
  ·exact H5 ord acc h
theorem yB{ops:Array Oper}{ord:List Nat}{i j:Nat}(h:j∈nq (gO ops ord []) i):Reach ops i j:=by
 obtain⟨l,h1,h2⟩:=PK h;exact H5 ord [] (by simp) i l h1 j h2
theorem Eh(p:Nat->Bool):∀l:List Nat,l.filter p∈tj l
 |[]=>by simp[tj]
 |x::l=>by
  unfold tj;rw[SN];by_cases h:p x=true
  ·rw[XI h];exact .inr (Th.2 ⟨_,Eh p l,rfl⟩)
  ·rw[XJ h];exact .inl (Eh p l)
structure yg (nt:Nat)(ops:Array Oper)(ord:List Nat):Prop where
 full:∀i,i<ops.size->i∈ord
 lt:∀i∈ord,i<ops.size
 top:kz ops [] ord=true
 dst:∀(i:Nat) o d,ops[i]?=some o->o.dst=some d->d<nt
 vd:∀(i:Nat) o,ops[i]?=some o->ml o.op=false
 Bs:∀(i:Nat) o,ops[i]?=some o->o.guard=none
 An:∀(i j d:Nat),cY ops i=some d->cY ops j=some d->i=j
 LS:∀(i:Nat) o t j,ops[i]?=some o-> .tmp t∈o.op.operands->cY ops j=some t->j∈cQ o\/Reach ops j i
theorem C_{ops:Array Oper}:∀{ord X:List Nat},kz ops X ord=true->ord.Nodup/\(∀i∈ord,i∉X)/\∀i∈ord,i<ops.size
 |[],_,_=>⟨V_,by simp,by simp⟩
 |i::B,X,h=>by
  simp only[kz,Td,TL,Ub,decide_eq_false_iff_not]at h;obtain⟨⟨h1,h2⟩,h3⟩:=h;obtain⟨q1,q2,q3⟩:=C_ h3;refine⟨Vv.2 ⟨λhm=>q2 i hm (Tu ..),q1⟩,λj hj=> ?_,λj hj=> ?_⟩
  ·rcases SK.1 hj with rfl|hj
   ·exact h1
   ·exactλhx=>q2 j hj (S9 _ hx)
  ·rcases SK.1 hj with rfl|hj
   ·apply To;intro hn;rw[XN (by omega)]at h2;cases h2
   ·exact q3 j hj
theorem qR.out{nt:Nat}{ops:Array Oper}{es ord:List Nat}(h:qR nt ops es ord=true):yg nt ops ord:=by
 unfold qR at h;simp only[Td,decide_eq_true_eq]at h;obtain⟨⟨hlen,nL⟩,h⟩:=h;obtain⟨vO,_,hlt⟩:=C_ nL;have zb:∀i,i<ops.size->i∈ord:=λi hi=>by
  apply To;intro hn;have lO:(i::ord)⊆SX ops.size:=λj hj=>by
   rcases SK.1 hj with rfl|hj
   ·simpa using hi
   ·simpa using hlt j hj
  have:=(Vv.2 ⟨hn,vO⟩).length_le_of_subset lO;simp at this;omega
 have key:∀(i:Nat) o,ops[i]?=some o->o.dst.all (·<nt)=true/\ml o.op=false/\o.guard.isNone=true/\(∀j∈ord,(i==j||match o.dst,cY ops j with
    |some d,some d'=>d !=d'
    |_,_=>true)=true)/\(∀x∈o.op.operands.toList,(match x with
    | .tmp t=>ord.all λj=>cY ops j !=some t||(cQ o).contains j||(nq (gO ops ord []) j).contains i
    |_=>true)=true):=λi o ho=>by
  have hi:i<ops.size:=(SP.1 ho).1;have:=Tp.1 h i (zb i hi);rw[ho]at this;simp only[Td,Tp,TL]at this;exact⟨this.1.1.1.1,this.1.1.1.2,this.1.1.2,this.1.2,this.2⟩
 have Qt:∀j d,cY ops j=some d->j<ops.size:=λj d e=>by
  apply To;intro hn;rw[cY,XN (by omega)]at e;cases e
 refine⟨zb,hlt,nL,λi o d ho hd=> ?_,λi o ho=>(key i o ho).2.1,λi o ho=>by simpa using(key i o ho).2.2.1,λi j d hi hj=> ?_,λi o t j ho ht hj=> ?_⟩
 ·have:=(key i o ho).1;rw[hd]at this;simpa using this
 ·apply To;intro aE;obtain⟨o,ho,sG⟩:=Tc.1 hi;have:=(key i o ho).2.2.2.1 j (zb j (Qt j d hj));rw[sG,hj]at this;simp[aE]at this
 ·have:=(key i o ho).2.2.2.2 (.tmp t) (by simpa using ht);simp only[Tp]at this;have:=this j (zb j (Qt j t hj));rw[hj]at this;simp only[bne_self_eq_false,YG,Xm,Ub,decide_eq_true_eq]at this;exact this.imp id yB
section
variable (lv:Bool)(P:Program)(Hf:List Nat->List aa)
def BQ (T:List (Nat×AV))(o:Oper)(av:AV):List (List Nat×List Nat)->Prop
 |[]=>True
 |(D,_)::l=>(AQ lv P ⟨T,Hf D⟩ o λa=>a=av)/\BQ T o av l
def BE (T:List (Nat×AV))(o:Oper)(av:AV):List (List Nat×List Nat)->Prop
 |[]=>True
 |(D,D')::l=>(j4 lv P (Hf D') ⟨T,Hf D⟩ o λa H'=>a=av/\H'=Hf D')/\BE T o av l
structure AC (K:AS->Prop):Type where
 n:Nat
def gu (ops:Array Oper):List qG->AS->(K:AS->Prop)->AC K->Prop
 |[],s,K,_=>K s
 |⟨i,false,_,l⟩::rest,s,K,t=>an (ops[i]?) λo=>AQ lv P s o λav=>BQ lv P Hf s.T o av l/\gu ops rest (s.put o.dst av) K t
 |⟨i,true,D,l⟩::rest,s,K,t=>an (ops[i]?) λo=>j4 lv P (Hf D) s o λav H'=>H'=Hf D/\BE lv P Hf s.T o av l/\gu ops rest ((⟨s.T,H'⟩:AS).put o.dst av) K t
end
def TX (ops:Array Oper)(T0:List (Nat×AV))(f:Nat->AV):List Nat->List (Nat×AV)
 |[]=>T0
 |i::X=>match cY ops i with
  |some d=>(d,f i)::TX ops T0 f X
  |none=>TX ops T0 f X
section
variable {ops:Array Oper}{T0:List (Nat×AV)}{f g:Nat->AV}
theorem AL:∀{X:List Nat},(∀j∈X,f j=g j)->TX ops T0 f X=TX ops T0 g X
 |[],_=>rfl
 |i::X,h=>by
  simp only[TX,AL (X:=X) λj hj=>h j (S9 _ hj),h i (Tu ..)]
theorem AM(RP:∀(i j d:Nat),cY ops i=some d->cY ops j=some d->i=j):∀{X:List Nat}{j t:Nat},j∈X->cY ops j=some t->look (TX ops T0 f X) t=some (f j)
 |i::X,j,t,hj,ht=>by
  by_cases kq:i=j
  ·subst kq;simp[TX,ht,look]
  ·have iC:j∈X:=(SK.1 hj).resolve_left (Ne.symm kq);have ih:=AM RP (X:=X) iC ht;unfold TX;split
   ·rename_i d hd;have:d≠t:=λe=>kq (RP i j d hd (by rw[e];exact ht));simp only[look,if_neg this];exact ih
   ·exact ih
theorem wG:∀{X:List Nat}{t:Nat},(∀j∈X,cY ops j≠some t)->look (TX ops T0 f X) t=look T0 t
 |[],_,_=>rfl
 |i::X,t,h=>by
  have ih:=wG (X:=X) (t:=t) λj hj=>h j (S9 _ hj);unfold TX;split
  ·rename_i d hd;have:d≠t:=λe=>h i (Tu ..) (by rw[hd,e]);simp only[look,if_neg this];exact ih
  ·exact ih
theorem wH{H:List aa}{X:List Nat}{i:Nat}{o:Oper}{av:AV}(ho:ops[i]?=some o)(hf:f i=av):(⟨TX ops T0 f X,H⟩:AS).put o.dst av=⟨TX ops T0 f (i::X),H⟩:=by
 have hd:cY ops i=o.dst:=by simp[cY,ho]
 have e:TX ops T0 f (i::X)=match cY ops i with
  |some d=>(d,f i)::TX ops T0 f X
  |none=>TX ops T0 f X:=rfl
 rw[e,hd];cases o.dst with
 |none=>rfl
 |some d=>simp[AS.put,hf]
def kS (ops:Array Oper)(X:List Nat):Prop:=∀i∈X,∀o,ops[i]?=some o->∀j∈cQ o,j∈X
theorem kS.reach{X:List Nat}(hX:kS ops X){i j:Nat}(hi:i∈X)(h:Reach ops i j):j∈X:=z_ hX h λo ho k hk=>hX i hi o ho k hk
theorem kS.cons{X:List Nat}(hX:kS ops X){i:Nat}{o:Oper}(ho:ops[i]?=some o)(hd:∀j∈cQ o,j∈X):kS ops (i::X):=λk hk o' bf j hj=>by
 rcases SK.1 hk with rfl|hk
 ·rw[ho]at bf;cases bf;exact S9 _ (hd j hj)
 ·exact S9 _ (hX k hk o' bf j hj)
theorem ade{nt:Nat}{ord:List Nat}(ay:yg nt ops ord){X X':List Nat}{i:Nat}{o:Oper}(ho:ops[i]?=some o)(hX:kS ops X)(o0:kS ops X')(hi:i∉X)(cF:i∉X')(hd:∀j∈cQ o,j∈X)(cE:∀j∈cQ o,j∈X'){t:Nat}(ht: .tmp t∈o.op.operands):
  look (TX ops T0 f X) t=look (TX ops T0 f X') t:=by
 by_cases hex:∃j,cY ops j=some t
 ·obtain⟨j,hj⟩:=hex;rcases ay.LS i o t j ho ht hj with h|h
  ·rw[AM ay.An (hd j h) hj,AM ay.An (cE j h) hj]
  ·rw[wG λj' iC e=>hi (hX.reach (ay.An j j' t hj e▸iC) h),wG λj' iC e=>cF (o0.reach (ay.An j j' t hj e▸iC) h)]
 ·rw[wG λj _ e=>hex ⟨j,e⟩,wG λj _ e=>hex ⟨j,e⟩]
end
section
variable {lv:Bool}{P:Program}{r:Option Nat}{ops:Array Oper}{Hf:List Nat->List aa}{T0:List (Nat×AV)}{es ord:List Nat}{nt:Nat}
def done (es X:List Nat):List Nat:=es.filter λe=>X.contains e
theorem Eb{X:List Nat}{i:Nat}:sY es i (done es X)=done es (i::X):=by
 unfold sY done;apply UU;intro e he;by_cases h:e=i
 ·subst h;simp
 ·simp[Uh,he,h]
theorem Ik{X:List Nat}{i:Nat}(hi:i∉es):done es (i::X)=done es X:=by
 unfold done;apply UU;intro e he;have:e≠i:=λh=>hi (h▸he);simp[this]
theorem Il{X:List Nat}(hX:kS ops X){i:Nat}{o:Oper}(ho:ops[i]?=some o)(hi:i∉X)(hd:∀j∈cQ o,j∈X):v8 (gO ops ord []) es i (done es X)=true:=by
 have cw:∀e,e∈es->(e∈done es X<->e∈X):=λe he=>by simp[done,Uh,he]
 have hX2:=hX.cons ho hd;unfold v8;simp only[Td,TL,Ub,decide_eq_false_iff_not,Tp,Xm,decide_eq_true_eq];refine⟨λh=>hi (by simpa[done]using(Uh.1 h).2),λe he=>⟨?_, ?_⟩⟩
 ·by_cases h:e∈nq (gO ops ord []) i
  ·right;rw[cw e he];exact z_ hX (yB h) λo' bf k hk=>by rw[ho]at bf;cases bf;exact hd k hk
  ·exact .inl h
 ·by_cases h:e∈X
  ·right;refine⟨λhm=>hi (hX.reach h (yB hm)),λe' kj=> ?_⟩;by_cases hm:e'∈nq (gO ops ord []) e
   ·right;rw[cw e' kj];exact hX.reach h (yB hm)
   ·exact .inl hm
  ·left;rw[cw e he];exact h
def OB (lv:Bool)(P:Program)(r:Option Nat)(ops:Array Oper)(Hf:List Nat->List aa)(T0:List (Nat×AV))(es:List Nat)(f:Nat->AV)(i:Nat)(o:Oper)(X:List Nat):Prop:=
 if i∈es then j4 lv P (Hf (done es (i::X))) ⟨TX ops T0 f X,Hf (done es X)⟩ o (λa H'=>a=f i/\H'=Hf (done es (i::X)))
 else∃T,(∀t a,look T t=some a->look (TX ops T0 f X) t=some a)/\dC lv P r o ⟨T,Hf (done es X)⟩ (f i)
theorem BQ.mem{T:List (Nat×AV)}{o:Oper}{av:AV}:∀{l:List (List Nat×List Nat)},BQ lv P Hf T o av l->∀p∈l,AQ lv P ⟨T,Hf p.1⟩ o λa=>a=av
 |(D,D')::l,h,p,hp=>by
  rcases SK.1 hp with rfl|hp
  ·exact h.1
  ·exact BQ.mem h.2 p hp
theorem BE.mem{T:List (Nat×AV)}{o:Oper}{av:AV}:∀{l:List (List Nat×List Nat)},BE lv P Hf T o av l->∀p∈l,j4 lv P (Hf p.2) ⟨T,Hf p.1⟩ o λa H'=>a=av/\H'=Hf p.2
 |(D,D')::l,h,p,hp=>by
  rcases SK.1 hp with rfl|hp
  ·exact h.1
  ·exact BE.mem h.2 p hp
def canon (T:List (Nat×AV)):List Operand->List (Nat×AV)
 |[]=>[]
 | .tmp t::l=>match look T t with
  |some a=>(t,a)::canon T l
  |none=>canon T l
 |_::l=>canon T l
theorem HZ{T:List (Nat×AV)}:∀{l:List Operand}{t:Nat}{a:AV},look (canon T l) t=some a->look T t=some a
 |[],_,_,h=>by cases h
 |x::l,t,a,h=>by
  have ih:=@HZ T l t a;cases x with
  |tmp t'=>
   simp only[canon]at h;split at h
   ·rename_i b hb;simp only[look]at h;split at h
    ·rename_i e;subst e;cases h;exact hb
    ·exact ih h
   ·exact ih h
  |_=>exact ih h
theorem Oh{T:List (Nat×AV)}:∀{l:List Operand}{t:Nat}, .tmp t∈l->look (canon T l) t=look T t
 |x::l,t,h=>by
  by_cases hx:x= .tmp t
  ·subst hx;simp only[canon];split
   ·rename_i b hb;simp[look,hb]
   ·rename_i hb;rw[hb];cases e:look (canon T l) t with
    |none=>rfl
    |some a=>have:=HZ e;rw[hb]at this;cases this
  ·have hm: .tmp t∈l:=(SK.1 h).resolve_left (Ne.symm hx);have ih:=Oh (T:=T) hm;cases x with
   |tmp t'=>
    have aE:t'≠t:=λe=>hx (by rw[e]);simp only[canon];split
    ·simp only[look,if_neg aE];exact ih
    ·exact ih
   |_=>exact ih
theorem Og{T:List (Nat×AV)}:∀{l:List Operand}{t:Nat}{a:AV},look (canon T l) t=some a-> .tmp t∈l
 |[],_,_,h=>by cases h
 |x::l,t,a,h=>by
  have ih:=@Og T l t a;cases x with
  |tmp t'=>
   simp only[canon]at h;split at h
   ·simp only[look]at h;split at h
    ·rename_i e;subst e;exact Tu ..
    ·exact S9 _ (ih h)
   ·exact S9 _ (ih h)
  |_=>exact S9 _ (ih h)
theorem Of{T:List (Nat×AV)}{H:List aa}{l:List Operand}{x:Operand}(h:x∈l):AS.ev ⟨T,H⟩ x=AS.ev ⟨canon T l,H⟩ x:=by
 cases x with
 |tmp t=>exact(Oh h).symm
 |_=>rfl
theorem A8(ay:yg nt ops ord){K:AS->Prop}{tk:AC K}:∀(B X:List Nat)(acc:Nat->AV),kz ops X B=true->kS ops X->gu lv P Hf ops (qt (gO ops ord []) es X B) ⟨TX ops T0 acc X,Hf (done es X)⟩ K tk->
  ∃f,(∀j∈X,f j=acc j)/\(∀i∈B,∀o,ops[i]?=some o->∀X',kS ops X'->i∉X'->(∀j∈cQ o,j∈X')->OB lv P r ops Hf T0 es f i o X')/\K ⟨TX ops T0 f (B.reverse++X),Hf (done es (B.reverse++X))⟩
 |[],X,acc,_,_,h=>⟨acc,λ_ _=>rfl,by simp,by simpa[qt,gu]using h⟩
 |i::B,X,acc,nL,hX,h=>by
  have asG:=nL;simp only[kz,Td,TL,Ub,decide_eq_false_iff_not]at nL;obtain⟨⟨hi,h2⟩,h3⟩:=nL;cases ho:ops[i]?with
  |none=>rw[ho]at h2;cases h2
  |some o=>
  rw[ho]at h2;have hd:∀j∈cQ o,j∈X:=λj hj=>by have:=Tp.1 h2 j hj;simpa using this
  have o0:=hX.cons ho hd;have ass:v8 (gO ops ord []) es i (done es X)=true:=Il hX ho hi hd;have LU:∀D,D∈tj es->v8 (gO ops ord []) es i D=true->D≠done es X->(D,sY es i D)∈((tj es).filter λD=>v8 (gO ops ord []) es i D&&D !=done es X).map λD=>(D,sY es i D):=λD h1 h2 h3=>Th.2 ⟨D,Uh.2 ⟨h1,by simp[h2,h3]⟩,rfl⟩;have NA:∀av:AV,TX ops T0 acc X=TX ops T0 (λj=>if j=i then av else acc j) X:=λav=>AL λj hj=>by
   have:j≠i:=λe=>hi (e▸hj);simp[this]
  have seen:∀(f:Nat->AV) X',(∀j∈X,f j=acc j)->kS ops X'->i∉X'->(∀j∈cQ o,j∈X')->∀(H:List aa),∀x∈o.op.operands,AS.ev ⟨TX ops T0 acc X,H⟩ x=AS.ev ⟨TX ops T0 f X',H⟩ x:=λf X' hf hc hn cE H x hx=>by
   cases x with
   |tmp t=>
    show look _ t=look _ t;rw[<- AL (f:=f) (g:=acc) hf];exact ade ay ho hX hc hi hn hd cE hx
   |_=>rfl
  unfold qt at h;by_cases dK:i∈es
  ·have JH:entry (gO ops ord []) es X i=⟨i,true,sY es i (done es X),((tj es).filter λD=>v8 (gO ops ord []) es i D&&D !=done es X).map λD=>(D,sY es i D)⟩:=by
    unfold entry done;simp[dK]
   rw[JH,gu,ho,an]at h;obtain⟨av,H',g1,e1,g2,g3⟩:=h.ex;subst e1;rw[Eb]at g1 g3;rw[NA av,wH ho (by simp)]at g3;obtain⟨f,q1,q2,q3⟩:=A8 ay B (i::X) _ h3 o0 g3;have EO:f i=av:=(by have:=q1 i (Tu ..);simpa using this);have BW:∀j∈X,f j=acc j:=λj hj=>by
    have:=q1 j (S9 _ hj);have aE:j≠i:=λe=>hi (e▸hj);simpa[aE]using this
   refine⟨f,BW,λk hk o' bf X' hc hn cE=> ?_,by simpa using q3⟩;rcases SK.1 hk with rfl|hk
   ·rw[ho]at bf;cases bf;unfold OB;rw[if_pos dK,EO];refine j4.congr (T:=TX ops T0 acc X) (seen f X' BW hc hn cE _) ?_;by_cases hD:done es X'=done es X
    ·rw[<- Eb,hD,Eb];exact g1
    ·have:=g2.mem _ (LU _ (Eh _ es) (Il hc ho hn cE) hD);rw[<- Eb];exact this
   ·exact q2 k hk o' bf X' hc hn cE
  ·have JH:entry (gO ops ord []) es X i=⟨i,false,sY es i (done es X),((tj es).filter λD=>v8 (gO ops ord []) es i D&&D !=done es X).map λD=>(D,sY es i D)⟩:=by
    unfold entry done;simp[dK]
   rw[JH,gu,ho,an]at h;have h':=AQ.congr (T':=canon (TX ops T0 acc X) o.op.operands.toList) (λx hx=>Of (by simpa using hx)) h;obtain⟨av,g1,g2,g3⟩:=h'.sound (r:=r);rw[NA av,wH ho (by simp),<- Ik (X:=X) dK]at g3;obtain⟨f,q1,q2,q3⟩:=A8 ay B (i::X) _ h3 o0 g3;have EO:f i=av:=(by have:=q1 i (Tu ..);simpa using this);have BW:∀j∈X,f j=acc j:=λj hj=>by
    have:=q1 j (S9 _ hj);have aE:j≠i:=λe=>hi (e▸hj);simpa[aE]using this
   refine⟨f,BW,λk hk o' bf X' hc hn cE=> ?_,by simpa using q3⟩;rcases SK.1 hk with rfl|hk
   ·rw[ho]at bf;cases bf;unfold OB;rw[if_neg dK,EO];refine⟨canon (TX ops T0 acc X) o.op.operands.toList,λt a e=> ?_, ?_⟩
    ·have h1:=seen f X' BW hc hn cE [] (.tmp t) (by simpa using Og e);have h2:look (TX ops T0 acc X) t=look (TX ops T0 f X') t:=h1;rw[<- h2];exact HZ e
    ·by_cases hD:done es X'=done es X
     ·rw[hD];exact g1
     ·have h1:=g2.mem _ (LU _ (Eh _ es) (Il hc ho hn cE) hD);have h2:=AQ.congr (T':=canon (TX ops T0 acc X) o.op.operands.toList) (λx hx=>Of (by simpa using hx)) h1;obtain⟨mH,h3,rfl⟩:=h2.sound (r:=r);exact h3
   ·exact q2 k hk o' bf X' hc hn cE
theorem DJ{f:Nat->AV}(ay:yg nt ops ord){X X':List Nat}(h:∀i,i∈X<->i∈X')(t:Nat):look (TX ops T0 f X) t=look (TX ops T0 f X') t:=by
 by_cases hex:∃j∈X,cY ops j=some t
 ·obtain⟨j,hj,hd⟩:=hex;rw[AM ay.An hj hd,AM ay.An ((h j).1 hj) hd]
 ·rw[wG λj hj e=>hex ⟨j,hj,e⟩,wG λj hj e=>hex ⟨j,(h j).2 hj,e⟩]
theorem Ec{X X':List Nat}(h:∀i,i∈X<->i∈X'):done es X=done es X':=by
 unfold done;apply UU;intro e _;have:=h e;by_cases h1:e∈X
 ·have h2:=this.1 h1;simp[h1,h2]
 ·have h2:e∉X':=λx=>h1 (this.2 x);simp[h1,h2]
theorem af6{f:Nat->AV}(ay:yg nt ops ord)(au:∀i∈ord,∀o,ops[i]?=some o->∀X',kS ops X'->i∉X'->(∀j∈cQ o,j∈X')->OB lv P r ops Hf T0 es f i o X'){X l:List Nat}(hs:l5 ops X l):
  (∀i∈X,i<ops.size)->kS ops X->∀(E:Env)(V:View)(a:Act)(Q:Ex->Act->View->Prop),At E V ⟨TX ops T0 f X,Hf (done es X)⟩ a nt->
   (∀E' V' a' X',Kept E E' V V' a a'->At E' V' ⟨TX ops T0 f X',Hf (done es X')⟩ a' nt->(∀i,i∈X'<->i<ops.size)->Q .normal a' V')->dj lv P r ops Q l a V:=by
 induction hs with
 |nil X h=>
  intro hX hc E V a Q ah hQ;exact hQ E V a X (Kept.refl E V a) ah λi=>⟨hX i,h i⟩
 |cons o ho hn hd lL ih=>
  rename_i X i l;intro hX hc E V a Q ah hQ;have hi:i<ops.size:=(SP.1 ho).1;simp only[dj,ho];have o0:∀k∈i::X,k<ops.size:=λk hk=>(SK.1 hk).elim (λe=>by rw[e];exact hi) (hX k);have bc:=hc.cons ho hd;have hw:Tf o (yielded ops a.tmps)=true:=by unfold Tf;rw[ay.Bs i o ho]
  rw[if_pos hw];refine .inl ?_;have dn:∀d,o.dst=some d->d<a.tmps.size:=λd e=>by rw[ah.size];exact ay.dst i o d ho e
  have lJ:=au i (ay.full i hi) o ho X hc hn hd;unfold OB at lJ;by_cases dK:i∈es
  ·rw[if_pos dK]at lJ;have aQ:=lJ.step (r:=r) (bad:=λ_ _=>False);refine aQ E V a _ Q ah.bw ah.tok dn (.inr (ay.vd i o ho)) (λE' V' a' s' hk cT ht e=> ?_) λ_ _ _ _ _ _ _ _ _ h=>h.elim;subst e;rw[wH ho rfl]at ht cT;exact ih o0 bc E' V' a' Q ⟨cT,ht,hk.size.trans ah.size⟩ λbR aU cC n4 aI dx fO=>hQ bR aU cC n4 (hk.trans aI) dx fO
  ·rw[if_neg dK]at lJ;obtain⟨T,hT,hq⟩:=lJ;refine hq E V a _ Q ah.bw (λt av e=>ah.tok t av (hT t av e)) (.inr (ay.vd i o ho)) λE' V' v hle b8 fl cT hv=> ?_;have ht:cj E' ((⟨TX ops T0 f X,Hf (done es X)⟩:AS).put o.dst (f i)).T (a.put o.dst v).tmps:=cj.hO (s:=⟨TX ops T0 f X,Hf (done es X)⟩) (ah.tok.mono hle) dn hv;rw[wH ho rfl]at ht;refine ih o0 bc E' V' (a.put o.dst v) Q ⟨by rw[Ik dK];exact cT,ht,(eD _ _ _).trans ah.size⟩ λbR aU cC n4 hk dx fO=>
    hQ bR aU cC n4 ⟨hle.trans hk.le,hk.size.trans (eD _ _ _),hk.defers.trans (put_defers _ _ _),hk.role.trans b8,hk.deaf.trans fl⟩ dx fO
theorem aeF{s:AS}{id:Nat}{Φ:ao->AS->Prop}(es ord:List Nat)(pl:List qG)(Hf:List Nat->List aa)(hm:P.follows .mixedOrders=true)(ay:qR nt ops es ord=true)(dQ:aa7 ops es ord=pl)(h0:s.H=Hf [])
  (h:gu lv P Hf ops pl s (Φ .normal) ⟨0⟩):aY lv P r nt (.region id ops true) s Φ:=by
 intro E V a Q ah hQ;have ay:=qR.out ay;obtain⟨vO,_,hlt⟩:=C_ ay.top;have dV:s=⟨TX ops s.T (λ_=> .val undef) [],Hf (done es [])⟩:=by
  have:done es []=[]:=by simp[done]
  rw[this,<- h0];rfl
 subst dQ;have h':gu lv P Hf ops (qt (gO ops ord []) es [] ord) ⟨TX ops s.T (λ_=> .val undef) [],Hf (done es [])⟩ (Φ .normal) ⟨0⟩:=by rw[<- dV];exact h
 obtain⟨f,_,q2,q3⟩:=A8 (r:=r) ay ord [] _ ay.top (λi hi=>by cases hi) h';have zb:∀i,i∈ord<->i<ops.size:=λi=>⟨hlt i,ay.full i⟩;refine M9 λt=> ?_;rw[show Vo (P.follows .mixedOrders) ops t=Uo .any ops ops.size t (TA ops.size false) [] by unfold Vo;rw[hm];simp[Yl]];have binds:∀(A B:List Nat)(X:List Nat),kz ops X (A++B)=true->True:=λ_ _ _ _=>trivial;have ready:∀(ord X:List Nat),kz ops X ord=true->∀A i B,ord=A++i::B->∃o,ops[i]?=some o/\∀j∈cQ o,j∈A\/j∈X:=by
  intro ord;induction ord with
  |nil=>intro X _ A i B e;cases A<;>cases e
  |cons x l ih=>
   intro X nL A i B e;simp only[kz,Td,TL,Ub,decide_eq_false_iff_not]at nL;obtain⟨⟨h1,h2⟩,h3⟩:=nL;cases A with
   |nil=>
    have e1:x=i:=(by have:=congrArg List.head? e;simpa using this);rw[e1]at h2;cases ho:ops[i]?with
    |none=>rw[ho]at h2;cases h2
    |some o=>
     rw[ho]at h2;exact⟨o,rfl,λj hj=> .inr (by have:=Tp.1 h2 j hj;simpa using this)⟩
   |cons y A=>
    cases e;obtain⟨o,ho,hb⟩:=ih (x::X) h3 A i B rfl;refine⟨o,ho,λj hj=> ?_⟩;rcases hb j hj with h|h
    ·exact .inl (S9 _ h)
    ·rcases SK.1 h with rfl|h
     ·exact .inl (Tu ..)
     ·exact .inr h
 have hs:=Ls (ops:=ops) (λi o ho j hj=>by
   obtain⟨A,B,e⟩:=List.append_of_mem (ay.full i (SP.1 ho).1);obtain⟨o',bf,hb⟩:=ready ord [] ay.top A i B e;rw[ho]at bf;cases bf;rcases hb j hj with h|h
   ·exact hlt j (by rw[e];exact Tb _ h)
   ·cases h)
  (λX ⟨i,hi,hn⟩=>by
   obtain⟨A,i',B,e,h1,h2⟩:=IR (X:=X) ⟨i,ay.full i hi,hn⟩;obtain⟨o',bf,hb⟩:=ready ord [] ay.top A i' B e;refine⟨i',o',bf,h1,λj hj=> ?_⟩;rcases hb j hj with h|h
   ·exact h2 j h
   ·cases h)
  ops.size t (TA ops.size false) [] ⟨by simp,λi hi=>by simp[hi]⟩ (Ur Ye (by simp))
 have sD:At E V ⟨TX ops s.T f [],Hf (done es [])⟩ a nt:=by
  have e:(⟨TX ops s.T f [],Hf (done es [])⟩:AS)=s:=dV.symm;rw[e];exact ah
 refine af6 (Hf:=Hf) (es:=es) ay q2 hs (by simp) (λi hi=>by cases hi) E V a Q sD λE' V' a' X' hk aR fO=> ?_;have fP:∀i,i∈X'<->i∈ord.reverse++[]:=λi=>by simp[fO,zb]
 refine hQ .normal .normal E' V' a' _ hk ⟨?_,λt x e=> ?_,aR.size⟩ trivial q3
 ·rw[<- Ec fP];exact aR.bw
 ·rw[<- DJ ay fP]at e;exact aR.tok t x e
end
open Go.Proofs
theorem F.Np:ly SD 77=(SL Go.Gg.yl.map):=by kernel_rfl
theorem F.Nw:eW SD 4=(SL (WB Bool.false)):=by kernel_rfl
theorem F.Ny:eW SD 88=(SL (Tw #[(WB Bool.false),(YC Option.none),(SG S0 (0)),(SG S0 (0)),(SG S0 (0)),(SG S0 (0)),(SG S0 (0)),(SG S0 (0)),(SG S0 (0)),(SG S0 (0)),(SG S0 (0)),(SG S0 (0)),(SG S0 (0)),(SG S0 (0)),(SG S0 (0)),(SG S0 (0)),(SG S0 (0)),(SG SE (0)),(SG SE (0)),(SG SE (0)),(SG SE (0)),(SG SE (0)),(SG SE (0)),(SG SE (0)),(SG SE (0)),(SG SE (0)),(SG SE (0)),(SG SE (0))])):=by kernel_rfl
theorem F.akV:mm SD 116=(SL Bool.false):=by kernel_rfl
theorem F.Cy:mm SD 126=(SL Bool.true):=by kernel_rfl
theorem F.K5:mm SD 136=(SL Bool.false):=by kernel_rfl
theorem F.akW:mm SD 156=(SL Bool.false):=by kernel_rfl
theorem F.R9:mm SD 97=(SL Bool.false):=by kernel_rfl
theorem F.f31:SD.funcs[31]?=some Tryz.f31:=by kernel_rfl
theorem F.f71:SD.funcs[71]?=some Tryz.f71:=by kernel_rfl
theorem F.f77:SD.funcs[77]?=some W8:=by kernel_rfl
theorem F.f91:SD.funcs[91]?=some Tryz.f91:=by kernel_rfl
theorem F.f95:SD.funcs[95]?=some Tryz.f95:=by kernel_rfl
theorem F.f97:SD.funcs[97]?=some ZG:=by kernel_rfl
theorem F.mixed:SD.follows .mixedOrders=true:=by kernel_rfl
inductive dP (lv:Bool)(P:Program)(r:Option Nat)(nt:Nat):Code->(ao->AS->Prop)->Code->(ao->AS->Prop)->Prop
 |base {c:Code} {Φ:ao->AS->Prop}:dP lv P r nt c Φ c Φ
 |seq {x y h:Code} {Φ Ψ:ao->AS->Prop} (i:dP lv P r nt x (ao.then (λs=>aY lv P r nt y s Φ) Φ) h Ψ):dP lv P r nt (.seq x y) Φ h Ψ
 |block {id:Nat} {x h:Code} {Φ Ψ:ao->AS->Prop} (i:dP lv P r nt x (ao.inBlock id Φ) h Ψ):dP lv P r nt (.block id x) Φ h Ψ
section
variable {lv:Bool}{P:Program}{r:Option Nat}{s:AS}{nt id:Nat}{ops:Array Oper}{c h:Code}{Φ Ψ:ao->AS->Prop}
theorem bI{f:FuncId}{H:List aa}{args:List AV}{k kp:AV->List aa->Prop}{rs:List ResultVar}(fn:Func)
  (h:bL H->(∀a∈args,Lt H.length a)->aY lv P none nt c ⟨bp 0 args,H⟩ (tu P rs H.length k kp)) (hf:P.funcs[f]?=some fn:=by kernel_rfl) (hb:fn.body=some c:=by rfl) (hr:fn.results=rs.toArray:=by rfl) (hn:fn.ntmps=nt:=by rfl) (cO:args.length<=nt:=by simp):bi lv P f H args k kp:=ah6 hf hb hr hn cO h
theorem dP.go(i:dP lv P r nt c Φ h Ψ):∀{s:AS},aY lv P r nt h s Ψ->aY lv P r nt c s Φ:=by
 induction i with
 |base=>exactλh=>h
 |seq _ ih=>exactλk=>iA (ih k)
 |block _ ih=>exactλk=>NO (ih k)
theorem aj(h:iy lv P ops ops.toList s (Ψ .normal) (λpv s=>Ψ (.panic pv) s))(i:dP lv P r nt c Φ (.region id ops false) Ψ:=by repeat first|exact .base|apply dP.seq|apply dP.block)(hd:jS nt ops=true:=by kernel_rfl):aY lv P r nt c s Φ:=i.go (NT hd h)
theorem ar1{o:Operand}{x y:Code}(h:an (s.ev o) λa=>a.asBool λb=>(b=true->aY lv P r nt x s Ψ)/\(b=false->aY lv P r nt y s Ψ))(i:dP lv P r nt c Φ (.cond o x y) Ψ:=by repeat first|exact .base|apply dP.seq|apply dP.block):aY lv P r nt c s Φ:=i.go (NP h)
theorem aeN(h:Ψ .normal s)(i:dP lv P r nt c Φ .skip Ψ:=by repeat first|exact .base|apply dP.seq|apply dP.block):aY lv P r nt c s Φ:=i.go (NW h)
theorem mI(h:Ψ .ret s)(i:dP lv P r nt c Φ .ret Ψ:=by repeat first|exact .base|apply dP.seq|apply dP.block):aY lv P r nt c s Φ:=i.go (NU h)
theorem ar3(h:Ψ (.exit id) s)(i:dP lv P r nt c Φ (.exit id) Ψ:=by repeat first|exact .base|apply dP.seq|apply dP.block):aY lv P r nt c s Φ:=i.go (NQ h)
theorem cN{x:Code}(h:aY lv P r nt x s (ao.inBlock id Ψ))(i:dP lv P r nt c Φ (.block id x) Ψ:=by repeat first|exact .base|apply dP.seq|apply dP.block):aY lv P r nt c s Φ:=i.go (NO h)
theorem ak{p:Prop}(h:p)(i:dP lv P r nt c Φ (.region id ops false) Ψ:=by repeat first|exact .base|apply dP.seq|apply dP.block)(e:iy lv P ops ops.toList s (Ψ .normal) (λpv s=>Ψ (.panic pv) s)=p:=by conv=>lhs;simp only[seval])(hd:jS nt ops=true:=by kernel_rfl):aY lv P r nt c s Φ:=i.go (NT hd (e.mpr h))
theorem aC{p:Prop}{o:Operand}{x y:Code}(h:p)(i:dP lv P r nt c Φ (.cond o x y) Ψ:=by repeat first|exact .base|apply dP.seq|apply dP.block)(e:(an (s.ev o) λa=>a.asBool λb=>(b=true->aY lv P r nt x s Ψ)/\(b=false->aY lv P r nt y s Ψ))=p:=by conv=>lhs;simp only[seval]):aY lv P r nt c s Φ:=i.go (NP (e.mpr h))
theorem aP{p:Prop}(h:p)(i:dP lv P r nt c Φ .skip Ψ:=by repeat first|exact .base|apply dP.seq|apply dP.block)(e:Ψ .normal s=p:=by conv=>lhs;simp only[seval]):aY lv P r nt c s Φ:=i.go (NW (e.mpr h))
theorem a_{p:Prop}(h:p)(i:dP lv P r nt c Φ .ret Ψ:=by repeat first|exact .base|apply dP.seq|apply dP.block)(e:Ψ .ret s=p:=by conv=>lhs;simp only[seval]):aY lv P r nt c s Φ:=i.go (NU (e.mpr h))
theorem cq{p:Prop}(h:p)(i:dP lv P r nt c Φ (.exit id) Ψ:=by repeat first|exact .base|apply dP.seq|apply dP.block)(e:Ψ (.exit id) s=p:=by conv=>lhs;simp only[seval]):aY lv P r nt c s Φ:=i.go (NQ (e.mpr h))
theorem eS{Φ Ψ:ao->AS->Prop}{c:Code}(p:Nat)(h:nZ lv P ops (ops.toList.take p) s (λs'=>iy lv P ops (ops.toList.drop p) s' (Ψ .normal) (λpv s=>Ψ (.panic pv) s)))(i:dP lv P r nt c Φ (.region id ops true) Ψ:=by repeat first|exact .base|apply dP.seq|apply dP.block)(hm:P.follows .mixedOrders=true:=by kernel_rfl)(ay:yF nt p ops=true:=by kernel_rfl):aY lv P r nt c s Φ:=i.go (aeE hm p ay h)
theorem qM{Φ Ψ:ao->AS->Prop}{c:Code}(es ord:List Nat)(pl:List qG)(Hf:List Nat->List aa)(h:gu lv P Hf ops pl s (Ψ .normal) ⟨0⟩)(i:dP lv P r nt c Φ (.region id ops true) Ψ:=by repeat first|exact .base|apply dP.seq|apply dP.block)(hm:P.follows .mixedOrders=true:=by kernel_rfl)(ay:qR nt ops es ord=true:=by kernel_rfl)(dQ:aa7 ops es ord=pl:=by kernel_rfl)(h0:s.H=Hf []:=by first|rfl|simp only[seval]):aY lv P r nt c s Φ:=i.go (aeF es ord pl Hf hm ay dQ h0 h)
theorem wM(n:Nat)(V:Nat->List (Nat×AV))(Hf:Nat->List aa)(ok:Nat->Prop)(hm:ok 0)
  (h:bL s.H->(∀t a,look s.T t=some a->Lt s.H.length a)->∀m,m<=n->ok m->∀R:AS->Prop,(∀s',(m<n/\ok (m+1)/\tF s.T (V m) (V (m+1)) (Hf (m+1)) s')->R s')->aY lv P r nt c ⟨V m++s.T,Hf m⟩ (ao.then R Φ)) (B0:∀m m',(V m).map (·.1)=(V m').map (·.1):=by exactλ_ _=>rfl) (iO:∀p∈V 0,∃b,look s.T p.1=some b/\Wk b p.2:=by(simp only[seval];simp[bB,Wk.refl])) (By:Hf 0=s.H:=by rfl) (hl:∀m,m<=n->ok m->(Hf m).length=s.H.length:=by exactλ_ _ _=>rfl):aY lv P r nt (.loop c) s Φ:=gM n V Hf ok B0 iO By hl hm h
theorem dR{base Vi Vn T:List (Nat×AV)}{H:List aa}(hk:r_ T (Vi++base) Vn:=by exact oE rfl rfl)(hv:∀p∈Vn,∃b,look T p.1=some b/\Wk b p.2:=by(simp only[seval];simp[bB,Wk.refl])):tF base Vi Vn H ⟨T,H⟩:=aoI hk hv
theorem abn{base Vi Vn T:List (Nat×AV)}{H H':List aa}(ay:bL H)(hg:∃G,H++G=H':=by first|exact⟨_,rfl⟩|exact⟨_,SC ..⟩)(hk:r_ T (Vi++base) Vn:=by exact oE rfl rfl)(hv:∀p∈Vn,∃b,look T p.1=some b/\Wk b p.2:=by(simp only[seval];simp[bB,Wk.refl]))(hlt:∀p∈Vn,Lt H.length p.2:=by simp[eK]):tF base Vi Vn H ⟨T,H'⟩:=by
 obtain⟨G,rfl⟩:=hg;exact Mv hk hv ay hlt
theorem bT{H:List aa}{args:List AV}{k kp:AV->List aa->Prop}{g:FuncId}{first cS:List AV}(hf:bi lv P g H (first++args++cS) k kp)(hg:qA P g=true:=by kernel_rfl):ja lv P (.fn (.func g) first cS) H args k kp:=HW hg hf
end
theorem aL{lv:Bool}{P:Program}{H:List aa}{args:List AV}{k kp:AV->List aa->Prop}{g:FuncId}{first cS:List AV}{t:DC k kp}(hf:bi lv P g H (first++args++cS) k kp)(hg:qA P g=true:=by kernel_rfl):Av lv P (.fn (.func g) first cS) H args k kp t:=wR (HW hg hf)
theorem F.q0:jM SD 22 22=(SL (3,(1,(SG SE (0)))))/\jM SD 23 23=(SL (61,(3,(Tw #[(SG SE (0)),(SG SE (0)),(SG SE (0))]))))/\jM SD 24 24=(SL (48,(4,(Tw #[(SG SE (0)),(SG SE (0)),(SG SE (0)),(SG SE (0))]))))/\jM SD 57 57=(SL (22,(1,(Uc Option.none 0 0))))/\oN SD 136=(SL ((Go.Gg.iz.fields []),(Tw #[])))/\oN SD 26=(SL ((Go.Gg.iz.fields [(0,1),(1,1),(2,1),(3,1),(4,1),(5,1)]),(Tw #[(SG SE (0)),(SG SE (0)),(SG SE (0)),(Uc Option.none 0 0),(Uc Option.none 0 0),(Uc Option.none 0 0)])))/\oN SD 46=(SL ((Go.Gg.iz.fields [(0,1),(1,1)]),(Tw #[(SG SE (0)),(SG SE (0))])))/\oN SD 48=(SL ((Go.Gg.iz.fields [(0,2),(2,2)]),(Tw #[(SG SE (0)),(SG SE (0)),(SG SE (0)),(SG SE (0))])))/\oN SD 61=(SL ((Go.Gg.iz.fields [(0,1),(1,2)]),(Tw #[(SG SE (0)),(SG SE (0)),(SG SE (0))])))/\oN SD 73=(SL ((Go.Gg.iz.fields [(0,1),(1,1),(2,1)]),(Tw #[(Uc Option.none 0 0),(SG SE (0)),(SG Ts (0))])))/\oN SD 76=(SL ((Go.Gg.iz.fields [(0,6)]),(Tw #[(SG SE (0)),(SG SE (0)),(SG SE (0)),(Uc Option.none 0 0),(Uc Option.none 0 0),(Uc Option.none 0 0)])))/\oN SD 86=(SL ((Go.Gg.iz.fields [(0,4),(4,4),(8,3)]),(Tw #[(SG SE (0)),(SG SE (0)),(SG SE (0)),(SG SE (0)),(SG SE (0)),(SG SE (0)),(SG SE (0)),(SG SE (0)),(SG SE (0)),(SG SE (0)),(SG SE (0))])))/\oN SD 88=(SL ((Go.Gg.iz.fields [(0,1),(1,1),(2,4),(6,4),(10,4),(14,3),(17,11)]),(Tw #[(WB Bool.false),(YC Option.none),(SG S0 (0)),(SG S0 (0)),(SG S0 (0)),(SG S0 (0)),(SG S0 (0)),(SG S0 (0)),(SG S0 (0)),(SG S0 (0)),(SG S0 (0)),(SG S0 (0)),(SG S0 (0)),(SG S0 (0)),(SG S0 (0)),(SG S0 (0)),(SG S0 (0)),(SG SE (0)),(SG SE (0)),(SG SE (0)),(SG SE (0)),(SG SE (0)),(SG SE (0)),(SG SE (0)),(SG SE (0)),(SG SE (0)),(SG SE (0)),(SG SE (0))])))/\oN SD 97=(SL ((Go.Gg.iz.fields [(0,1),(1,1)]),(Tw #[(SG SE (0)),(SG SE (0))])))/\Aw SD 3 71=(SL (SL Ts))/\Aw SD 71 3=(SL (SL SE)):=by and_intros<;>kernel_rfl
theorem F.q1:fw SD 112 0=(SL 0)/\fw SD 112 1=(SL 1)/\fw SD 112 2=(SL 2)/\fw SD 26 0=(SL 0)/\fw SD 26 1=(SL 1)/\fw SD 26 2=(SL 2)/\fw SD 26 3=(SL 3)/\fw SD 26 4=(SL 4)/\fw SD 26 5=(SL 5)/\fw SD 46 0=(SL 0)/\fw SD 46 1=(SL 1)/\fw SD 48 0=(SL 0)/\fw SD 48 1=(SL 2)/\fw SD 61 0=(SL 0)/\fw SD 61 1=(SL 1)/\fw SD 73 0=(SL 0):=by and_intros<;>kernel_rfl
theorem F.q2:fw SD 73 1=(SL 1)/\fw SD 73 2=(SL 2)/\fw SD 76 0=(SL 0)/\fw SD 86 0=(SL 0)/\fw SD 86 1=(SL 4)/\fw SD 86 2=(SL 8)/\fw SD 88 0=(SL 0)/\fw SD 88 1=(SL 1)/\fw SD 88 2=(SL 2)/\fw SD 88 3=(SL 6)/\fw SD 88 4=(SL 10)/\fw SD 88 5=(SL 14)/\fw SD 88 6=(SL 17)/\fw SD 97 0=(SL 0)/\fw SD 97 1=(SL 1)/\nW SD 22=(SL (Option.none,1)):=by and_intros<;>kernel_rfl
theorem F.q3:nW SD 23=(SL (Option.none,3))/\nW SD 24=(SL (Option.none,4))/\nW SD 57=(SL (Option.none,1))/\nW SD 80=(SL ((SL 4),1))/\nW SD 81=(SL ((SL 3),1))/\nW SD 82=(SL ((SL 4),1))/\nW SD 83=(SL ((SL 4),1))/\nW SD 84=(SL ((SL 3),1))/\wB SD 82=(SL (4,1))/\wB SD 83=(SL (4,1))/\wB SD 84=(SL (3,1))/\kB SD 22=(SL (3,1))/\kB SD 24=(SL (48,4))/\kB SD 82=Option.none/\kB SD 83=Option.none/\kB SD 84=Option.none:=by and_intros<;>kernel_rfl
theorem F.q4:ly SD 22=(SL Go.Gg.yl.slice)/\ly SD 23=(SL Go.Gg.yl.slice)/\ly SD 24=(SL Go.Gg.yl.slice)/\ly SD 57=(SL Go.Gg.yl.slice)/\AE SD 22=(SL (3,(1,(SG SE (0)))))/\oQ SD 77=(SL (83,4))/\qJ SD 22=(SL (3,(1,(SG SE (0)))))/\qJ SD 23=(SL (61,(3,(Tw #[(SG SE (0)),(SG SE (0)),(SG SE (0))]))))/\qJ SD 24=(SL (48,(4,(Tw #[(SG SE (0)),(SG SE (0)),(SG SE (0)),(SG SE (0))]))))/\qJ SD 57=(SL (22,(1,(Uc Option.none 0 0))))/\Ty SD 130=(SL (1,Bool.false))/\Ty SD 132=(SL (1,Bool.false))/\Ty SD 136=(SL (0,Bool.true))/\Ty SD 139=(SL (1,Bool.false))/\Ty SD 157=(SL (1,Bool.false))/\Ty SD 22=(SL (1,Bool.false)):=by and_intros<;>kernel_rfl
theorem F.q5:Ty SD 23=(SL (1,Bool.false))/\Ty SD 24=(SL (1,Bool.false))/\Ty SD 26=(SL (6,Bool.true))/\Ty SD 3=(SL (1,Bool.false))/\Ty SD 4=(SL (1,Bool.false))/\Ty SD 46=(SL (2,Bool.true))/\Ty SD 48=(SL (4,Bool.true))/\Ty SD 61=(SL (3,Bool.true))/\Ty SD 68=(SL (1,Bool.false))/\Ty SD 71=(SL (1,Bool.false))/\Ty SD 76=(SL (6,Bool.true))/\Ty SD 77=(SL (1,Bool.false))/\Ty SD 79=(SL (1,Bool.false))/\Ty SD 81=(SL (3,Bool.true))/\Ty SD 83=(SL (4,Bool.true))/\Ty SD 86=(SL (11,Bool.true)):=by and_intros<;>kernel_rfl
theorem F.q6:Ty SD 88=(SL (28,Bool.true))/\Ty SD 97=(SL (2,Bool.true))/\eW SD 112=(SL (Tw #[(SG SE (0)),(SG SE (0)),(WB Bool.false)]))/\eW SD 116=(SL (Tw #[(SG SE (0)),(SG SE (0))]))/\eW SD 136=(SL (Tw #[]))/\eW SD 139=(SL (W_ Option.none))/\eW SD 147=(SL (Tw #[(SG Ts (0)),(SG Zp (0))]))/\eW SD 153=(SL (Tw #[(SG SE (0)),(SG SE (0))]))/\eW SD 157=(SL X7)/\eW SD 26=(SL (Tw #[(SG SE (0)),(SG SE (0)),(SG SE (0)),(Uc Option.none 0 0),(Uc Option.none 0 0),(Uc Option.none 0 0)]))/\eW SD 3=(SL (SG SE (0)))/\eW SD 46=(SL (Tw #[(SG SE (0)),(SG SE (0))]))/\eW SD 48=(SL (Tw #[(SG SE (0)),(SG SE (0)),(SG SE (0)),(SG SE (0))]))/\eW SD 61=(SL (Tw #[(SG SE (0)),(SG SE (0)),(SG SE (0))]))/\eW SD 68=(SL X7)/\eW SD 76=(SL (Tw #[(SG SE (0)),(SG SE (0)),(SG SE (0)),(Uc Option.none 0 0),(Uc Option.none 0 0),(Uc Option.none 0 0)])):=by and_intros<;>kernel_rfl
theorem F.q7:eW SD 79=(SL (SG S0 (0)))/\eW SD 80=(SL (Tw #[(SG S0 (0)),(SG S0 (0)),(SG S0 (0)),(SG S0 (0))]))/\eW SD 81=(SL (Tw #[(SG S0 (0)),(SG S0 (0)),(SG S0 (0))]))/\eW SD 83=(SL (Tw #[(SG SE (0)),(SG SE (0)),(SG SE (0)),(SG SE (0))]))/\eW SD 86=(SL (Tw #[(SG SE (0)),(SG SE (0)),(SG SE (0)),(SG SE (0)),(SG SE (0)),(SG SE (0)),(SG SE (0)),(SG SE (0)),(SG SE (0)),(SG SE (0)),(SG SE (0))]))/\eW SD 97=(SL (Tw #[(SG SE (0)),(SG SE (0))])):=by and_intros<;>kernel_rfl
attribute [seval] F.q0 F.q1 F.q2 F.q3 F.q4 F.q5 F.q6 F.q7 F.Np F.Ny
def isDone (j:Nat)(D:List Nat):Bool:=D.contains j
theorem akU(j:Nat):isDone j []=false:=by simp[isDone]
theorem akT(i j:Nat)(D:List Nat):isDone j (i::D)=((j==i)||isDone j D):=by
 by_cases h:j=i<;>simp[isDone,h]
theorem afv(lv:Bool)(P:Program)(Hf:List Nat->List aa)(T:List (Nat×AV))(o:Oper)(av:AV):BQ lv P Hf T o av []=True:=by rw[BQ]
theorem afu(lv:Bool)(P:Program)(Hf:List Nat->List aa)(T:List (Nat×AV))(o:Oper)(av:AV)(D D':List Nat)(l:List (List Nat×List Nat)):BQ lv P Hf T o av ((D,D')::l)=((AQ lv P ⟨T,Hf D⟩ o λa=>a=av)/\BQ lv P Hf T o av l):=by rw[BQ]
theorem ae3(lv:Bool)(P:Program)(Hf:List Nat->List aa)(T:List (Nat×AV))(o:Oper)(av:AV):BE lv P Hf T o av []=True:=by rw[BE]
theorem ae2(lv:Bool)(P:Program)(Hf:List Nat->List aa)(T:List (Nat×AV))(o:Oper)(av:AV)(D D':List Nat)(l:List (List Nat×List Nat)):BE lv P Hf T o av ((D,D')::l)=((j4 lv P (Hf D') ⟨T,Hf D⟩ o λa H'=>a=av/\H'=Hf D')/\BE lv P Hf T o av l):=by rw[BE]
theorem aeZ:type_of% @gu.eq_1:=by intros;rw[gu.eq_1]
theorem ae0:type_of% @gu.eq_2:=by intros;rw[gu.eq_2]
theorem aeY:type_of% @gu.eq_3:=by intros;rw[gu.eq_3]
theorem adq:type_of% @j4.eq_1:=by intros;rw[j4.eq_1]
theorem agi(G H:List aa)(k:AV->List aa->Prop)(n m sz:Nat)(elem:TypeId)(l l':List AV):qC G H k n m sz elem l l' .exact=j6 G[H.length]? (0<m/\k (.bJ H.length 0 (n+m) 0) (H++[.own sz (l++l') elem])) (k (.sl (n+m) (l++l') (.opn H.length)) (H++[.tail (n+m) sz elem])) ⟨0⟩:=by rw[qC]
theorem air(X Y:Prop)(t:lZ X Y):j6 none X Y t=Y:=by rw[j6];simp
theorem ais(a:Nat)(b:List AV)(c:TypeId)(X Y:Prop)(t:lZ X Y):j6 (some (.own a b c)) X Y t=X:=by rw[j6]
theorem aiq(b:List AV)(c:TypeId)(X Y:Prop)(t:lZ X Y):j6 (some (.cells b c)) X Y t=Y:=by rw[j6];simp
theorem aiv(a b:Nat)(c:TypeId)(X Y:Prop)(t:lZ X Y):j6 (some (.tail a b c)) X Y t=Y:=by rw[j6];simp
theorem aip(b:Obj)(X Y:Prop)(t:lZ X Y):j6 (some (.obj b)) X Y t=Y:=by rw[j6];simp
theorem aiu(a:Nat)(b:List AV)(c:TypeId)(X Y:Prop)(t:lZ X Y):j6 (some (.part a b c)) X Y t=Y:=by rw[j6];simp
@[congr] theorem asl {x x' : Option aa} {X Y : Prop} {t : lZ X Y} (h : x = x') : j6 x X Y t = j6 x' X Y t := by rw [h]
theorem agj(G H:List aa)(k:AV->List aa->Prop)(n m sz:Nat)(elem:TypeId)(l l':List AV)(i:Nat):qC G H k n m sz elem l l' (.opn i)=((match H[i]?with
   |some (.tail n' eP gA)=>n'=n/\eP=sz/\gA=elem
   |_=>False)/\(∀a∈l',a.leaf=true)/\k (.sl (n+m) (l++l') (.opn i)) (H.set i (.tail (n+m) sz elem))):=by first|(rw[qC];done)|(rw[qC];rfl)
section
variable {lv:Bool}{P:Program}{s s':AS}
@[congr] theorem arJ {G G' : List aa} {o : Oper} {k : AV -> List aa -> Prop} (hG : G = G') (h : s = s') : j4 lv P G s o k = j4 lv P G' s' o k := by rw [hG, h]
@[congr] theorem ar7 {Hf : List Nat -> List aa} {ops : Array Oper} {l l' : List qG} {K : AS -> Prop} {t : AC K} (hl : l = l') (h : s = s') : gu lv P Hf ops l s K t = gu lv P Hf ops l' s' K t := by rw [hl, h]
@[congr] theorem asa {Hf : List Nat -> List aa} {T T' : List (Nat × AV)} {o : Oper} {av mH : AV} {l l' : List (List Nat × List Nat)} (h1 : T = T') (h2 : av = mH) (h3 : l = l') : BQ lv P Hf T o av l = BQ lv P Hf T' o mH l' := by rw [h1, h2, h3]
@[congr] theorem ar8 {Hf : List Nat -> List aa} {T T' : List (Nat × AV)} {o : Oper} {av mH : AV} {l l' : List (List Nat × List Nat)} (h1 : T = T') (h2 : av = mH) (h3 : l = l') : BE lv P Hf T o av l = BE lv P Hf T' o mH l' := by rw [h1, h2, h3]
@[congr] theorem ase {f f' : AV} {H H' : List aa} {aD tH : List AV} {k : AV -> List aa -> Prop} {t : AD k} (h1 : f = f') (h2 : H = H') (h3 : aD = tH) : Dt lv P f H aD k t = Dt lv P f' H' tH k t := by rw [h1, h2, h3]
@[congr] theorem asf {f f' : AV} {name : String} {H H' : List aa} {aD tH : List AV} {k : AV -> List aa -> Prop} {t : AD k} (h1 : f = f') (h2 : H = H') (h3 : aD = tH) : Hp lv P f name H aD k t = Hp lv P f' name H' tH k t := by rw [h1, h2, h3]
@[congr] theorem asd {G G' H H' : List aa} {k : AV -> List aa -> Prop} {n n' m m' sz : Nat} {elem : TypeId} {l l' x x' : List AV} {e e' : End} (hG : G = G') (h0 : H = H') (h1 : n = n') (h2 : m = m') (h3 : l = l') (h4 : x = x') (h5 : e = e') : qC G H k n m sz elem l x e = qC G' H' k n' m' sz elem l' x' e' := by rw [hG, h0, h1, h2, h3, h4, h5]
end
attribute [seval] akU akT afv afu ae3 ae2 aeZ ae0 aeY adq agi agj air ais aiq aiv aip aiu Bool.true_or Bool.false_or Bool.or_true Bool.or_false cond_true cond_false
def ao.stay (Φ:ao->AS->Prop):ao->AS->Prop
 | .goto _,_=>False
 |e,s=>Φ e s
theorem apV(Φ:ao->AS->Prop)(s:AS):ao.stay Φ .normal s=Φ .normal s:=by rw[ao.stay];simp
theorem apX(Φ:ao->AS->Prop)(s:AS):ao.stay Φ .ret s=Φ .ret s:=by rw[ao.stay];simp
theorem apU(Φ:ao->AS->Prop)(i:Nat)(s:AS):ao.stay Φ (.exit i) s=Φ (.exit i) s:=by rw[ao.stay];simp
theorem apW(Φ:ao->AS->Prop)(a:AV)(s:AS):ao.stay Φ (.panic a) s=Φ (.panic a) s:=by rw[ao.stay];simp
theorem NV{lv:Bool}{P:Program}{r:Option Nat}{s:AS}{nt:Nat}{c:Code}{Φ:ao->AS->Prop}(h:aY lv P r nt c s (ao.stay Φ)):aY lv P r nt (.scope c) s Φ:=by
 refine aeM (λ_ _ _=>False) ⟨0,h.mono λe s hs=> ?_⟩ λ_ _ _ _ _ hf=>hf.elim;cases e<;>first|exact hs|exact hs.elim
@[congr] theorem asT {s s' : AS} {Φ : ao -> AS -> Prop} {e e' : ao} (he : e = e') (h : s = s') : ao.stay Φ e s = ao.stay Φ e' s' := by rw [he, h]
attribute [seval] apV apX apU apW
theorem akR{α:Type}(n:Nat)(x:α):(if(n:Int)<0 then none else some x)=some x:=by rw[if_neg (by omega)]
theorem afr:(W3==Vk)=false:=by decide
theorem afs:(Vk==Vk)=true:=by decide
theorem aqs{α β:Type}(f:α->β)(xs:List α):(xs.map f).take xs.length=xs.map f:=SW (by simp)
theorem am4(o:BinOp):(o=o\/o= .neq)=True:=by simp
theorem am5:(Vk= .eql\/Vk= .neq)=True:=by simp
theorem akY{α:Type}(a b:α):(if false=true then a else b)=b:=by simp
theorem akZ{α:Type}(a b:α):(if true=true then a else b)=a:=by simp
theorem afn(s:AS):s.jc none=some none:=by rw[AS.jc]
theorem afo(s:AS)(x:Operand):s.jc (some x)=(s.ev x).bind λa=>a.uZ.map some:=by
 rw[AS.jc];cases s.ev x<;>rfl
theorem aep(j:IntKind)(n:Int):AV.uZ (.val (.int j n))=some n:=by rw[AV.uZ]
theorem adF(P:Program)(t:TypeId)(id off:Nat)(l h m:Option Int)(k:AV->Prop):rX P t (.op id off) l h m k=an (wB P t) λp=>se id off p.1 p.1 p.2 l h m k:=by rw[rX]
theorem adG(P:Program)(t:TypeId)(id off n c:Nat)(l h m:Option Int)(k:AV->Prop):rX P t (.bJ id off n c) l h m k=an (kB P t) λp=>se id off n c p.2 l h m k:=by rw[rX]
theorem adH(P:Program)(t:TypeId)(n:Nat)(li:List AV)(e:End)(l h m:Option Int)(k:AV->Prop):rX P t (.sl n li e) l h m k=an (kB P t) λp=>wF n li e p.2 l h m k:=by rw[rX]
theorem anb:type_of% @se.eq_1:=by intros;rw[se.eq_1]
theorem apu:type_of% @wF.eq_1:=by intros;rw[wF.eq_1]
@[congr] theorem asO {id oD off CQ n n' cap cap' sz eP : Nat} {lo CH hi cF mx CL : Option Int} {k : AV -> Prop} (h1 : id = oD) (h2 : off = CQ) (h3 : n = n') (h4 : cap = cap') (h5 : sz = eP) (h6 : lo = CH) (h7 : hi = cF) (h8 : mx = CL) : se id off n cap sz lo hi mx k = se oD CQ n' cap' eP CH cF CL k := by rw [h1, h2, h3, h4, h5, h6, h7, h8]
@[congr] theorem asR {n n' sz eP : Nat} {l l' : List AV} {e e' : End} {lo CH hi cF mx CL : Option Int} {k : AV -> Prop} (h3 : n = n') (h1 : l = l') (h2 : e = e') (h5 : sz = eP) (h6 : lo = CH) (h7 : hi = cF) (h8 : mx = CL) : wF n l e sz lo hi mx k = wF n' l' e' eP CH cF CL k := by rw [h1, h2, h3, h5, h6, h7, h8]
theorem amB:((1:Nat):Int)=1:=rfl
theorem amC:((2:Nat):Int)=2:=rfl
theorem amD:((3:Nat):Int)=3:=rfl
theorem amE:((4:Nat):Int)=4:=rfl
theorem amF:((5:Nat):Int)=5:=rfl
theorem amG:((6:Nat):Int)=6:=rfl
theorem aqQ(p:Prop):(True\/p)=True:=by simp
theorem am9(p:Prop):(p\/True)=True:=by simp
attribute [seval] amB amC amD amE amF amG aqQ am9 Int.le_refl List.length_map
theorem aeg(H L:List aa):(H++L)[H.length+1+1]?=L[2]?:=uX H L 2
theorem aeh(H L:List aa):(H++L)[H.length+1+1+1]?=L[3]?:=uX H L 3
theorem aek(H L:List aa)(x:aa):(H++L).set (H.length+1+1) x=H++L.set 2 x:=uY H L 2 x
theorem ael(H L:List aa)(x:aa):(H++L).set (H.length+1+1+1) x=H++L.set 3 x:=uY H L 3 x
attribute [seval] aeg aeh aek ael
attribute [seval] afn afo aep adF adG adH anb apu Option.getD_none Option.getD_some Int.toNat_zero Nat.sub_zero Option.bind_some Option.map_some Nat.zero_le Option.isSome_none Option.isSome_some Bool.false_eq_true false_implies
attribute [seval] akR afr afs aqs am4 am5 akY akZ
section
variable {P:Program}{α β:Type}
theorem iI(a:α):cJ P (pure a) a:=λw es=>by simp only[pure,Vf]
theorem lw{x:Sem α}{f:α->Sem β}{a:α}{b:β}(h:cJ P x a)(k:cJ P (f a) b):cJ P (x>>=f) b:=λw es=>by
 show (x.bind f).runT P w es=_;rw[Sem.runT_bind',h w es];exact k w es
theorem aqg{k:Program->Sem α}{a:α}(h:cJ P (k P) a):cJ P (.program k) a:=λw es=>by simp only[Vf];exact h w es
theorem MP{k:Program->Sem α}{a:α}(h:cJ P (k P) a):cJ P (program>>=k) a:=lw (a:=P) (aqg (iI P)) h
theorem x_{t:TypeId}{d:TypeDesc}{k:TypeDesc->Sem α}{a:α}(h:P.underlying t=some d)(hk:cJ P (k d) a):cJ P (underlying t>>=k) a:=by
 unfold underlying;refine lw (a:=d) (MP ?_) hk;rw[h];exact iI d
def yq:TypeDesc->Bool
 | .struct _| .array _ _=>true
 |_=>false
theorem acm{t:TypeId}{d:TypeDesc}{k:Bool->Sem α}{a:α}(h:P.underlying t=some d)(hk:cJ P (k (yq d)) a):cJ P (isAgg t>>=k) a:=by
 unfold isAgg;refine lw (x_ (a:=yq d) h ?_) hk;cases d<;>exact iI _
theorem MQ{t:TypeId}{i:TypeInfo}{k:Nat->Sem α}{a:α}(h:P.info? t=some i)(hk:cJ P (k i.size) a):cJ P (sizeOf t>>=k) a:=by
 unfold sizeOf typeInfo;refine lw (lw (a:=i) (MP ?_) (iI _)) hk;rw[h];exact iI i
theorem C8{t:TypeId}{d:TypeDesc}{xs:Array Value}{off:Nat}{v:Value}{k:Value->Sem α}{a:α}(h:P.underlying t=some d)(hd:yq d=false)(hv:xs[off]?=some v)(hk:cJ P (k v) a):cJ P (part t xs off>>=k) a:=by
 unfold part;refine lw (a:=v) (acm h ?_) hk;rw[hd,hv];exact iI v
theorem acn{t:TypeId}{d:TypeDesc}{i:TypeInfo}{xs:Array Value}{off:Nat}{k:Value->Sem α}{a:α}(h:P.underlying t=some d)(hd:yq d=true)(hi:P.info? t=some i)(hk:cJ P (k (.agg (xs.extract off (off+i.size)))) a):cJ P (part t xs off>>=k) a:=by
 unfold part;refine lw (acm h ?_) hk;rw[hd];exact MQ hi (iI _)
theorem acl{t:TypeId}{k0 k:IntKind}{d:Nat}{x y:Int}(h:P.underlying t=some (.int k0)):cJ P (U6 (d+1) t (.int k x) (.int k y)) (x==y):=by
 rw[U6];refine x_ h ?_;dsimp only;rw[if_pos rfl];exact iI _
theorem acf{ι:Type}{body:ι->Option Bool×Unit->Sem (ForInStep (Option Bool×Unit))}{p:ι->Bool}:∀(l:List ι),(∀i∈l,cJ P (body i (none,())) (if p i then .yield (none,())else .done (some false,())))->cJ P (forIn l (none,()) body) (if l.all p then(none,())else(some false,()))
 |[],_=>by simpa using iI (none,())
 |i::l,h=>by
  rw[Wo];refine lw (h i (Tu ..)) ?_;by_cases hp:p i=true
  ·simp only[hp,if_true,YW,U0];exact acf l λj hj=>h j (S9 _ hj)
  ·have zo:p i=false:=(by simpa using hp);simp only[zo,TC,if_false,YW,XR];exact iI _
theorem ad8{α:Type}[BEq α][LawfulBEq α]{xs ys:List α}{n:Nat}(hx:xs.length=n)(hy:ys.length=n):((TU 0 n).all λi=>xs[i]?==ys[i]?)=(xs==ys):=by
 rw[UL,Tp,beq_iff_eq];constructor
 ·intro h;apply Zw;intro i;by_cases hi:i<n
  ·have:=h i (by simp[Xg];omega);simpa using this
  ·rw[Us (by omega),Us (by omega)]
 ·rintro rfl i _;simp
theorem aqd{t e:TypeId}{k0 k:IntKind}{n d:Nat}{i:TypeInfo}{xs ys:List Int}(ht:P.underlying t=some (.array n e))(he:P.underlying e=some (.int k0))(hi:P.info? e=some i)(hs:i.size=1)(hx:xs.length=n)(hy:ys.length=n):
  cJ P (U6 (d+2) t (.agg (xs.map (SG k)).toArray) (.agg (ys.map (SG k)).toArray)) (xs==ys):=by
 rw[U6];refine x_ ht ?_;dsimp only;refine MQ hi ?_;rw[hs];simp only[VO,WM];refine lw (a:=if(xs==ys)then(none,())else(some false,())) ?_ (by cases xs==ys<;>exact iI _);have hn:(n-0+1-1)/1=n:=by simp
 rw[hn,<- ad8 hx hy];refine acf _ λj hj=> ?_;have o_:j<n:=by simp[Xg]at hj;omega
 have gx:xs[j]?=some (xs[j]'(by omega)):=SV _;have gy:ys[j]?=some (ys[j]'(by omega)):=SV _;rw[Xs];refine C8 he rfl (v:= .int k (xs[j]'(by omega))) (by simp[gx]) ?_;refine C8 he rfl (v:= .int k (ys[j]'(by omega))) (by simp[gy]) ?_;refine lw (acl he) ?_;rw[gx,gy];by_cases h:xs[j]'(by omega)=ys[j]'(by omega)
 ·rw[h];simp;exact iI _
 ·have h1:(xs[j]'(by omega)==ys[j]'(by omega))=false:=by simpa using h
  have h2:(some (xs[j]'(by omega))==some (ys[j]'(by omega)))=false:=by simpa using h
  rw[h1,h2];exact iI _
theorem cJ.uniq{x:Sem α}{a b:α}(h:cJ P x a)(k:cJ P x b):a=b:=by
 have e:=(h default #[]).symm.trans (k default #[]);have e1:=congrArg Prod.fst e;exact(Zy e1).1
theorem aci{t e:TypeId}{k0:IntKind}{n:Nat}{i:TypeInfo}{xs ys:List Int}(ht:P.underlying t=some (.array n e))(he:P.underlying e=some (.int k0))(hi:P.info? e=some i)(hs:i.size=1)(hx:xs.length=n)(hy:ys.length=n):
  cJ P (Wa t (.agg (xs.map (SG .i64)).toArray) (.agg (ys.map (SG .i64)).toArray)) (xs==ys):=aqd (d:=9998) ht he hi hs hx hy
theorem uF(xs:List Int):AV.raw (.agg (xs.map iv))=some (.agg (xs.map (SG .i64)).toArray):=by
 have:∀l:List Int,(l.map iv).mapM AV.z9=some (l.map (SG .i64)):=by
  intro l;induction l with
  |nil=>rfl
  |cons x l ih=>simp only[UE,TS,ih];rfl
 simp only[AV.raw,this];rfl
theorem anJ{xs:List Int}{i:Nat}{y:Int}(h:i<xs.length):iF (xs.map iv) i [iv y]=(xs.set i y).map iv:=by
 unfold iF;rw[List.map_set,List.set_eq_take_append_cons_drop,if_pos (by simpa using h)];simp
theorem wh{xs:List Int}{i:Nat}{y:Int}(h:i<xs.length):(xs.map iv).take i++[iv y]++(xs.map iv).drop (i+1)=(xs.set i y).map iv:=anJ h
theorem j7{xs:List Int}{i:Nat}{x:Int}(h:xs[i]?=some x):(xs.map iv).drop i=iv x::(xs.drop (i+1)).map iv:=by
 have h1:=eU h;rw[<- Zk,TR h1,UE];rw[SV h1]at h;cases h;rfl
end
theorem Sv(xs:List Int):(∀a∈xs.map iv,a.leaf=true)=True:=by
 simp only[Th,eq_iff_iff,iff_true]
 rintro a ⟨x,_,rfl⟩;rfl
attribute [seval] List.append_nil Sv
def yf (lv:Bool)(P:Program)(g:FuncId)(args:Array Value)(md:FrameMode)(V:View)(R:FrameMode->View->Prop):Prop:=
 ∀(main:Bool)(J:View->Goroutine->Prop),Closed lv P main J->∀(fr:Frame)(cs:List Frame),fr.mode=md->(∀nQ V',R nQ V'->J V' (G {fr with mode:=nQ} cs))->J V (G (Frame.enter P g args .deferred) (fr::cs))
def qO:FrameMode->FrameMode
 | .panicking ({recovered:=true, .. }::LR)=>match LR.dropWhile (!·.goexit)with
  |[]=> .returning
  |rest=> .panicking rest
 |m=>m
theorem Sw{lv:Bool}{P:Program}{main:Bool}{J:View->Goroutine->Prop}(C:Closed lv P main J){fr c:Frame}{cs:List Frame}{f:FuncId}{v:Value}{V:View}(h:Leaves P fr f .deferred (.ret v) V)(hJ:J V (G {c with mode:=qO c.mode} cs)):J V (G fr (c::cs)):=by
 obtain⟨rfl,hd,hk,fn,hf,hm,hr⟩:=h;refine C.step _ _ rfl λw hw=> ?_;obtain⟨es,w',V',h1,h2,h3⟩:=hr.runs hw;rcases h3 with⟨x,h3,rfl,rfl⟩|⟨_,_,h⟩
 ·refine⟨G {c with mode:=qO c.mode} cs,w',seen P fr.fn es,V', ?_,h1.seen P fr.fn,hJ⟩;simp only[G,stepG,unwind,doReturn,hm,hd,hk,hf,Tt,h3,h2,TN];cases Fb:c.mode with
  |run=>simp[qO,<- Fb]
  |returning=>simp[qO,<- Fb]
  |panicking ch=>
   cases ch with
   |nil=>simp[qO,<- Fb]
   |cons p LR=>
    obtain⟨v,rec,ge⟩:=p;cases rec with
    |false=>simp[qO,<- Fb]
    |true=>
     simp only[qO];cases hdw:LR.dropWhile (!·.goexit)with
     |nil=>simp
     |cons x y=>simp
 ·exact h.elim
theorem O5{ρ:Operand->Value}{o:Oper}{cl:Call}(au:o.op= .call cl)(aX:cl.callee= .builtin .recover)(P:Program)(w:World)(es:Array Event):(execOp ρ o).runT P w es=(.ok .recover w,es):=by
 unfold execOp;rw[au];dsimp only;unfold resolve;rw[aX];rfl
theorem aoX{P:Program}{main:Bool}{b c:Frame}{a:Act}{k:List Item}{cs:List Frame}{w:World}{ops:Array Oper}{i:Nat}{rest:List Nat}{o:Oper}{cl:Call}{v:Value}(ho:ops[i]?=some o)(hg:o.guard=none)(au:o.op= .call cl)(aX:cl.callee= .builtin .recover)(hb:b.kind= .deferred)(hr:b.roundOf=none)
  (hm:c.mode= .panicking [{v,recovered:=false}]):stepG P main (G (on b a (.inRegion ops (i::rest)::k)) (c::cs)) w= .go (G (on b (a.put o.dst v) (.inRegion ops rest::k)) ({c with mode:= .panicking [{v,recovered:=true}]}::cs)) w #[]:=by
 have eA:(on b a (.inRegion ops (i::rest)::k)).finish v=on b (a.put o.dst v) (.inRegion ops rest::k):=by
  rw[zQ,ho];rfl
 rw[s_op ho (by unfold Tf;rw[hg]) (.inl hr),<- eA];have jW:((on b a (.inRegion ops (i::rest)::k)).kind==UJ)=false:=by simp[on,hb]
 simp only[stepG.apply,if_true,O5 au aX,jW,TN,TC,if_false];have h1:(on b a (.inRegion ops (i::rest)::k)).roundOf=none:=hr;have h2:(on b a (.inRegion ops (i::rest)::k)).kind= .deferred:=hb;rw[h1];simp only[tryRecover,h2,hm];simp[seen,G]
theorem aoY{P:Program}{main:Bool}{b c:Frame}{a:Act}{k:List Item}{cs:List Frame}{w:World}{ops:Array Oper}{i:Nat}{rest:List Nat}{o:Oper}{cl:Call}(ho:ops[i]?=some o)(hg:o.guard=none)(au:o.op= .call cl)(aX:cl.callee= .builtin .recover)(hb:b.kind= .deferred)(hr:b.roundOf=none)
  (hm:c.mode= .returning):stepG P main (G (on b a (.inRegion ops (i::rest)::k)) (c::cs)) w= .go (G (on b (a.put o.dst .nilIface) (.inRegion ops rest::k)) (c::cs)) w #[]:=by
 have eA:(on b a (.inRegion ops (i::rest)::k)).finish .nilIface=on b (a.put o.dst .nilIface) (.inRegion ops rest::k):=by
  rw[zQ,ho];rfl
 rw[s_op ho (by unfold Tf;rw[hg]) (.inl hr),<- eA];have jW:((on b a (.inRegion ops (i::rest)::k)).kind==UJ)=false:=by simp[on,hb]
 simp only[stepG.apply,if_true,O5 au aX,jW,TN,TC,if_false];have h1:(on b a (.inRegion ops (i::rest)::k)).roundOf=none:=hr;have h2:(on b a (.inRegion ops (i::rest)::k)).kind= .deferred:=hb;rw[h1];simp only[tryRecover,h2,hm];simp[seen,G]
def Du (P:Program)(fn:Func)(K:View->Prop):Ex->Act->View->Prop
 | .normal,a,V| .ret,a,V=>a.defers=[]/\∃v,aO P V (results fn a.tmps) (λx V'=>x=v/\V'=V) (λ_ _=>False)/\K V
 |_,_,_=>False
theorem afR{lv:Bool}{P:Program}{g:FuncId}{fn:Func}{id:Nat}{ops:Array Oper}{c2:Code}{o:Oper}{cl:Call}{args:Array Value}{md:FrameMode}{v0:Value}{V:View}{R:FrameMode->View->Prop}
  (hf:P.funcs[g]?=some fn) (hb:fn.body=some (.seq (.region id ops false) c2)) (ho:ops[0]?=some o) (hg:o.guard=none) (au:o.op= .call cl) (aX:cl.callee= .builtin .recover)
  (p_:md= .panicking [{v:=v0,recovered:=false}]\/(md= .returning/\v0= .nilIface))
  (h:dj lv P none ops (Ex.then (WP lv P none c2 (Du P fn (R .returning))) (Du P fn (R .returning))) (TU 1 (ops.size-1)) (({tmps:=args++TA (fn.ntmps-args.size) undef,defers:=[]}:Act).put o.dst v0) V):yf lv P g args md V R:=by
 intro main J C fr cs mb hR;let b:Frame:={(default:Frame)with fn:=g,kind:= .deferred,roundOf:=none};have ub:Frame.enter P g args .deferred=on b {tmps:=args++TA (fn.ntmps-args.size) undef,defers:=[]} [.code (.seq (.region id ops false) c2)]:=by
  simp[Frame.enter,on,hf,hb,b]
 rw[ub];have aW:0<ops.size:=(SP.1 ho).1;have Kx:SX ops.size=0::TU 1 (ops.size-1):=by
  rw[UX];obtain⟨n,hn⟩:∃n,ops.size=n+1:=⟨ops.size-1,by omega⟩;rw[hn,Vu];rfl
 refine C.idle rfl (λ_=>abu) (C.idle rfl (λ_=>abt) ?_);rw[Kx];have fin:∀(c:Frame),qO c.mode= .returning->{c with mode:=qO c.mode}={fr with mode:= .returning}->∀e a' V',Du P fn (R .returning) e a' V'->uS J b [] (c::cs) e a' V':=by
  intro c hc vD e a' V' q;cases e with
  |normal=>
   obtain⟨hd,v,hs,hr⟩:=q;refine C.idle rfl (λw=>CZ rfl) (Sw (f:=g) (v:=v) C ⟨rfl,hd,rfl,fn,hf,rfl,hs⟩ ?_);rw[vD];exact hR _ _ hr
  |ret=>
   obtain⟨hd,v,hs,hr⟩:=q;intro k;refine C.idle rfl (λw=>C0 rfl) (Sw (f:=g) (v:=v) C ⟨rfl,hd,rfl,fn,hf,rfl,hs⟩ ?_);rw[vD];exact hR _ _ hr
  |_=>exact q.elim
 have run:∀(c:Frame),qO c.mode= .returning->{c with mode:=qO c.mode}={fr with mode:= .returning}->J V (G (on b (({tmps:=args++TA (fn.ntmps-args.size) undef,defers:=[]}:Act).put o.dst v0) (.inRegion ops (TU 1 (ops.size-1))::[.code c2])) (c::cs)):=by
  intro c hc vD;refine wp_ops _ _ V h main J C b [.code c2] (c::cs) (by show XZ≠UJ;decide) rfl λe a' V' q=> ?_;cases e with
  |normal=>exact q main J C b [] (c::cs) (by show XZ≠UJ;decide) rfl λe cC aU q'=>fin c hc vD e cC aU q'
  |ret=>exact fin c hc vD .ret a' V' q
  |panic ch=>exact q.elim
  |exit i=>exact q.elim
  |goto i=>exact q.elim
 rcases p_ with p_|⟨p_,hv⟩
 ·refine C.idle rfl (λw=>aoX ho hg au aX rfl rfl (by rw[mb,p_])) ?_;exact run {fr with mode:= .panicking [{v:=v0,recovered:=true}]} rfl rfl
 ·refine C.idle rfl (λw=>aoY ho hg au aX rfl rfl (by rw[mb,p_])) ?_;subst hv;have jG:fr.mode= .returning:=by rw[mb,p_]
  exact run fr (by rw[jG];rfl) (by rw[jG];rfl)
section
variable {lv:Bool}{P:Program}
theorem MB{g:FuncId}{args:Array Value}{V:View}{K:Next->View->Prop}{Kp:Value->View->Prop}(hg:qA P g=true)(h:K (.enter g args) V):aO P V (callFunc g args) K Kp:=by
 unfold callFunc;refine az (qv (cK ?_));unfold qA at hg;split at hg
 ·rename_i fn xk;simp only[Td,TL]at hg;rw[xk];dsimp only;have Ju:fn.body.isNone=false:=by
   have h1:=hg.1;cases hb:fn.body with
   |none=>rw[hb]at h1;cases h1
   |some _=>rfl
  rw[if_neg (by rw[hg.2];simp),if_neg (by rw[Ju];simp)];exact aq h
 ·cases hg
theorem A5{E:Env}{V:View}{H:List aa}{args:List AV}{vs:Array Value}{nt:Nat}(hc:Conc E V H)(hd:cL E args vs)(cO:args.length<=nt):At E V ⟨bp 0 args,H⟩ {tmps:=vs++TA (nt-vs.size) undef,defers:=[]} nt:=by
 have aW:(vs++TA (nt-vs.size) undef).size=nt:=by simp[hd.1];omega
 refine⟨hc,λq a e=> ?_,aW⟩;obtain⟨_,e⟩:=Lx args 0 q a e;simp only[Y1]at e;have hq:q<args.length:=(SM.1 e).1;have sR:q<vs.size:=by rw[hd.1];exact hq
 refine⟨by rw[aW];omega, ?_⟩;have:=hd.2 q a e;rw[SH,Xq sR];rwa [SH]at this
def ye (E:Env)(c:AV×List AV)(d:Deferred):Prop:=∃f first cS fa ca vs,c.1= .fn (.func f) first cS/\d=⟨.fn (.func f) ca,fa++vs⟩/\cL E first fa/\cL E cS ca/\cL E c.2 vs
theorem ye.mono{E E':Env}(h:E.Le E'){c:AV×List AV}{d:Deferred}(k:ye E c d):ye E' c d:=by
 obtain⟨f,first,cS,fa,ca,vs,h1,h2,h3,h4,h5⟩:=k;exact⟨f,first,cS,fa,ca,vs,h1,h2,h3.mono h,h4.mono h,h5.mono h⟩
def Nq (E:Env):Option AV->FrameMode->Prop
 |none,md=>md= .returning
 |some pv,md=>∃v,md= .panicking [{v,recovered:=false}]/\ap E pv v
def qB (lv:Bool)(P:Program)(c:AV×List AV)(H:List aa)(m:Option AV)(kr kp:List aa->Prop):Prop:=
 ∀(E:Env)(V:View)(d:Deferred)(md:FrameMode),Conc E V H->ye E c d->Nq E m md->aO P V (invoke d.target d.args) (λnx V'=>∃g args,nx= .enter g args/\yf lv P g args md V' λnQ aU=>∃E' H',E.Le E'/\aU.role=V.role/\aU.deaf=V.deaf/\Conc E' aU H'/\((nQ= .returning/\kr H')\/(nQ=md/\m.isSome=true/\kp H'))) (λ_ _=>False)
def Ay (n0:Nat)(kr:List aa->Prop):ao->AS->Prop
 | .normal,s| .ret,s=>kr s.H\/∃H' G,s.H=H'++G/\n0<=H'.length/\bL H'/\kr H'
 |_,_=>False
theorem Ay.out{n0:Nat}{E0 E:Env}{V':View}{H:List aa}{kr:List aa->Prop}(h:kr H\/∃H' G,H=H'++G/\n0<=H'.length/\bL H'/\kr H')(hc:Conc E V' H)(hle:E0.Le E)(hn:E0.n=n0):∃E' H',E0.Le E'/\Conc E' V' H'/\kr H':=by
 rcases h with h|⟨H',G,rfl,h1,h2,h3⟩
 ·exact⟨E,H,hle,hc,h⟩
 ·exact⟨{E with n:=H'.length},H',Db h1 (by rw[hc.n];simp) hle hn,hc.trim h2,h3⟩
theorem results_none{fn:Func}{tmps:Array Value}{V:View}(hr:fn.results=#[]):aO P V (results fn tmps) (λx V'=>x= .tuple #[]/\V'=V) (λ_ _=>False):=by
 unfold results;rw[show fn.results=([]:List ResultVar).toArray from hr,Xi];refine az ?_;refine az ?_;rw[Um];refine aq (aq (aq ⟨?_,rfl⟩));simp
theorem afQ{g:FuncId}{fn:Func}{id nt:Nat}{ops:Array Oper}{c2:Code}{o:Oper}{cl:Call}{first cS aD:List AV}{H:List aa}{m:Option AV}{kr kp:List aa->Prop}
  (hg:qA P g=true) (hf:P.funcs[g]?=some fn) (hb:fn.body=some (.seq (.region id ops false) c2)) (hr:fn.results=#[]) (hn:fn.ntmps=nt) (ho:ops[0]?=some o) (sI:o.guard=none) (au:o.op= .call cl) (aX:cl.callee= .builtin .recover) (dn:jS nt ops=true) (cO:(first++aD++cS).length<=nt)
  (h:iy lv P ops (ops.toList.drop 1) ((⟨bp 0 (first++aD++cS),H⟩:AS).put o.dst (m.getD (.val .nilIface))) (λs'=>aY lv P none nt c2 s' (Ay H.length kr)) (λ_ _=>False)):qB lv P (.fn (.func g) first cS,aD) H m kr kp:=by
 intro E V d md hc hd p_;obtain⟨f,ash,asc,fa,ca,vs,h1,rfl,h3,h4,h5⟩:=hd;cases h1;unfold invoke;dsimp only;refine MB hg ⟨g,_,rfl, ?_⟩;obtain⟨v0,hv,ajP⟩:∃v0,ap E (m.getD (.val .nilIface)) v0/\(md= .panicking [{v:=v0,recovered:=false}]\/(md= .returning/\v0= .nilIface)):=by
  cases m with
  |none=>exact⟨.nilIface, .val _, .inr ⟨p_,rfl⟩⟩
  |some pv=>obtain⟨v,e,hv⟩:=p_;exact⟨v,hv, .inl e⟩
 refine afR hf hb ho sI au aX ajP ?_;have ah:=A5 (nt:=nt) hc (Bc (Bc h3 h5) h4) cO;rw[hn];have aW:0<ops.size:=(SP.1 ho).1;have fP:o∈ops:=Wq ho;have aR:At E V ((⟨bp 0 (first++aD++cS),H⟩:AS).put o.dst (m.getD (.val .nilIface))) (({tmps:=fa++vs++ca++TA (nt-(fa++vs++ca).size) undef,defers:=[]}:Act).put o.dst v0) nt:=
  ⟨by rw[fB];exact ah.bw,ah.tok.hO (λd e=>by rw[ah.size];exact(jS.out dn fP).1 d e) hv,(eD _ _ _).trans ah.size⟩
 refine zS (r:=none) (Φ:=λe s'=>match e with
  | .normal=>aY lv P none nt c2 s' (Ay H.length kr)
  |_=>False) (λo ho d e=>(jS.out dn ho).1 d e) (λ_ _=> .inl rfl) (ops.size-1) 1 _ (by omega) h E V _ _ aR λae e E' V' a' s' hk aiV he hΦ=> ?_
 cases ae<;>cases e<;>first
  |exact he.elim
  |exact hΦ.elim
  |skip
 refine hΦ E' V' a' _ aiV λae e bR aU cC dA aI dx kj sW=> ?_;have fin:(kr dA.H\/∃H' G,dA.H=H'++G/\H.length<=H'.length/\bL H'/\kr H')->Du P fn (λaU=>∃E' H',E.Le E'/\aU.role=V.role/\aU.deaf=V.deaf/\Conc E' aU H'/\((XF= .returning/\kr H')\/(XF=md/\m.isSome=true/\kp H'))) .ret cC aU:=λsW=>by
  obtain⟨E3,H',q1,q2,q3⟩:=Ay.out (E0:=E) sW dx.bw (hk.le.trans aI.le) hc.n;have bz:cC.defers=[]:=by rw[aI.defers,hk.defers];exact put_defers _ _ _
  exact⟨bz,_,results_none hr,E3,H',q1,aI.role.trans hk.role,aI.deaf.trans hk.deaf,q2, .inl ⟨rfl,q3⟩⟩
 cases ae<;>cases e<;>first
  |exact kj.elim
  |exact sW.elim
  |exact fin sW
theorem Ox{g:FuncId}{fn:Func}{id nt:Nat}{ops:Array Oper}{c2:Code}{o:Oper}{l:List Oper}{d0:Option Nat}{cl:Call}{first cS aD:List AV}{H:List aa}{m:Option AV}{kr kp:List aa->Prop}
  (hg:qA P g=true) (hf:P.funcs[g]?=some fn) (hb:fn.body=some (.seq (.region id ops false) c2)) (hr:fn.results=#[]) (hn:fn.ntmps=nt) (hl:ops.toList=o::l) (sI:o.guard=none) (aT:o.dst=d0) (au:o.op= .call cl) (aX:cl.callee= .builtin .recover) (dn:jS nt ops=true) (cO:(first++aD++cS).length<=nt)
  (h:iy lv P ops l ((⟨bp 0 (first++aD++cS),H⟩:AS).put d0 (m.getD (.val .nilIface))) (λs'=>aY lv P none nt c2 s' (Ay H.length kr)) (λ_ _=>False)):qB lv P (.fn (.func g) first cS,aD) H m kr kp:=by
 subst aT;refine afQ hg hf hb hr hn (o:=o) (cl:=cl) ?_ sI au aX dn cO (by rw[hl];simpa using h);have:ops.toList[0]?=some o:=by rw[hl];rfl
 simpa using this
end
section
variable {lv:Bool}{P:Program}{r:Option Nat}{s:AS}
theorem Gd{nt:Nat}{all:Array Oper}{Φ:ao->AS->Prop}(dn:∀o∈all,∀d,o.dst=some d->d<nt)(nB:r=none):∀(n k:Nat)(s:AS),k+n<=all.size->iy lv P all ((all.toList.drop k).take n) s (Φ .normal) (λpv s=>Φ (.panic pv) s)->
  ∀(E:Env)(V:View)(a:Act)(Q:Ex->Act->View->Prop),At E V s a nt->(∀ae e E' V' a' s',Kept E E' V V' a a'->At E' V' s' a' nt->pF E' ae e->Φ ae s'->Q e a' V')->dj lv P r all Q (TU k n) a V
 |0,k,s,hk,h,E,V,a,Q,ah,hQ=>by
  rw[Zr]at h;exact hQ .normal .normal E V a s (Kept.refl E V a) ah trivial h
 |n+1,k,s,hk,h,E,V,a,Q,ah,hQ=>by
  have hlt:k<all.size:=by omega
  have hd:all.toList.drop k=all[k]::all.toList.drop (k+1):=by
   rw[TR (by simpa using hlt)];simp
  rw[hd,Vt]at h;have fP:all[k]∈all:=Xd hlt;have ho:all[k]?=some all[k]:=SJ hlt;simp only[Vu,dj,ho];have go:∀s:AS,At E V s a nt->mA lv P s all[k] (λs'=>iy lv P all ((all.toList.drop (k+1)).take n) s' (Φ .normal) (λpv s=>Φ (.panic pv) s)) (λpv s=>Φ (.panic pv) s)->wD lv P r all[k] a V (dj lv P r all Q (TU (k+1) n)) Q:=λs ah h=>by
   refine h.sound (lv:=lv) (r:=r) E V a _ Q ah.bw ah.tok (λd e=>by rw[ah.size];exact dn _ fP d e) (.inl nB) (λE' V' a' s' aI bc mh hn=> ?_) (λE' V' s' pv v aI bc mh bm hb=> ?_)
   ·exact Gd dn nB n (k+1) s' (by omega) hn E' V' a' Q ⟨bc,mh,aI.size.trans ah.size⟩ (λae e bR aU cC dA gg dx he hΦ=>hQ ae e bR aU cC dA (aI.trans gg) dx he hΦ)
   ·exact hQ (.panic pv) (.panic _) E' V' a s' aI ⟨bc,mh,ah.size⟩ ⟨v,rfl,bm⟩ hb
  simp only[iy]at h;split at h
  ·rename_i hg;have hw:Tf all[k] (yielded all a.tmps)=true:=(by unfold Tf;rw[hg]);rw[if_pos hw];exact .inl (go s ah h)
  ·rename_i j b_ hg;obtain⟨d,bW,h⟩:=h.out;obtain⟨av,h1,h⟩:=h.out;obtain⟨b,rfl,h2,h3⟩:=yu h;have hv:=(ah.tok d _ h1).2;have hy:yielded all a.tmps j=some b:=by
    obtain⟨oj,lK,jV⟩:=Tc.1 bW;generalize hx:a.tmps.getD d undef=x at hv;cases hv;have mc:d<a.tmps.size:=(ah.tok d _ h1).1;rw[SH,SJ mc]at hx;simp only[S6]at hx;simp[yielded,lK,jV,SJ mc,hx]
   have rF:∀b',b=b'->At E V ⟨(d, .val (.bool b'))::s.T,s.H⟩ a nt:=λb' dG=>by
    subst dG;refine⟨ah.bw,λt x e=> ?_,ah.size⟩;simp only[look]at e;split at e
    ·rename_i e';subst e';cases e;exact ah.tok d _ h1
    ·exact ah.tok t x e
   by_cases hb:b=b_
   ·have hw:Tf all[k] (yielded all a.tmps)=true:=(by unfold Tf;rw[hg];simp[hy,hb]);rw[if_pos hw];exact .inl (go _ (rF b_ hb) (h2 hb))
   ·have hw:¬Tf all[k] (yielded all a.tmps)=true:=(by unfold Tf;rw[hg];simp[hy,hb]);rw[if_neg hw];have dG:b= !b_:=(by cases b<;>cases b_<;>simp_all);have vo:=h3 dG;have ah:=rF _ dG;exact Gd dn nB n (k+1) ((⟨(d, .val (.bool !b_))::s.T,s.H⟩:AS).put all[k].dst (.val undef)) (by omega) vo E V (a.put all[k].dst undef) Q
     ⟨by rw[fB];exact ah.bw,ah.tok.hO (λd e=>by rw[ah.size];exact dn _ fP d e) (.val undef),by rw[eD];exact ah.size⟩
     (λae e bR aU cC dA gg dx he hΦ=>hQ ae e bR aU cC dA ⟨gg.le,gg.size.trans (eD _ _ _),gg.defers.trans (put_defers _ _ _),gg.role,gg.deaf⟩ dx he hΦ)
theorem mF.mono{o:Oper}{a:Act}{N N':Act->View->Prop}{Q Q':Ex->Act->View->Prop}(hN:∀a V,N a V->N' a V)(hQ:∀ch a V,Q (.panic ch) a V->Q' (.panic ch) a V){nx:Next}{V:View}(h:mF lv P r o a N Q nx V):mF lv P r o a N' Q' nx V:=by
 cases nx with
 |value v=>exact hN _ _ h
 |skip=>exact hN _ _ h
 | «defer» d => exact ⟨h.1, hN _ _ h.2⟩
 |enter f args=>
  refine Body.mono (R:=fun
   | .ret v,V'=>N (a.put o.dst v) V'
   | .panic ch,V'=>Q (.panic ch) a V') (R':=fun
   | .ret v,V'=>N' (a.put o.dst v) V'
   | .panic ch,V'=>Q' (.panic ch) a V') h λot V' h=> ?_
  cases ot
  ·exact hN _ _ h
  ·exact hQ _ _ _ h
 |round l f tmps aD b=>
  refine na.mono (R:=fun
   | .ret v,V'=>N (a.put o.dst v) V'
   | .panic ch,V'=>Q (.panic ch) a V') (R':=fun
   | .ret v,V'=>N' (a.put o.dst v) V'
   | .panic ch,V'=>Q' (.panic ch) a V') h λot V' h=> ?_
  cases ot
  ·exact hN _ _ h
  ·exact hQ _ _ _ h
 |_=>exact h.elim
theorem Ap{ops:Array Oper}{Q:Ex->Act->View->Prop}{l2:List Nat}:∀(l1:List Nat)(a:Act)(V:View),dj lv P r ops (Ex.then (dj lv P r ops Q l2) Q) l1 a V->dj lv P r ops Q (l1++l2) a V
 |[],a,V,h=>h
 |i::l1,a,V,h=>by
  simp only[Vb,dj]at h⊢;cases ho:ops[i]?with
  |none=>rw[ho]at h;exact Ap l1 a V h
  |some o=>
   rw[ho]at h;dsimp only at h⊢;split at h
   ·rename_i hw;rw[if_pos hw];rcases h with h|h
    rotate_left
    ·exact .inr (h.mono λa V h=>Ap l1 a V h)
    obtain⟨h1,h2⟩:=h;exact .inl ⟨h1,h2.mono (λnx V' h=>mF.mono (λa V h=>Ap l1 a V h) (λ_ _ _ h=>h) h) λ_ _ h=>h⟩
   ·rename_i hw;rw[if_neg hw];exact Ap l1 _ V h
def wx (E:Env):List (AV×List AV)->List Deferred->Prop
 |[],[]=>True
 |c::ds,d::l=>ye E c d/\wx E ds l
 |_,_=>False
theorem wx.mono{E E':Env}(h:E.Le E'):∀{ds:List (AV×List AV)}{l:List Deferred},wx E ds l->wx E' ds l
 |[],[],_=>trivial
 |_::_,_::_,k=>⟨k.1.mono h,wx.mono h k.2⟩
 |[],_::_,k=>k.elim
 |_::_,[],k=>k.elim
structure qE (E E':Env)(V V':View)(a a':Act):Prop where
 le:E.Le E'
 size:a'.tmps.size=a.tmps.size
 role:V'.role=V.role
 deaf:V'.deaf=V.deaf
theorem qE.trans{E E' bR:Env}{V V' aU:View}{a a' cC:Act}(h:qE E E' V V' a a')(k:qE E' bR V' aU a' cC):qE E bR V aU a cC:=⟨h.le.trans k.le,k.size.trans h.size,k.role.trans h.role,k.deaf.trans h.deaf⟩
theorem Kept.d{E E':Env}{V V':View}{a a':Act}(h:Kept E E' V V' a a'):qE E E' V V' a a':=⟨h.le,h.size,h.role,h.deaf⟩
def As (lv:Bool)(P:Program)(nt:Nat)(c:Code)(s:AS)(ds:List (AV×List AV))(Φ:ao->AS->List (AV×List AV)->Prop):Prop:=
 ∀(E:Env)(V:View)(a:Act)(Q:Ex->Act->View->Prop),At E V s a nt->wx E ds a.defers->(∀ae e E' V' a' s' nk,qE E E' V V' a a'->At E' V' s' a' nt->wx E' nk a'.defers->pF E' ae e->Φ ae s' nk->Q e a' V')->WP lv P none c Q a V
def ao.wl (next:AS->List (AV×List AV)->Prop)(Φ:ao->AS->List (AV×List AV)->Prop):ao->AS->List (AV×List AV)->Prop
 | .normal,s,ds=>next s ds
 |e,s,ds=>Φ e s ds
theorem aeR{nt id n:Nat}{ops:Array Oper}{o:Oper}{c:Call}{x:Operand}{ds:List (AV×List AV)}{Φ:ao->AS->List (AV×List AV)->Prop}(hn:ops.size=n+1)(ho:ops[n]?=some o)(hg:o.guard=none)(au:o.op= .defer c)(aX:c.callee= .value x)
  (dn:(ops.all λo=>o.dst.all (·<nt))=true)
  (h:iy lv P ops (ops.toList.take n) s (λs'=>an (s'.ev x) λf=>an (fx s' c.args.toList) λaD=>(∃g first cS,f= .fn (.func g) first cS)/\Φ .normal (s'.put o.dst (.val undef)) ((f,aD)::ds)) (λpv s'=>Φ (.panic pv) s' ds)):As lv P nt (.region id ops false) s ds Φ:=by
 intro E V a Q ah hd hQ;refine wp_region ?_;have hr:SX ops.size=TU 0 n++[n]:=by
  have:=Yi (s:=0) (m:=n) (n:=1);rw[UX,hn,<- this];simp
 rw[hr];have Qv:∀o∈ops,∀d,o.dst=some d->d<nt:=λo ho d e=>by
  have:=(Uq.1 dn) o ho;rw[e]at this;simpa using this
 refine Ap _ _ _ (Gd (r:=none) (Φ:=λe s'=>match e with
  | .normal=>an (s'.ev x) λf=>an (fx s' c.args.toList) λaD=>(∃g first cS,f= .fn (.func g) first cS)/\Φ .normal (s'.put o.dst (.val undef)) ((f,aD)::ds)
  |e=>Φ e s' ds) Qv rfl n 0 s (by omega) (by simpa using h) E V a _ ah λae e E' V' a' s' hk aR he hΦ=> ?_)
 cases ae<;>cases e<;>first
  |exact he.elim
  |exact hQ _ _ E' V' a' s' ds hk.d aR (by rw[hk.defers];exact hd.mono hk.le) he hΦ
  |skip
 obtain⟨f,h1,hA⟩:=an.out hΦ;obtain⟨aD,h2,⟨g,first,cS,rfl⟩,hB⟩:=hA.out;simp only[Ex.then,dj,ho];rw[if_pos (by unfold Tf;rw[hg])];refine .inl ⟨.inl rfl, ?_⟩;unfold execOp;rw[au];dsimp only;unfold resolve;rw[aX];dsimp only;have bz:=ap.ev aR.tok h1;generalize cu:a'.eval x=cv at bz;cases bz with
 |fn dW fA q1 q2=>
  rename_i fa ca;unfold UI;refine az (aq (aq ?_));refine⟨rfl, ?_⟩;have fP:o∈ops:=Wq ho;have e:c.args.map a'.eval=(c.args.toList.map a'.eval).toArray:=by apply Va;simp
  refine hQ .normal .normal E' V' _ (s'.put o.dst (.val undef)) ((.fn (.func g) first cS,aD)::ds) ⟨hk.le,(eD _ _ _).trans hk.size,hk.role,hk.deaf⟩ ⟨by rw[fB];exact aR.bw,aR.tok.hO (a:={a' with defers:=⟨.fn (.func g) ca,fa++c.args.map a'.eval⟩::a'.defers}) (λd e=>by rw[aR.size];exact Qv o fP d e) (.val _),(eD _ _ _).trans aR.size⟩ ?_ trivial hB;rw[put_defers];refine⟨⟨g,first,cS,fa,ca,_,rfl,rfl,⟨dW,q1⟩,⟨fA,q2⟩, ?_⟩,by rw[hk.defers];exact hd.mono hk.le⟩;rw[e];exact yJ aR.tok h2
theorem NY{nt id n:Nat}{ops:Array Oper}{o:Oper}{c:Call}{x:Operand}{ds:List (AV×List AV)}{Φ:ao->AS->List (AV×List AV)->Prop}(hn:ops.size=n+1)(ho:ops[n]?=some o)(hg:o.guard=none)(aT:o.dst=none)(au:o.op= .defer c)(aX:c.callee= .value x)
  (dn:(ops.all λo=>o.dst.all (·<nt))=true)
  (h:iy lv P ops (ops.toList.take n) s (λs'=>an (s'.ev x) λf=>an (fx s' c.args.toList) λaD=>(∃g first cS,f= .fn (.func g) first cS)/\Φ .normal s' ((f,aD)::ds)) (λpv s'=>Φ (.panic pv) s' ds)):As lv P nt (.region id ops false) s ds Φ:=by
 refine aeR hn ho hg au aX dn ?_;rw[aT];exact h
end
section
variable {lv:Bool}{P:Program}
theorem abm{rs:List ResultVar}{fn:Func}{n nt:Nat}{k kp:AV->List aa->Prop}{E E':Env}{V V':View}{s':AS}{a':Act}(hr:fn.results=rs.toArray)(ah:At E' V' s' a' nt)(hle:E.Le E')(hn:E.n=n)(b8:V'.role=V.role)(fl:V'.deaf=V.deaf)(hΦ:an (hZ P s' rs) λl=>cy n s'.H (iY l) k):
  ∃v,aO P V' (results fn a'.tmps) (λx aU=>x=v/\aU=V') (λ_ _=>False)/\gW E V k kp (.ret v) V':=by
 obtain⟨l,h1,h2⟩:=hΦ.out;have gG:∃v,ap E' (iY l) v/\aO P V' (results fn a'.tmps) (λx aU=>x=v/\aU=V') (λ_ _=>False):=by
  obtain⟨vs,hl,lQ,xx⟩:=Gv ah rs l h1;refine⟨if h:vs.length=1 then vs[0]else .tuple vs.toArray, ?_, ?_⟩
  ·match l,vs,hl,lQ with
   |[x],[v],_,lQ=>exact lQ 0 x rfl
   |[],[],_,lQ=>exact .aK rfl (by simp)
   |x::y::l,v::w::vs,hl,lQ=>exact .aK (by simpa using hl) (λi z hz=>by simpa[SH,SF]using lQ i z hz)
  ·unfold results;rw[hr,Xi];refine az ?_;refine az (xx ?_);refine aq (aq ⟨?_,rfl⟩);simp
 obtain⟨v,bm,qf⟩:=gG;obtain⟨b,bR,H',q1,q2,q3,q4⟩:=wW h2 ah.bw bm hle hn;exact⟨v,qf,b,bR,H',q1,b8,fl,q2,q3,q4⟩
def yj (lv:Bool)(P:Program)(rs:List ResultVar)(n:Nat)(k kp:AV->List aa->Prop):ao->AS->List (AV×List AV)->Prop
 | .normal,s,[]| .ret,s,[]=>an (hZ P s rs) λl=>cy n s.H (iY l) k
 | .panic pv,s,[]=>cy n s.H pv kp
 | .normal,s,[c]| .ret,s,[c]=>qB lv P c s.H none (λH'=>an (hZ P ⟨s.T,H'⟩ rs) λl=>cy n H' (iY l) k) (λ_=>False)
 | .panic pv,s,[c]=>qB lv P c s.H (some pv) (λH'=>an (hZ P ⟨s.T,H'⟩ rs) λl=>cy n H' (iY l) k) (λH'=>cy n H' pv kp)
 |_,_,_=>False
theorem yf.mono{g:FuncId}{args:Array Value}{md:FrameMode}{V:View}{R R':FrameMode->View->Prop}(h:yf lv P g args md V R)(hr:∀m V,R m V->R' m V):yf lv P g args md V R':=λmain J C fr cs hm hR=>h main J C fr cs hm λnQ V' r=>hR nQ V' (hr _ _ r)
@[congr] theorem ar4 {nt : Nat} {c : Code} {s s' : AS} {ds nk : List (AV × List AV)} {Φ : ao -> AS -> List (AV × List AV) -> Prop} (h : s = s') (hd : ds = nk) : As lv P nt c s ds Φ = As lv P nt c s' nk Φ := by rw [h, hd]
theorem aqt(K:AS->List (AV×List AV)->Prop)(Φ:ao->AS->List (AV×List AV)->Prop)(s:AS)(ds:List (AV×List AV)):ao.wl K Φ .normal s ds=K s ds:=by rw[ao.wl]
theorem aqv(K:AS->List (AV×List AV)->Prop)(Φ:ao->AS->List (AV×List AV)->Prop)(s:AS)(ds:List (AV×List AV)):ao.wl K Φ .ret s ds=Φ .ret s ds:=by rw[ao.wl];simp
theorem aqu(K:AS->List (AV×List AV)->Prop)(Φ:ao->AS->List (AV×List AV)->Prop)(a:AV)(s:AS)(ds:List (AV×List AV)):ao.wl K Φ (.panic a) s ds=Φ (.panic a) s ds:=by rw[ao.wl];simp
@[congr] theorem asU {K : AS -> List (AV × List AV) -> Prop} {Φ : ao -> AS -> List (AV × List AV) -> Prop} {e e' : ao} {s s' : AS} {ds nk : List (AV × List AV)} (he : e = e') (h : s = s') (hd : ds = nk) : ao.wl K Φ e s ds = ao.wl K Φ e' s' nk := by rw [he, h, hd]
@[congr] theorem asi {rs : List ResultVar} {n : Nat} {k kp : AV -> List aa -> Prop} {e e' : ao} {s s' : AS} {ds nk : List (AV × List AV)} (he : e = e') (h : s = s') (hd : ds = nk) : yj lv P rs n k kp e s ds = yj lv P rs n k kp e' s' nk := by rw [he, h, hd]
theorem ah9(rs:List ResultVar)(n:Nat)(k kp:AV->List aa->Prop)(s:AS):yj lv P rs n k kp .ret s []=an (hZ P s rs) λl=>cy n s.H (iY l) k:=by rw[yj]
theorem ah8(rs:List ResultVar)(n:Nat)(k kp:AV->List aa->Prop)(s:AS)(pv:AV):yj lv P rs n k kp (.panic pv) s []=cy n s.H pv kp:=by rw[yj]
attribute [seval] aqt aqv aqu ah9 ah8
end
section
variable {P:Program}
theorem ach{ι:Type}{body:ι->PUnit->Sem (ForInStep PUnit)}:∀(l:List ι),(∀i∈l,cJ P (body i ⟨⟩) (.yield ⟨⟩))->cJ P (forIn l ⟨⟩ body) ⟨⟩
 |[],_=>by simpa using iI PUnit.unit
 |i::l,h=>by
  rw[Wo];exact lw (h i (Tu ..)) (ach l λj hj=>h j (S9 _ hj))
theorem aqe{t:TypeId}{k0 k:IntKind}{d:Nat}{b:Bool}{x:Int}(h:P.underlying t=some (.int k0)):cJ P (UN b (d+1) t (.int k x)) ():=by
 rw[UN];exact x_ h (iI _)
theorem acg{t e:TypeId}{k0 k:IntKind}{n d:Nat}{i:TypeInfo}{b:Bool}{xs:List Int}(ht:P.underlying t=some (.array n e))(he:P.underlying e=some (.int k0))(hi:P.info? e=some i)(hs:i.size=1)(hx:xs.length=n):
  cJ P (UN b (d+2) t (.agg (xs.map (SG k)).toArray)) ():=by
 rw[UN];refine x_ ht ?_;dsimp only;simp only[VO,WM];refine lw (a:=⟨⟩) ?_ (iI _);refine ach _ λj hj=> ?_;have hn:(n-0+1-1)/1=n:=by simp
 have o_:j<n:=by rw[hn]at hj;simp[Xg]at hj;omega
 have gx:xs[j]?=some (xs[j]'(by omega)):=SV _;refine MQ hi ?_;rw[hs,Xs];refine C8 he rfl (v:= .int k (xs[j]'(by omega))) (by simp[gx]) ?_;exact lw (aqe he) (iI _)
def dN (x:List Int×Nat):MapEntry:={key:= .agg (x.1.map (SG .i64)).toArray,val:= .bool true,born:=x.2}
def pO (x:List Int):List (List Int×Nat)->Nat->Option (Nat×Value)
 |[],_=>none
 |y::ts,i=>if x==y.1 then some (i, .bool true)else pO x ts (i+1)
theorem acj{t e:TypeId}{k0:IntKind}{n:Nat}{i:TypeInfo}{x:List Int}(ht:P.underlying t=some (.array n e))(he:P.underlying e=some (.int k0))(hi:P.info? e=some i)(hs:i.size=1)(hx:x.length=n):∀(ts:List (List Int×Nat))(j:Nat),(∀y∈ts,y.1.length=n)->
  cJ P (W1 t (.agg (x.map (SG .i64)).toArray) (ts.map dN) j) (pO x ts j)
 |[],j,_=>by rw[List.map_nil,W1,pO];exact iI _
 |y::ts,j,h=>by
  rw[UE,W1,pO];refine lw (aci ht he hi hs hx (h y (Tu ..))) ?_;by_cases vW:(x==y.1)=true
  ·rw[if_pos vW,if_pos vW];exact iI _
  ·rw[if_neg vW,if_neg vW];exact acj ht he hi hs hx ts (j+1) λz hz=>h z (S9 _ hz)
theorem ack{t e:TypeId}{k0:IntKind}{n:Nat}{i:TypeInfo}{x:List Int}(ht:P.underlying t=some (.array n e))(he:P.underlying e=some (.int k0))(hi:P.info? e=some i)(hs:i.size=1)(hx:x.length=n){ts:List (List Int×Nat)}(h:∀y∈ts,y.1.length=n):
  cJ P (Vq t (.agg (x.map (SG .i64)).toArray) (ts.map dN)) (pO x ts 0):=by
 unfold Vq;refine x_ ht ?_;cases ts with
 |nil=>exact iI _
 |cons y ts=>
  have e1:Instr.findNow (.array n e) (.agg (x.map (SG .i64)).toArray) ((y::ts).map dN) 0=none:=rfl;rw[e1];exact acj ht he hi hs hx (y::ts) 0 h
theorem Pk{x:List Int}:∀{ts:List (List Int×Nat)}{j i:Nat}{v:Value},pO x ts j=some (i,v)->∃b,j<=i/\ts[i-j]?=some (x,b)/\v= .bool true
 |y::ts,j,i,v,h=>by
  rw[pO]at h;split at h
  ·rename_i vW;cases h;obtain⟨y1,b⟩:=y;have:x=y1:=(by simpa using vW);subst this;exact⟨b,SO _,by simp,rfl⟩
  ·obtain⟨b,h1,h2,h3⟩:=Pk h;refine⟨b,by omega, ?_,h3⟩;have:i-j=(i-(j+1))+1:=(by omega);rw[this,Ut];exact h2
theorem Pj{x:List Int}:∀{ts:List (List Int×Nat)}{j:Nat},pO x ts j=none->∀y∈ts,y.1≠x
 |y::ts,j,h,z,hz=>by
  rw[pO]at h;split at h
  ·cases h
  ·rename_i vW;rcases SK.1 hz with rfl|hz
   ·intro e;exact vW (by simp[e])
   ·exact Pj h z hz
end
theorem ao3(xs:List Int):VR 10000 (.agg (xs.map (SG .i64)).toArray) (.agg (xs.map (SG .i64)).toArray)=true:=by
 show VR (9999+1) _ _=true;rw[VR];simp only[beq_self_eq_true,U0,Tp]
 rintro⟨a,b⟩ h
 have:a=b/\a∈xs.map (SG .i64):=by
  have key:∀l:List Value,(a,b)∈l.zip l->a=b/\a∈l:=by
   intro l;induction l with
   |nil=>intro h;cases h
   |cons x l ih=>
    intro h;rw[List.zip_cons_cons]at h;rcases SK.1 h with h|h
    ·cases h;exact⟨rfl,Tu ..⟩
    ·exact⟨(ih h).1,S9 _ (ih h).2⟩
  exact key _ h
 obtain⟨rfl,hm⟩:=this;obtain⟨x,_,rfl⟩:=Th.1 hm;simp[VR]
theorem abd(ts:List (List Int×Nat))(ck:Nat)(x:List Int):we (ts.map dN).toArray ck (.agg (x.map (SG .i64)).toArray) (.bool true) none= .map ((ts++[(x,ck)]).map dN).toArray (ck+1):=by
 simp[we,dN]
theorem anN{ts:List (List Int×Nat)}{ck i b:Nat}{x:List Int}{v:Value}(h:ts[i]?=some (x,b)):we (ts.map dN).toArray ck (.agg (x.map (SG .i64)).toArray) (.bool true) (some (i,v))= .map (ts.map dN).toArray ck:=by
 simp only[we];congr 1;apply Array.ext_getElem?;intro j;rw[VG];by_cases hj:i=j
 ·subst hj;rw[if_pos rfl];simp[h,dN]
 ·rw[if_neg hj]
theorem amY(xs:List Int):AV.of (.agg (xs.map (SG .i64)).toArray)= .agg (xs.map iv):=by
 simp only[AV.of,Xh];congr 1
theorem HV(ts:List (List Int×Nat))(ck:Nat)(h:∀y∈ts,y.2<ck):((ts.map dN).toArray.all (λe=>decide (e.born>=ck))=false\/(ts.map dN).toArray.isEmpty=true):=by
 cases ts with
 |nil=>right;rfl
 |cons y ts=>
  left;have:=h y (Tu ..);simp[dN];omega
theorem zM{α β:Type}(f:α->β):∀{l:List α},(l.map f).Nodup->l.Nodup
 |[],_=>V_
 |x::l,h=>by
  rw[UE,Vv]at h;exact Vv.2 ⟨λhm=>h.1 (Th.2 ⟨x,hm,rfl⟩),zM f h.2⟩
theorem MA{ts vs:List (List Int×Nat)}(hv:(vs.map (·.2)).Nodup)(ht:(ts.map (·.2)).Nodup)(lO:∀y∈vs,y∈ts)(fO:∀y∈ts,y.2∈vs.map (·.2)):vs.Perm ts:=by
 have xD:vs.Nodup:=zM _ hv;have mh:ts.Nodup:=zM _ ht;refine(List.perm_ext_iff_of_nodup xD mh).2 λy=>⟨lO y,λhy=> ?_⟩;obtain⟨z,hz,e⟩:=Th.1 (fO y hy);have KT:=lO z hz;have:∀(l:List (List Int×Nat)),(l.map (·.2)).Nodup->z∈l->y∈l->z=y:=by
  intro l;induction l with
  |nil=>intro _ h;cases h
  |cons x l ih=>
   intro hn h1 h2;rw[UE,Vv]at hn;rcases SK.1 h1 with e1|I6
   ·rcases SK.1 h2 with e2|yO
    ·rw[e1,e2]
    ·exact absurd (show x.2∈l.map (·.2)from Th.2 ⟨y,yO,by rw[<- e1];exact e.symm⟩) hn.1
   ·rcases SK.1 h2 with e2|yO
    ·exact absurd (show x.2∈l.map (·.2)from Th.2 ⟨z,I6,by rw[<- e2];exact e⟩) hn.1
    ·exact ih hn.2 I6 yO
 rw[<- this ts ht KT hy];exact hz
theorem IQ{y:List Int×Nat}:∀{ts:List (List Int×Nat)},(ts.map (·.2)).Nodup->y∈ts->(ts.map dN).toArray.find? (λe=>e.born==y.2)=some (dN y):=by
 intro ts hn hy;rw[List.find?_toArray];induction ts with
 |nil=>cases hy
 |cons z ts ih=>
  rw[UE,Vv]at hn;rw[UE];by_cases h:z.2=y.2
  ·rw[List.find?_cons_of_pos (by simp[dN,h])];rcases SK.1 hy with e|mj
   ·rw[e]
   ·exact absurd (show z.2∈ts.map (·.2)from Th.2 ⟨y,mj,h.symm⟩) hn.1
  ·rw[List.find?_cons_of_neg (by simp[dN,h])];rcases SK.1 hy with e|mj
   ·exact absurd (by rw[e]) h
   ·exact ih hn.2 mj
theorem LO(y:List Int×Nat):AV.of (dN y).key= .agg (y.1.map iv):=amY y.1
section
variable {lv:Bool}{P:Program}
theorem ao8{l:Nat}{r:Loop}{V:View}(ho:V.own l=some (.loop r))(hs:r.state= .ready)(hc:V.role.chan≠some l):aO P V (do W2 l;pure Next.skip) (λnx V'=>nx= .skip/\V'=V.upd l (.loop {r with state:= .busy})) (λ_ _=>False):=by
 unfold W2 VX;refine az (az (az ?_));unfold getObj;refine nU ho rfl rfl hc (cK ?_);dsimp only;refine aq ?_;refine az ?_;unfold setObj;refine xZ ho rfl rfl hc (cK ?_);rw[hs];exact aq (aq ⟨rfl,rfl⟩)
theorem apc{l:Nat}{r:Loop}{V:View}(pu:Option Code)(ho:V.own l=some (.loop r))(hc:V.role.chan≠some l):aO P V (Ws l pu) (λv V'=>v= .bool pu.isNone/\V'=V.upd l (.loop {r with state:=if pu.isNone then .ready else .done,pending:=pu})) (λ_ _=>False):=by
 unfold Ws VX;refine az (az ?_);unfold getObj;refine nU ho rfl rfl hc (cK ?_);dsimp only;refine aq ?_;refine az ?_;unfold setObj;refine xZ ho rfl rfl hc (cK ?_);exact aq ⟨rfl,rfl⟩
theorem apb{l:Nat}{r:Loop}{V:View}(ho:V.own l=some (.loop r))(hs:r.state≠ .busy)(hc:V.role.chan≠some l):aO P V (YS l) (λv V'=>v=r.pending/\V'=V.upd l (.loop {r with state:= .exhausted})) (λ_ _=>False):=by
 unfold YS VX;refine az (az ?_);unfold getObj;refine nU ho rfl rfl hc (cK ?_);dsimp only;refine aq ?_;have:(r.state==ZB)=false:=by simpa using hs
 rw[if_neg (by rw[this];simp)];refine az ?_;unfold setObj;refine xZ ho rfl rfl hc (cK ?_);exact aq ⟨rfl,rfl⟩
theorem apd{fn:FuncId}{tmps:Array Value}{ps:Array Tmp}{bM body:Code}{V:View}:aO P V (Wl fn tmps ps bM body none) (λx V1=>∃d l,V.fresh d/\(V.upd d (.deferred (some []))).fresh l/\x=(l,[{target:= .collected d,args:=#[]}])/\
  V1=(V.upd d (.deferred (some []))).upd l (.loop {state:= .ready,pending:=none,fn,tmps,params:=ps,assign:=bM,body,defers:=d})) (λ_ _=>False):=by
 unfold Wl;dsimp only;refine az ?_;unfold newObj;refine oH λd hd=>cK ?_;refine az (aq ?_);dsimp only;refine az (oH λl hl=>cK (aq ?_));exact⟨d,l,hd,hl,rfl,rfl⟩
theorem MF{d:Nat}{V:View}(ho:V.own d=some (.deferred (some [])))(hc:V.role.chan≠some d):aO P V (Yg d) (λv V'=>v=[]/\V'=V.upd d (.deferred none)) (λ_ _=>False):=by
 unfold Yg;refine az ?_;unfold getObj;refine nU ho rfl rfl hc (cK ?_);dsimp only;refine az ?_;unfold setObj;refine xZ ho rfl rfl hc (cK ?_);exact aq ⟨rfl,rfl⟩
def adb (l:Nat)(R:Out->View->Prop):Ex->Act->View->Prop
 | .normal,_,V=>∃r,V.own l=some (.loop r)/\V.role.chan≠some l/\R (.ret (.bool true)) (V.upd l (.loop {r with state:= .ready,pending:=none}))
 | .ret,_,V=>∃r,V.own l=some (.loop r)/\V.role.chan≠some l/\R (.ret (.bool false)) (V.upd l (.loop {r with state:= .done,pending:=some .ret}))
 | .exit i,_,V=>∃r,V.own l=some (.loop r)/\V.role.chan≠some l/\R (.ret (.bool false)) (V.upd l (.loop {r with state:= .done,pending:=some (.exit i)}))
 | .goto i,_,V=>∃r,V.own l=some (.loop r)/\V.role.chan≠some l/\R (.ret (.bool false)) (V.upd l (.loop {r with state:= .done,pending:=some (.goto i)}))
 | .panic ch,a,V=>a.defers=[]/\R (.panic ch) V
def ac9 (lv:Bool)(P:Program)(l:Nat)(body:Code)(R:Out->View->Prop):Ex->Act->View->Prop
 | .normal,a,V=>∃r,V.own l=some (.loop r)/\V.role.chan≠some l/\r.state= .ready/\WP lv P (some l) body (adb l R) a (V.upd l (.loop {r with state:= .busy}))
 |_,_,_=>False
theorem aoO{l f:Nat}{tmps:Array Value}{bM body:Code}{V:View}{R:Out->View->Prop}(h:WP lv P (some l) bM (ac9 lv P l body R) {tmps,defers:=[]} V):na lv P (Ww l f tmps bM body .normal) V R:=by
 intro main J C c cs h1 h2;let b:Frame:={(default:Frame)with fn:=f,kind:= .normal,roundOf:=some l};have akx:Ww l f tmps bM body .normal=on b {tmps,defers:=[]} [.code bM, .beginRound, .code body]:=rfl;rw[akx];have leave:∀(a:Act)(V':View)(r:Loop)(pu:Option Code)(todo:List Item),V'.own l=some (.loop r)->V'.role.chan≠some l->R (.ret (.bool pu.isNone)) (V'.upd l (.loop {r with state:=if pu.isNone then .ready else .done,pending:=pu}))->
   (∀w,stepG P main (G (on b a todo) (c::cs)) w=TN (seen P b.fn ((Ws l pu).runT P w #[]).2) (match((Ws l pu).runT P w #[]).1 with
    | .ok v w=>doReturn P main (on b a todo) (c::cs) none v w
    | .halt _ w => .ended (.stuck "range over a function: no such loop" ((on b a todo).pos P)) w)) -> J V' (G (on b a todo) (c :: cs)) := by
  intro a V' r pu todo ho fi hR aQ;refine C.step _ _ rfl λw fI=> ?_;obtain⟨es,w',aU,k1,k2,k3⟩:=(apc (P:=P) pu ho fi).runs fI;rcases k3 with⟨v,k3,rfl,rfl⟩|⟨_,_,hx⟩
  ·refine⟨G (c.finish (.bool pu.isNone)) cs,w',seen P b.fn es,_, ?_,k1.seen P b.fn,h1 _ _ hR⟩;rw[aQ w];simp[Tt,k3,k2,doReturn,TN,on,b,G]
  ·exact hx.elim
 refine h main J C b [.beginRound, .code body] (c::cs) (by show Yh≠UJ;decide) rfl λe a' V' q=> ?_;cases e with
 |normal=>
  obtain⟨r,ho,fi,hs,hw⟩:=q;refine C.step _ _ rfl λw fI=> ?_;obtain⟨es,w',aU,k1,k2,k3⟩:=(ao8 (P:=P) ho hs fi).runs fI;rcases k3 with⟨nx,k3,rfl,rfl⟩|⟨_,_,hx⟩
  ·refine⟨G (on b a' [.code body]) (c::cs),w',seen P b.fn es,_, ?_,k1.seen P b.fn, ?_⟩
   ·have:stepG P main (G (on b a' [.beginRound, .code body]) (c::cs)) w=stepG.apply P true (on b a' [.beginRound, .code body]) (c::cs) none (do W2 l;pure Next.skip) w:=by
     simp[G,stepG,TZ,on,b]
    rw[this];have jW:((on b a' [.beginRound, .code body]).kind==UJ)=false:=(by simp[on,b]);simp only[stepG.apply,Tt,if_true,k3,k2,jW,TN];rfl
   ·refine hw main J C b [] (c::cs) (by show Yh≠UJ;decide) rfl λe cC aU q=> ?_;cases e with
    |normal=>
     obtain⟨r',bf,nA,hR⟩:=q;refine leave cC aU r' none [] bf nA hR λw=> ?_;simp[G,stepG,TZ,on,b];rfl
    |ret=>
     obtain⟨r',bf,nA,hR⟩:=q;intro k;refine leave cC aU r' (some .ret) _ bf nA hR λw=> ?_;simp[G,stepG,TZ,on,b];rfl
    |exit i=>
     obtain⟨r',bf,nA,hR⟩:=q;refine .inr ⟨rfl,λk2 cx=> ?_⟩;refine leave cC aU r' (some (.exit i)) _ bf nA hR λw=> ?_;simp[G,stepG,TZ,on,b,cx];rfl
    |goto i=>
     obtain⟨r',bf,nA,hR⟩:=q;refine .inr ⟨rfl,λk2 cx=> ?_⟩;refine leave cC aU r' (some (.goto i)) _ bf nA hR λw=> ?_;simp[G,stepG,TZ,on,b,cx];rfl
    |panic ch=>
     obtain⟨hd,hR⟩:=q;intro todo akK;refine C.idle rfl (λw=> ?_) (h2 _ _ hR);have ai2:Y0 P {on b cC todo with mode:= .panicking ch}=false:=by
      unfold Y0
      match todo,akK with
      | .call .. ::_,h=>cases h
      |[],_=>split<;>simp_all[on]
      |x::k,_=>cases x<;>(split<;>simp_all[on,aax])
     have bz:({on b cC todo with mode:= .panicking ch}:Frame).defers=[]:=hd;simp only[G,stepG,unwind,bz,ai2];simp
  ·exact hx.elim
 |_=>exact q.elim
def mark (a:Act)(d:Nat):Act:={a with defers:={target:= .collected d,args:=#[]}::a.defers}
def wE (l:Nat)(Q:Ex->Act->View->Prop)(a:Act):Out->View->Prop
 | .ret _,V=>∃r,V.own l=some (.loop r)/\V.role.chan≠some l/\r.state≠ .busy/\(match r.pending with
  |none=>Q .normal a (V.upd l (.loop {r with state:= .exhausted}))
  |some .ret=>Q .ret a (V.upd l (.loop {r with state:= .exhausted}))
  |some (.exit i)=>Q (.exit i) a (V.upd l (.loop {r with state:= .exhausted}))
  |some (.goto i)=>Q (.goto i) a (V.upd l (.loop {r with state:= .exhausted}))
  |_=>False)
 | .panic ch,V=>Q (.panic ch) a V
abbrev DI (l d:Nat)(Q:Ex->Act->View->Prop)(a:Act):Out->View->Prop:=wE l Q (mark a d)
theorem abj{rr:Option Nat}{f:Operand}{ps:Array Tmp}{bM body:Code}{Q:Ex->Act->View->Prop}{a a1:Act}{V1:View}{l:Nat}{main:Bool}{J:View->Goroutine->Prop}(C:Closed lv P main J){b:Frame}{k:List Item}{cs:List Frame}(hb:b.kind≠ .early)(hr:b.roundOf=rr)(hL:∀e a' V',Q e a' V'->uS J b k cs e a' V'){w w1:World}{es:Array Event}{V:View}
  (h:aO P V1 (do let dd<- UI (a.eval f) #[.func (.yield l) #[] #[]];invoke dd.target dd.args) (λnx V'=>Nx lv P (wE l Q a1) nx V') (λv V'=>wE l Q a1 (.panic [{v,recovered:=false}]) V'))
  (s1:dg V w V1 w1 (fS es)) (aQ:stepG P main (G (on b a (.code (.rangeFunc f ps bM body)::k)) cs) w=TN (seen P b.fn es) (stepG.apply P true (on b a1 (.inRangeFunc l::k)) cs none (do let dd<- UI (a.eval f) #[.func (.yield l) #[] #[]];invoke dd.target dd.args) w1)):
  ∃g' w' es V',stepG P main (G (on b a (.code (.rangeFunc f ps bM body)::k)) cs) w= .go g' w' es/\dg V w V' w' es/\J V' g':=by
 have fin:∀(v:Value)(V':View),wE l Q a1 (.ret v) V'->J V' (G (on b a1 (.endRangeFunc l::k)) cs):=by
  intro v V' ⟨r,ho,fi,hs,hq⟩;refine C.step _ _ rfl λw fI=> ?_;obtain⟨es,w',aU,k1,k2,k3⟩:=(apb (P:=P) ho hs fi).runs fI;rcases k3 with⟨x,k3,rfl,rfl⟩|⟨_,_,hx⟩
  ·refine⟨G (on b a1 ((r.pending.map Item.code).toList++k)) cs,w',seen P b.fn es,_, ?_,k1.seen P b.fn, ?_⟩
   ·simp[G,stepG,TZ,on,Tt,k3,k2,TN]
   ·generalize r.pending=pe at hq⊢
    match pe,hq with
    |none,hq=>exact hL _ _ _ hq
    |some .ret,hq=>exact hL _ _ _ hq _
    |some (.exit i),hq=>exact Se C (hL _ _ _ hq)
    |some (.goto i),hq=>exact ak7 C (hL _ _ _ hq)
  ·exact hx.elim
 obtain⟨nm,w2,V2,t1,t2,t3⟩:=h.runs s1.sat;have jW:((on b a1 (.inRangeFunc l::k)).kind==UJ)=false:=by simpa[on]using hb
 rw[aQ];rcases t3 with⟨nx,t3,hU⟩|⟨v,t3,hU⟩
 ·cases nx with
  |value v=>exact⟨_,w2,seen P b.fn es++seen P b.fn nm,V2,by simp only[stepG.apply,Tt,if_true,t3,t2,jW,TN];rfl,(s1.seen P _).trans (t1.seen P _),fin v _ hU⟩
  |skip=>exact⟨_,w2,seen P b.fn es++seen P b.fn nm,V2,by simp only[stepG.apply,Tt,if_true,t3,t2,jW,TN];rfl,(s1.seen P _).trans (t1.seen P _),fin undef _ hU⟩
  |enter g args=>
   refine⟨G (Frame.enter P g args .normal) (on b a1 (.inRangeFunc l::k)::cs),w2,seen P b.fn es++seen P b.fn nm,V2,by simp only[stepG.apply,Tt,if_true,t3,t2,jW,TN];rfl,(s1.seen P _).trans (t1.seen P _), ?_⟩;refine Body.runs hU main J C _ cs (λv aU hR=> ?_) (λch aU hR=> ?_)
   ·exact fin v _ hR
   ·exact hL _ _ _ hR _ rfl
  |round l2 f2 aqI as2 b2=>
   refine⟨G (Ww l2 f2 aqI as2 b2 .normal) (on b a1 (.inRangeFunc l::k)::cs),w2,seen P b.fn es++seen P b.fn nm,V2,by simp only[stepG.apply,Tt,if_true,t3,t2,jW,TN];rfl,(s1.seen P _).trans (t1.seen P _), ?_⟩;refine hU main J C _ cs (λv aU hR=> ?_) (λch aU hR=> ?_)
   ·exact fin v _ hR
   ·exact hL _ _ _ hR _ rfl
  |_=>exact hU.elim
 ·exact⟨_,w2,seen P b.fn es++seen P b.fn nm,V2,by simp only[stepG.apply,Tt,if_true,t3,t2,jW,TN];rfl,(s1.seen P _).trans (t1.seen P _),hL _ _ _ hU _ rfl⟩
theorem acU{f:Operand}{ps:Array Tmp}{bM body:Code}{Q:Ex->Act->View->Prop}{a:Act}{V:View}
  (h:∀(fn d l:Nat),V.fresh d->(V.upd d (.deferred (some []))).fresh l->aO P ((V.upd d (.deferred (some []))).upd l (.loop {state:= .ready,pending:=none,fn,tmps:=a.tmps,params:=ps,assign:=bM,body,defers:=d}))
   (do let dd<- UI (a.eval f) #[.func (.yield l) #[] #[]];invoke dd.target dd.args) (λnx V'=>Nx lv P (DI l d Q a) nx V') (λv V'=>DI l d Q a (.panic [{v,recovered:=false}]) V')):WP lv P none (.rangeFunc f ps bM body) Q a V:=by
 intro main J C b k cs hb hr hL;refine C.step _ _ rfl λw fI=> ?_;obtain⟨es,w1,V1,s1,s2,s3⟩:=(apd (P:=P) (fn:=b.fn) (tmps:=a.tmps) (ps:=ps) (bM:=bM) (body:=body)).runs fI;rcases s3 with⟨x,s3,d,l,hd,hl,rfl,rfl⟩|⟨_,_,hx⟩
 ·refine abj C hb hr hL (h b.fn d l hd hl) s1 ?_;have cu:∀(todo:List Item)(x:Operand),(on b (mark a d) todo).eval x=a.eval x:=λtodo x=>by rw[Gc];cases x<;>rfl
  have e:=cu (.inRangeFunc l::k) f;have e2:=cu (.inRangeFunc l::k) (.const (.func (.yield l) #[] #[]));simp only[on,mark]at e e2;simp[G,stepG,TZ,on,Tt,s3,s2,hr,mark,resolve];rw[hr]at e;rw[e];rfl
 ·exact hx.elim
theorem ape{fn:FuncId}{tmps:Array Value}{ps:Array Tmp}{bM body:Code}{V:View}{l0:Nat}{r0:Loop}(ho:V.own l0=some (.loop r0))(hc:V.role.chan≠some l0):aO P V (Wl fn tmps ps bM body (some l0)) (λx V1=>∃l,V.fresh l/\x=(l,[])/\
  V1=V.upd l (.loop {state:= .ready,pending:=none,fn,tmps,params:=ps,assign:=bM,body,defers:=r0.defers})) (λ_ _=>False):=by
 unfold Wl VX;dsimp only;refine az (az ?_);unfold getObj;refine nU ho rfl rfl hc (cK ?_);dsimp only;refine aq (az (aq ?_));dsimp only;refine az ?_;unfold newObj;refine oH λl hl=>cK (aq ?_);exact⟨l,hl,rfl,rfl⟩
theorem arl{f:Operand}{ps:Array Tmp}{bM body:Code}{Q:Ex->Act->View->Prop}{a:Act}{V:View}{l0:Nat}{r0:Loop}(ho:V.own l0=some (.loop r0))(hc:V.role.chan≠some l0)
  (h:∀(fn l:Nat),V.fresh l->aO P (V.upd l (.loop {state:= .ready,pending:=none,fn,tmps:=a.tmps,params:=ps,assign:=bM,body,defers:=r0.defers}))
   (do let dd<- UI (a.eval f) #[.func (.yield l) #[] #[]];invoke dd.target dd.args) (λnx V'=>Nx lv P (wE l Q a) nx V') (λv V'=>wE l Q a (.panic [{v,recovered:=false}]) V')):WP lv P (some l0) (.rangeFunc f ps bM body) Q a V:=by
 intro main J C b k cs hb hr hL;refine C.step _ _ rfl λw fI=> ?_;obtain⟨es,w1,V1,s1,s2,s3⟩:=(ape (P:=P) (fn:=b.fn) (tmps:=a.tmps) (ps:=ps) (bM:=bM) (body:=body) ho hc).runs fI;rcases s3 with⟨x,s3,l,hl,rfl,rfl⟩|⟨_,_,hx⟩
 ·refine abj C hb hr hL (h b.fn l hl) s1 ?_;have e:=Gc b a (.inRangeFunc l::k) f;simp only[on]at e;simp[G,stepG,TZ,on,Tt,s3,s2,hr,resolve];rw[hr]at e;rw[e];rfl
 ·exact hx.elim
theorem Conc.x7{E:Env}{V:View}{H:List aa}(hc:Conc E V H){id r fn nt df:Nat}{st:LoopState}{pe:Option Code}{T:List (Nat×AV)}{ps:Array Tmp}{bM body:Code}(hk:H[id]?=some (.loop r st pe fn T nt ps bM body df)):
  E.blk id=r/\V.role.chan≠some r/\∃tmps,V.own r=some (.loop {state:=st,pending:=pe,fn,tmps,params:=ps,assign:=bM,body,defers:=E.blk df})/\tmps.size=nt/\cj E T tmps/\
   ∀st' wc,Conc E (V.upd r (.loop {state:=st',pending:=wc,fn,tmps,params:=ps,assign:=bM,body,defers:=E.blk df})) (H.set id (.loop r st' wc fn T nt ps bM body df)):=by
 obtain⟨⟨tmps,p1,p2,p3⟩,p4,p5,p6⟩:=hc.obj id _ hk;have fi:=(hc.jo hk (b:=E.blk id) rfl).2;subst p6;refine⟨rfl,fi,tmps,p1,p2,p3,λst' wc=> ?_⟩;refine hc.i_ id (.loop (E.blk id) st' wc fn T nt ps bM body df) (Env.Le.refl E) hc.I (by simpa using hc.n) lS rfl (λ_ _ _=>rfl) (λb z hb hz=>⟨?_,λ_=>rfl⟩) ⟨⟨tmps,by simp[View.upd],p2,p3⟩,p4,p5,rfl⟩ (λb h=> .inl ⟨_,hk,h⟩);have:b≠E.blk id:=λe=>hb _ hk (by rw[e];rfl);simpa[View.upd,this]using hz
theorem Conc.C3{E:Env}{V:View}{H:List aa}(hc:Conc E V H){id:Nat}(x:aa)(hk:H[id]?=some x)(y:Obj){b:Nat}(hb:bN E id x=some b):Conc E (V.upd b y) (H.set id .gone):=by
 refine hc.i_ id .gone (Env.Le.refl E) hc.I (by simpa using hc.n) lS rfl (λ_ _ _=>rfl) (λb' z dG hz=>⟨?_,λ_=>rfl⟩) trivial (λb h=>by cases h);have:b'≠b:=λe=>dG _ hk (by rw[e];exact hb);simpa[View.upd,this]using hz
def rV:List Nat->List AV->List (Nat×AV)->List (Nat×AV)
 |t::ts,a::aD,T=>rV ts aD ((t,a)::T)
 |_,_,T=>T
theorem acZ{E:Env}{nt:Nat}:∀(ts:List Nat)(aD:List AV)(vs:List Value)(T:List (Nat×AV))(tmps:Array Value),vs.length=aD.length->(∀(i:Nat) a,aD[i]?=some a->ap E a (vs.getD i undef))->(∀t∈ts,t<nt)->tmps.size=nt->cj E T tmps->
  cj E (rV ts aD T) ((ts.zip vs).foldl (λtmps (x:Nat×Value)=>tmps.setIfInBounds x.1 x.2) tmps)/\((ts.zip vs).foldl (λtmps (x:Nat×Value)=>tmps.setIfInBounds x.1 x.2) tmps).size=nt
 |[],aD,vs,T,tmps,_,_,_,hs,hT=>by cases aD<;>cases vs<;>exact⟨hT,hs⟩
 |t::ts,[],[],T,tmps,_,_,_,hs,hT=>⟨hT,hs⟩
 |t::ts,[],_::_,T,tmps,h,_,_,hs,hT=>by cases h
 |t::ts,_::_,[],T,tmps,h,_,_,hs,hT=>by cases h
 |t::ts,a::aD,v::vs,T,tmps,hl,hd,ht,hs,hT=>by
  have h0:ap E a v:=by simpa using hd 0 a rfl
  have h1:t<tmps.size:=by rw[hs];exact ht t (by simp)
  exact acZ ts aD vs ((t,a)::T) (tmps.setIfInBounds t v) (by simpa using hl) (λi x hx=>by simpa using hd (i+1) x (by simpa using hx)) (λx hx=>ht x (by simp[hx])) (by simpa using hs) (hT.put h1 h0)
def oS (id n:Nat)(k:AV->List aa->Prop)(st':LoopState)(wc:Option Code)(b:Bool)(s:AS):Prop:=∃r st pe fn T nt ps bM body df,s.H[id]?=some (.loop r st pe fn T nt ps bM body df)/\cy n (s.H.set id (.loop r st' wc fn T nt ps bM body df)) (.val (.bool b)) k
def ada (id n:Nat)(k kp:AV->List aa->Prop):ao->AS->Prop
 | .normal,s=>oS id n k .ready none true s
 | .ret,s=>oS id n k .done (some .ret) false s
 | .exit i,s=>oS id n k .done (some (.exit i)) false s
 | .goto i,s=>oS id n k .done (some (.goto i)) false s
 | .panic pv,s=>cy n s.H pv kp
def tE (lv:Bool)(P:Program)(l nt id n:Nat)(body:Code)(k kp:AV->List aa->Prop):ao->AS->Prop
 | .normal,s=>∃pe fn T jp ps bM fE df,s.H[id]?=some (.loop l .ready pe fn T jp ps bM fE df)/\aY lv P (some l) nt body ⟨s.T,s.H.set id (.loop l .busy pe fn T jp ps bM fE df)⟩ (ada id n k kp)
 |_,_=>False
theorem vb{l id fn nt df:Nat}{pe:Option Code}{T:List (Nat×AV)}{ps:Array Tmp}{bM body:Code}{H:List aa}{args:List AV}{k kp:AV->List aa->Prop}(ce:H[id]?=some (.loop l .ready pe fn T nt ps bM body df))(hlen:args.length=ps.size)(sQ:ps.all (·<nt)=true)
  (h:bL H->(∀a∈args,Lt H.length a)->aY lv P (some l) nt bM ⟨rV ps.toList args T,H⟩ (tE lv P l nt id H.length body k kp)):ja lv P (.fn (.yield l) [] []) H args k kp:=by
 intro E V cv vs hc hd o6;cases hd with
 |fn dW fA h1 h2=>
  rename_i fa ca;have e1:fa=#[]:=by apply Va;simpa using dW
  subst e1;have hlt:∀a∈args,Lt H.length a:=λa ha=>by
   obtain⟨i,hi⟩:=pw ha;rw[<- hc.n];exact(o6.2 i a hi).lt
  obtain⟨hb,fi,tmps,ho,aW,hT,_⟩:=hc.x7 ce;unfold UI;refine az (aq ?_);unfold invoke;dsimp only;unfold Instr.yield VX;refine az (az ?_);unfold getObj;refine nU ho rfl rfl fi (cK ?_);dsimp only;refine aq ?_;have lQ:(#[]++vs).size=ps.size:=by simp[o6.1,hlen]
  rw[if_neg (by simp[o6.1,hlen])];refine aq ?_;show na lv P _ V (gW E V k kp);have hz:=acZ (nt:=nt) ps.toList args vs.toList T tmps (by simpa using o6.1) (λi a e=>by
   have:=o6.2 i a e;simpa[SH,SF]using this) (λt ht=>by
    have:=(Uq.1 sQ) t (by simpa using ht);simpa using this) aW hT
  have agk:(ps.zip (#[]++vs)).foldl (λtmps (x:Nat×Value)=>tmps.setIfInBounds x.1 x.2) tmps=(ps.toList.zip vs.toList).foldl (λtmps (x:Nat×Value)=>tmps.setIfInBounds x.1 x.2) tmps:=by
   rw[<- Array.foldl_toList,Array.toList_zip];simp
  have agl:Array.foldl (λtmps x=>match x with|(t,a)=>tmps.setIfInBounds t a) tmps (ps.zip (#[]++vs))=(ps.toList.zip vs.toList).foldl (λtmps (x:Nat×Value)=>tmps.setIfInBounds x.1 x.2) tmps:=agk;rw[agl];refine aoO ?_;refine h hc.ay hlt E V _ _ ⟨hc,hz.1,hz.2⟩ λae e E' V' a' s' hk aR he hΦ=> ?_;cases ae<;>cases e<;>first
   |exact he.elim
   |exact hΦ.elim
   |skip
  obtain⟨wc,fL,T',jp,gJ,gw,fE,gz,ajA,hw⟩:=hΦ;obtain⟨dG,nA,qz,bf,KF,sC,zw⟩:=aR.bw.x7 ajA;refine⟨_,bf,nA,rfl, ?_⟩;refine hw E' _ a' _ ⟨zw .busy wc,aR.tok,aR.size⟩ λae e bR aU cC dA cx dx BV FI=> ?_;have fin:∀(st':LoopState)(Gp:Option Code)(b:Bool),(∃r st pe fn T nt ps bM body df,dA.H[id]?=some (.loop r st pe fn T nt ps bM body df)/\cy H.length (dA.H.set id (.loop r st' Gp fn T nt ps bM body df)) (.val (.bool b)) k)->
    ∃r,aU.own l=some (.loop r)/\aU.role.chan≠some l/\gW E V k kp (.ret (.bool b)) (aU.upd l (.loop {r with state:=st',pending:=Gp})):=by
   intro st' Gp b ⟨r,st,pe3,fn3,T3,nt3,Mn,ar0,ar9,df3,ajB,vH⟩;obtain⟨EG,ai6,asY,Kj,asE,hT3,akB⟩:=dx.bw.x7 ajB;have hlt:id<E.n:=(by rw[hc.n];exact(SM.1 ce).1);have hle:E.Le bR:=hk.le.trans cx.le;have hr:r=l:=(by rw[<- EG,<- hb];exact hle.blk id hlt);subst hr;obtain⟨x,E4,H4,q1,q2,q3,q4⟩:=wW vH (akB st' Gp) (.val _) hle hc.n;exact⟨_,Kj,ai6,x,E4,H4,q1,cx.role.trans hk.role,cx.deaf.trans hk.deaf,q2,q3,q4⟩
  cases ae<;>cases e<;>first
   |exact BV.elim
   |exact fin .ready none true FI
   |exact fin .done (some .ret) false FI
   |(have e:_=_:=BV
     subst e;exact fin .done _ false FI)
   |skip
  obtain⟨v,ai5,bm⟩:=BV;subst ai5;obtain⟨x,E4,H4,q1,q2,q3,q4⟩:=wW FI dx.bw bm (hk.le.trans cx.le) hc.n;refine⟨by rw[cx.defers,hk.defers],x,v,E4,H4,rfl,q1,cx.role.trans hk.role,cx.deaf.trans hk.deaf,q2,q3,q4⟩
def Marks (E:Env)(ms:List Nat)(l:List Deferred):Prop:=l=ms.map (λi=>({target:= .collected (E.blk i),args:=#[]}:Deferred))/\∀i∈ms,i<E.n
theorem Marks.mono{E E':Env}(h:E.Le E'){ms:List Nat}{l:List Deferred}(k:Marks E ms l):Marks E' ms l:=
 ⟨by rw[k.1];exact U9 λi hi=>by rw[h.blk i (k.2 i hi)],λi hi=>Ta (k.2 i hi) h.n⟩
def mB (lv:Bool)(P:Program)(nt:Nat)(c:Code)(s:AS)(ms:List Nat)(Φ:ao->AS->List Nat->Prop):Prop:=
 ∀(E:Env)(V:View)(a:Act)(Q:Ex->Act->View->Prop),At E V s a nt->Marks E ms a.defers->(∀ae e E' V' a' s' cH,qE E E' V V' a a'->At E' V' s' a' nt->Marks E' cH a'.defers->pF E' ae e->Φ ae s' cH->Q e a' V')->WP lv P none c Q a V
variable {s:AS}{ms:List Nat}{nt:Nat}
theorem HN{c:Code}{Φ:ao->AS->List Nat->Prop}(h:aY lv P none nt c s λe s'=>Φ e s' ms):mB lv P nt c s ms Φ:=λE V a Q ah hd hQ=>
 h E V a Q ah λae e E' V' a' s' hk aR he hΦ=>hQ ae e E' V' a' s' ms hk.d aR (by rw[hk.defers];exact hd.mono hk.le) he hΦ
def ao.rR (next:AS->List Nat->Prop)(Φ:ao->AS->List Nat->Prop):ao->AS->List Nat->Prop
 | .normal,s,ms=>next s ms
 |e,s,ms=>Φ e s ms
theorem HO{x y:Code}{Φ:ao->AS->List Nat->Prop}(h:mB lv P nt x s ms (ao.rR (λs' cH=>mB lv P nt y s' cH Φ) Φ)):mB lv P nt (.seq x y) s ms Φ:=by
 intro E V a Q ah hd hQ;refine wp_seq (h E V a _ ah hd λae e E' V' a' s' cH hk aR cE he hΦ=> ?_);cases ae<;>cases e<;>first
  |exact he.elim
  |exact hΦ E' V' a' Q aR cE λae e bR aU cC dA CK aI dx y_ kj sW=>hQ ae e bR aU cC dA CK (hk.trans aI) dx y_ kj sW
  |exact hQ _ _ E' V' a' s' cH hk aR cE he hΦ
theorem ng{x y:Code}{Φ:ao->AS->List Nat->Prop}(h:aY lv P none nt x s (ao.then (λs'=>mB lv P nt y s' ms Φ) λe s'=>Φ e s' ms)):mB lv P nt (.seq x y) s ms Φ:=by
 refine HO (HN (h.mono λe s' hs=> ?_));cases e<;>exact hs
def sf (Φ:ao->AS->List Nat->Prop)(s:AS)(ms:List Nat):Option Code->Prop
 |none=>Φ .normal s ms
 |some .ret=>Φ .ret s ms
 |some (.exit i)=>Φ (.exit i) s ms
 |some (.goto i)=>Φ (.goto i) s ms
 |_=>False
theorem aeT{f:Operand}{ps:Array Tmp}{bM body:Code}{fv:AV}{Φ:ao->AS->List Nat->Prop}(hf:s.ev f=some fv)
  (h:∀l fn:Nat,ja lv P fv (s.H++[.obj (.deferred (some [])), .loop l .ready none fn s.T nt ps bM body s.H.length]) [.fn (.yield l) [] []]
   (λ_ H'=>∃st pe fL T' jp gJ gw fE gz,H'[s.H.length+1]?=some (.loop l st pe fL T' jp gJ gw fE gz)/\st≠ .busy/\sf Φ ⟨s.T,H'.set (s.H.length+1) .gone⟩ (s.H.length::ms) pe)
   (λpv H'=>Φ (.panic pv) ⟨s.T,H'⟩ (s.H.length::ms))):mB lv P nt (.rangeFunc f ps bM body) s ms Φ:=by
 intro E V a Q ah hm hQ;refine acU λfn d l hd hl=> ?_;have hc:=ah.bw;have dl:Conc (E.add d V.ab) (V.upd d (.deferred (some []))) (s.H++[.obj (.deferred (some []))]):=by
  refine hc.add hd _ ⟨?_,rfl,rfl,λo=> ?_⟩ (λb e=> ?_)
  ·rw[Env.dS];simp[View.upd]
  ·rw[Env.dS];exact hd.2 o
  ·simp only[bN,Env.dS,Te]at e;exact e.symm
 have B3:E.Le (E.add d V.ab):=E.qn d (λb o v h=>by rw[<- hc.I];exact h);have BK:(E.add d V.ab).blk s.H.length=d:=by rw[<- hc.n];exact E.dS d _
 let E1:=E.add d V.ab;let V1:=V.upd d (.deferred (some []));have pi:E1.n=s.H.length+1:=by rw[dl.n];simp
 have p8:E1.Le (E1.add l V1.ab):=E1.qn l (λb o v h=>by rw[<- dl.I];exact h);have cT:Conc (E1.add l V1.ab) (V1.upd l (.loop {state:= .ready,pending:=none,fn,tmps:=a.tmps,params:=ps,assign:=bM,body,defers:=d})) ((s.H++[.obj (.deferred (some []))])++[.loop l .ready none fn s.T nt ps bM body s.H.length]):=by
  refine dl.add hl _ ⟨⟨a.tmps, ?_,ah.size,(ah.tok.mono B3).mono p8⟩, ?_,λo=> ?_, ?_⟩ (λb e=> ?_)
  ·have e:(E1.add l V1.ab).blk s.H.length=d:=(by rw[p8.blk s.H.length (by rw[pi];omega)];exact BK);rw[e,Env.dS];simp[View.upd]
  ·show s.H.length<E1.n+1;omega
  ·rw[Env.dS];exact hl.2 o
  ·exact Env.dS _ _ _
  ·simp only[bN,Env.dS,Te]at e;exact e.symm
 have hle:E.Le (E1.add l V1.ab):=B3.trans p8;have cP:(E1.add l V1.ab).blk (s.H.length+1)=l:=by rw[<- pi];exact E1.dS l _
 have Jt:(E1.add l V1.ab).blk s.H.length=d:=by rw[p8.blk s.H.length (by rw[pi];omega)];exact BK
 rw[SC]at cT;have rl:∀E',(E1.add l V1.ab).Le E'->Marks E' (s.H.length::ms) (mark a d).defers:=λE' hE=>by
  refine Marks.mono hE ⟨?_,λi hi=> ?_⟩
  ·have:=(hm.mono hle).1;simp only[mark,UE,Jt];rw[<- this]
  ·rcases SK.1 hi with rfl|hi
   ·show _<E1.n+1;omega
   ·exact Ta (hm.2 i hi) hle.n
 have bz:=ap.ev ah.tok hf;have BN:=h l fn (E1.add l V1.ab) (V1.upd l (.loop {state:= .ready,pending:=none,fn,tmps:=a.tmps,params:=ps,assign:=bM,body,defers:=d})) (a.eval f) #[.func (.yield l) #[] #[]] cT (bz.mono hle) ⟨rfl,λi x hx=>by
  match i,hx with
  |0,hx=>cases hx;exact .fn rfl rfl (by simp) (by simp)⟩
 have key:∀o V',gW (E1.add l V1.ab) (V1.upd l (.loop {state:= .ready,pending:=none,fn,tmps:=a.tmps,params:=ps,assign:=bM,body,defers:=d}))
   (λ_ H'=>∃st pe fL T' jp gJ gw fE gz,H'[s.H.length+1]?=some (.loop l st pe fL T' jp gJ gw fE gz)/\st≠ .busy/\sf Φ ⟨s.T,H'.set (s.H.length+1) .gone⟩ (s.H.length::ms) pe)
   (λpv H'=>Φ (.panic pv) ⟨s.T,H'⟩ (s.H.length::ms)) o V'->DI l d Q a o V':=by
  intro o V' hr;cases o with
  |ret v=>
   obtain⟨av,E',H',hE,b8,fl,_,bc,st,pe,fL,T',jp,gJ,gw,fE,gz,ce,aQ,hp⟩:=hr;obtain⟨dG,nA,qz,bf,KF,sC,zw⟩:=bc.x7 ce;refine⟨_,bf,nA,aQ, ?_⟩;have hg:Conc E' (V'.upd l (.loop {state:= .exhausted,pending:=pe,fn:=fL,tmps:=qz,params:=gJ,assign:=gw,body:=fE,defers:=E'.blk gz})) (H'.set (s.H.length+1) .gone):=bc.C3 _ ce _ (by simp only[bN,dG]);have aR:At E' (V'.upd l (.loop {state:= .exhausted,pending:=pe,fn:=fL,tmps:=qz,params:=gJ,assign:=gw,body:=fE,defers:=E'.blk gz})) ⟨s.T,H'.set (s.H.length+1) .gone⟩ (mark a d) nt:=⟨hg,ah.tok.mono (hle.trans hE),ah.size⟩;have eO:qE E E' V (V'.upd l (.loop {state:= .exhausted,pending:=pe,fn:=fL,tmps:=qz,params:=gJ,assign:=gw,body:=fE,defers:=E'.blk gz})) a (mark a d):=⟨hle.trans hE,rfl,b8,fl⟩;dsimp only
   match pe,hp,aR,eO with
   |none,hp,aR,eO=>exact hQ .normal .normal E' _ _ _ _ eO aR (rl E' hE) trivial hp
   |some .ret,hp,aR,eO=>exact hQ .ret .ret E' _ _ _ _ eO aR (rl E' hE) trivial hp
   |some (.exit i),hp,aR,eO=>exact hQ (.exit i) (.exit i) E' _ _ _ _ eO aR (rl E' hE) rfl hp
   |some (.goto i),hp,aR,eO=>exact hQ (.goto i) (.goto i) E' _ _ _ _ eO aR (rl E' hE) rfl hp
  |panic ch=>
   obtain⟨pv,v,E',H',rfl,hE,b8,fl,bm,bc,hp⟩:=hr;exact hQ (.panic pv) (.panic _) E' V' (mark a d) ⟨s.T,H'⟩ _ ⟨hle.trans hE,rfl,b8,fl⟩ ⟨bc,ah.tok.mono (hle.trans hE),ah.size⟩ (rl E' hE) ⟨v,rfl,bm⟩ hp
 exact BN.mono (λnx V' hn=>Nx.mono key hn) (λv V' hr=>key _ _ hr)
def tD (Φ:ao->AS->Prop)(s:AS):Option Code->Prop
 |none=>Φ .normal s
 |some .ret=>Φ .ret s
 |some (.exit i)=>Φ (.exit i) s
 |some (.goto i)=>Φ (.goto i) s
 |_=>False
theorem aeI{f:Operand}{ps:Array Tmp}{bM body:Code}{fv:AV}{Φ:ao->AS->Prop}{l0 FK IZ LJ df:Nat}{ML:LoopState}{L4:Option Code}{T0:List (Nat×AV)}{Mm:Array Tmp}{HI HU:Code}(hf:s.ev f=some fv)(h0:s.H[FK]?=some (.loop l0 ML L4 IZ T0 LJ Mm HI HU df))
  (h:∀l fn:Nat,ja lv P fv (s.H++[.loop l .ready none fn s.T nt ps bM body df]) [.fn (.yield l) [] []]
   (λ_ H'=>∃st pe fL T' jp gJ gw fE gz,H'[s.H.length]?=some (.loop l st pe fL T' jp gJ gw fE gz)/\st≠ .busy/\tD Φ ⟨s.T,H'.set s.H.length .gone⟩ pe)
   (λpv H'=>Φ (.panic pv) ⟨s.T,H'⟩)):aY lv P (some l0) nt (.rangeFunc f ps bM body) s Φ:=by
 intro E V a Q ah hQ;have hc:=ah.bw;obtain⟨sE,ai4,asX,ho0,KG,hT0,_⟩:=hc.x7 h0;obtain⟨_,bz,_⟩:=hc.obj FK _ h0;refine arl ho0 ai4 λfn l hl=> ?_;have hle:E.Le (E.add l V.ab):=E.qn l (λb o v h=>by rw[<- hc.I];exact h);have cP:(E.add l V.ab).blk s.H.length=l:=by rw[<- hc.n];exact E.dS l _
 have cT:Conc (E.add l V.ab) (V.upd l (.loop {state:= .ready,pending:=none,fn,tmps:=a.tmps,params:=ps,assign:=bM,body,defers:=E.blk df})) (s.H++[.loop l .ready none fn s.T nt ps bM body df]):=by
  refine hc.add hl _ ⟨⟨a.tmps, ?_,ah.size,ah.tok.mono hle⟩, ?_,λo=> ?_, ?_⟩ (λb e=> ?_)
  ·rw[Env.dS,hle.blk df bz];simp[View.upd]
  ·show df<E.n+1;omega
  ·rw[Env.dS];exact hl.2 o
  ·exact Env.dS _ _ _
  ·simp only[bN,Env.dS,Te]at e;exact e.symm
 have ajn:=ap.ev ah.tok hf;have BN:=h l fn (E.add l V.ab) (V.upd l (.loop {state:= .ready,pending:=none,fn,tmps:=a.tmps,params:=ps,assign:=bM,body,defers:=E.blk df})) (a.eval f) #[.func (.yield l) #[] #[]] cT (ajn.mono hle) ⟨rfl,λi x hx=>by
  match i,hx with
  |0,hx=>cases hx;exact .fn rfl rfl (by simp) (by simp)⟩
 have key:∀o V',gW (E.add l V.ab) (V.upd l (.loop {state:= .ready,pending:=none,fn,tmps:=a.tmps,params:=ps,assign:=bM,body,defers:=E.blk df}))
   (λ_ H'=>∃st pe fL T' jp gJ gw fE gz,H'[s.H.length]?=some (.loop l st pe fL T' jp gJ gw fE gz)/\st≠ .busy/\tD Φ ⟨s.T,H'.set s.H.length .gone⟩ pe)
   (λpv H'=>Φ (.panic pv) ⟨s.T,H'⟩) o V'->wE l Q a o V':=by
  intro o V' hr;cases o with
  |ret v=>
   obtain⟨av,E',H',hE,b8,fl,_,bc,st,pe,fL,T',jp,gJ,gw,fE,gz,ce,aQ,hp⟩:=hr;obtain⟨dG,nA,qz,bf,KF,sC,zw⟩:=bc.x7 ce;refine⟨_,bf,nA,aQ, ?_⟩;have hg:Conc E' (V'.upd l (.loop {state:= .exhausted,pending:=pe,fn:=fL,tmps:=qz,params:=gJ,assign:=gw,body:=fE,defers:=E'.blk gz})) (H'.set s.H.length .gone):=bc.C3 _ ce _ (by simp only[bN,dG]);have aR:At E' (V'.upd l (.loop {state:= .exhausted,pending:=pe,fn:=fL,tmps:=qz,params:=gJ,assign:=gw,body:=fE,defers:=E'.blk gz})) ⟨s.T,H'.set s.H.length .gone⟩ a nt:=⟨hg,ah.tok.mono (hle.trans hE),ah.size⟩;have eO:Kept E E' V (V'.upd l (.loop {state:= .exhausted,pending:=pe,fn:=fL,tmps:=qz,params:=gJ,assign:=gw,body:=fE,defers:=E'.blk gz})) a a:=⟨hle.trans hE,rfl,rfl,b8,fl⟩;dsimp only
   match pe,hp,aR,eO with
   |none,hp,aR,eO=>exact hQ .normal .normal E' _ _ _ eO aR trivial hp
   |some .ret,hp,aR,eO=>exact hQ .ret .ret E' _ _ _ eO aR trivial hp
   |some (.exit i),hp,aR,eO=>exact hQ (.exit i) (.exit i) E' _ _ _ eO aR rfl hp
   |some (.goto i),hp,aR,eO=>exact hQ (.goto i) (.goto i) E' _ _ _ eO aR rfl hp
  |panic ch=>
   obtain⟨pv,v,E',H',rfl,hE,b8,fl,bm,bc,hp⟩:=hr;exact hQ (.panic pv) (.panic _) E' V' a ⟨s.T,H'⟩ ⟨hle.trans hE,rfl,rfl,b8,fl⟩ ⟨bc,ah.tok.mono (hle.trans hE),ah.size⟩ ⟨v,rfl,bm⟩ hp
 exact BN.mono (λnx V' hn=>Nx.mono key hn) (λv V' hr=>key _ _ hr)
def wI (P:Program)(fn:Func)(R:Out->View->Prop):List Deferred->FrameMode->Array Value->View->Prop
 |[], .returning,tmps,V=>∃v,aO P V (results fn tmps) (λx V'=>x=v/\V'=V) (λ_ _=>False)/\R (.ret v) V
 |[], .panicking ch,_,V=>R (.panic ch) V
 |d::ds,md,tmps,V=>(md matches .run)=false/\∃b,d={target:= .collected b,args:=#[]}/\V.own b=some (.deferred (some []))/\V.role.chan≠some b/\wI P fn R ds md tmps (V.upd b (.deferred none))
 |[], .run,_,_=>False
theorem GY{f:FuncId}{fn:Func}{kd:CallKind}{R:Out->View->Prop}(hf:P.funcs[f]?=some fn){main:Bool}{J:View->Goroutine->Prop}(C:Closed lv P main J){cs:List Frame}(hR:∀o V' Bl,R o V'->Leaves P Bl f kd o V'->J V' (G Bl cs)):∀(ds:List Deferred)(md:FrameMode)(V:View)(fr:Frame),fr.fn=f->fr.kind=kd->fr.mode=md->fr.defers=ds->wI P fn R ds md fr.tmps V->J V (G fr cs)
 |[], .returning,V,fr,h1,h2,h3,h4,h=>by
  obtain⟨v,hs,hr⟩:=h;exact hR _ _ _ hr ⟨h1,h4,h2,fn,hf,h3,hs⟩
 |[], .panicking ch,V,fr,h1,h2,h3,h4,h=>hR _ _ _ h ⟨h1,h4,h2,fn,hf,h3⟩
 |[], .run,_,_,_,_,_,_,h=>h.elim
 |d::ds,md,V,fr,h1,h2,h3,h4,h=>by
  obtain⟨hm,b,rfl,ho,fi,hu⟩:=h;refine C.step _ _ rfl λw hw=> ?_;obtain⟨es,w',V',k1,k2,k3⟩:=(MF (P:=P) ho fi).runs hw;rcases k3 with⟨x,k3,rfl,rfl⟩|⟨_,_,hx⟩
  ·refine⟨G {fr with defers:=ds} cs,w',seen P fr.fn es,_, ?_,k1.seen P fr.fn, ?_⟩
   ·have e:∀main,stepG P main (G fr cs) w=unwind P main fr cs none w:=λmain=>by
     cases md with
     |run=>cases hm
     |returning=>simp[G,stepG,h3]
     |panicking ch=>simp[G,stepG,h3]
    rw[e];simp only[unwind,h4];simp[Tt,k3,k2,TN,G]
   ·exact GY hf C hR ds md _ {fr with defers:=ds} h1 h2 h3 rfl hu
  ·exact hx.elim
def ac4 (P:Program)(fn:Func)(R:Out->View->Prop):Ex->Act->View->Prop
 | .normal,a,V| .ret,a,V=>wI P fn R a.defers .returning a.tmps V
 | .panic ch,a,V=>wI P fn R a.defers (.panicking ch) a.tmps V
 |_,_,_=>False
theorem afp{f:FuncId}{fn:Func}{c:Code}{args:Array Value}{kd:CallKind}{V:View}{R:Out->View->Prop}(hk:kd≠ .early)(hf:P.funcs[f]?=some fn)(hb:fn.body=some c)
  (h:WP lv P none c (ac4 P fn R) {tmps:=args++TA (fn.ntmps-args.size) undef,defers:=[]} V):Body lv P f args kd V R:=by
 intro main J C cs hR;let b:Frame:={(default:Frame)with fn:=f,kind:=kd,roundOf:=none};have ub:Frame.enter P f args kd=on b {tmps:=args++TA (fn.ntmps-args.size) undef,defers:=[]} [.code c]:=by
  simp[Frame.enter,on,hf,hb,b]
 rw[ub];refine h main J C b [] cs hk rfl λe a' V' q=> ?_;cases e with
 |normal=>exact C.idle rfl (λw=>CZ rfl) (GY hf C hR _ _ _ _ rfl rfl rfl rfl q)
 |ret=>intro k;exact C.idle rfl (λw=>C0 rfl) (GY hf C hR _ _ _ _ rfl rfl rfl rfl q)
 |panic ch=>intro todo _;exact GY hf C hR _ _ _ _ rfl rfl rfl rfl q
 |exit id=>exact q.elim
 |goto l=>exact q.elim
def iN:List Nat->List aa->Option (List aa)
 |[],H=>some H
 |i::ms,H=>match H[i]?with
  |some (.obj (.deferred (some [])))=>iN ms (H.set i .gone)
  |_=>none
def r6 (P:Program)(rs:List ResultVar)(n:Nat)(k kp:AV->List aa->Prop):ao->AS->List Nat->Prop
 | .normal,s,ms| .ret,s,ms=>an (iN ms s.H) λH'=>an (hZ P ⟨s.T,H'⟩ rs) λl=>cy n H' (iY l) k
 | .panic pv,s,ms=>an (iN ms s.H) λH'=>cy n H' pv kp
 |_,_,_=>False
theorem MY{fn:Func}{R:Out->View->Prop}{tmps:Array Value}{md:FrameMode}(hm:(md matches .run)=false):∀(ms:List Nat)(H H':List aa)(E:Env)(V:View)(l:List Deferred),iN ms H=some H'->Conc E V H->Marks E ms l->(∀V',V'.role=V.role->V'.deaf=V.deaf->Conc E V' H'->wI P fn R [] md tmps V')->wI P fn R l md tmps V
 |[],H,H',E,V,l,hg,hc,rn,hk=>by
  cases hg;have:l=[]:=rn.1;subst this;exact hk V rfl rfl hc
 |i::ms,H,H',E,V,l,hg,hc,rn,hk=>by
  simp only[iN]at hg;split at hg
  ·rename_i hi;obtain⟨e,hlt⟩:=rn;simp only[UE]at e;subst e;obtain⟨p1,p2,p3,p4⟩:=hc.obj i _ hi;exact⟨hm,_,rfl,p1,(hc.jo hi rfl).2,MY hm ms _ H' E _ _ hg (hc.C3 _ hi _ rfl) ⟨rfl,λj hj=>hlt j (by simp[hj])⟩ λV' h1 h2 h3=>hk V' h1 h2 h3⟩
  ·cases hg
theorem Ps{f:FuncId}{fn:Func}{c:Code}{rs:List ResultVar}{nt:Nat}{H:List aa}{args:List AV}{k kp:AV->List aa->Prop}(hf:P.funcs[f]?=some fn)(hb:fn.body=some c)(hr:fn.results=rs.toArray)(hn:fn.ntmps=nt)(cO:args.length<=nt)
  (h:bL H->(∀a∈args,Lt H.length a)->mB lv P nt c ⟨bp 0 args,H⟩ [] (r6 P rs H.length k kp)):bi lv P f H args k kp:=by
 intro E V vs hc hd;have hlt:∀a∈args,Lt H.length a:=λa ha=>by
  obtain⟨i,hi⟩:=pw ha;rw[<- hc.n];exact(hd.2 i a hi).lt
 have ah:=A5 (nt:=nt) hc hd cO;refine afp (by simp) hf hb ?_;rw[hn];refine h hc.ay hlt E V _ _ ah ⟨rfl,by simp⟩ λae e E' V' a' s' cH hk aR gh he hΦ=> ?_;have fin:r6 P rs H.length k kp .ret s' cH->wI P fn (gW E V k kp) a'.defers .returning a'.tmps V':=λhΦ=>by
  obtain⟨H',hg,hΦ⟩:=an.out hΦ;exact MY rfl cH _ H' E' V' _ hg aR.bw gh λaU h1 h2 h3=>abm (s':=⟨s'.T,H'⟩) (a':=a') hr ⟨h3,aR.tok,aR.size⟩ hk.le hc.n (h1.trans hk.role) (h2.trans hk.deaf) hΦ
 cases ae<;>cases e<;>first
  |exact he.elim
  |exact fin hΦ
  |exact hΦ.elim
  |skip
 rename_i pv ch;obtain⟨v,fi,bm⟩:∃v,ch=[{v,recovered:=false}]/\ap E' pv v:=he;subst fi;obtain⟨H',hg,hΦ⟩:=an.out hΦ;refine MY rfl cH _ H' E' V' _ hg aR.bw gh λaU h1 h2 h3=> ?_;obtain⟨b,bR,tw,r1,r2,r3,r4⟩:=wW hΦ h3 bm hk.le hc.n;exact⟨b,v,bR,tw,rfl,r1,h1.trans hk.role,h2.trans hk.deaf,r2,r3,r4⟩
end
def Env.frame (E:Env)(f:Nat->Option Obj):Env:={E with fr:=f}
theorem ap.frame{E:Env}{a:AV}{v:Value}(h:ap E a v)(f:Nat->Option Obj):ap (E.frame f) a v:=by
 induction h with
 |val x=>exact .val x
 |agg hs _ ih=>exact .agg hs ih
 |aK hs _ ih=>exact .aK hs ih
 |sl b o cap g hc he h1 _ ih=>exact .sl b o cap g hc (by cases kj:‹End›<;>(subst kj;exact he)) h1 ih
 |nil he=>exact .nil (by cases kj:‹End›<;>(subst kj;exact he))
 |bJ hi ec=>exact .bJ (E:=E.frame f) hi ec
 |rp b o g h1 _ ih=>exact .rp b o g h1 ih
 |op hi=>exact .op (E:=E.frame f) hi
 |fn dW fA _ _ mT ln=>exact .fn dW fA mT ln
 |c_ _ ih=>exact .c_ ih
 |mp hi=>exact .mp (E:=E.frame f) hi
theorem cL.frame{E:Env}{l:List AV}{cs:Array Value}(h:cL E l cs)(f:Nat->Option Obj):cL (E.frame f) l cs:=⟨h.1,λi a e=>(h.2 i a e).frame f⟩
theorem j5.frame{E:Env}{l:List AV}{cs:Array Value}(h:j5 E l cs)(f:Nat->Option Obj):j5 (E.frame f) l cs:=⟨h.1,λi a e=>(h.2 i a e).frame f⟩
theorem cj.frame{E:Env}{T:List (Nat×AV)}{tmps:Array Value}(h:cj E T tmps)(f:Nat->Option Obj):cj (E.frame f) T tmps:=λt a e=>⟨(h t a e).1,(h t a e).2.frame f⟩
theorem u7(E:Env)(f:Nat->Option Obj)(k:Nat)(x:aa):bN (E.frame f) k x=bN E k x:=by cases x<;>rfl
theorem fX.frame{E:Env}{V:View}{k:Nat}{x:aa}(h:fX E V k x)(f:Nat->Option Obj):fX (E.frame f) V k x:=by
 cases x with
 |cells l el=>obtain⟨⟨cs,h1,h2⟩,h3⟩:=h;exact⟨⟨cs,h1,h2.frame f⟩,h3⟩
 |part p l el=>obtain⟨⟨cs,h1,h2,h4⟩,h3⟩:=h;exact⟨⟨cs,h1,h2.frame f,h4⟩,h3⟩
 |own sz l el=>obtain⟨⟨cs,h1,h2,h4⟩,h3⟩:=h;exact⟨⟨cs,h1,h2.frame f,h4⟩,h3⟩
 |tail n sz el=>exact h
 |obj x=>exact h
 |iter=>exact h
 |loop=>obtain⟨⟨tmps,h1,h2,h3⟩,h4,h5⟩:=h;exact⟨⟨tmps,h1,h2,h3.frame f⟩,h4,h5⟩
 |gone=>trivial
 |main=>exact h
theorem Conc.xV{E:Env}{V V':View}{H:List aa}(h:Conc E V H)(f:Nat->Option Obj)(hI:V'.ab=V.ab)
  (ho:∀b x k y,H[k]?=some y->bN E k y=some b->V.own b=some x->V'.own b=some x)
  (hg:∀g,V'.role.group=some g->V'.own g≠none/\(∀o,V'.ab g o=none)/\∀(k:Nat) x,H[k]?=some x->bN E k x≠some g)
  (hc:∀g,V'.role.chan=some g->V'.own g≠none/\(∀o,V'.ab g o=none)/\∀(k:Nat) x,H[k]?=some x->bN E k x≠some g)
  (ht:E.main=true->V'.role= .plain/\V'.deaf=0) (hf:∀b y,f b=some y->V'.own b=some y/\(∀o,V'.ab b o=none)/\∀(k:Nat) x,H[k]?=some x->bN E k x≠some b):Conc (E.frame f) V' H:=by
 have hlt:∀(k:Nat) y,H[k]?=some y->k<E.n:=λk y e=>by rw[h.n];exact(SM.1 e).1
 refine⟨by rw[hI];exact h.I,h.n,λk x e=>fX.frame ((h.obj k x e).mono (Env.Le.refl E) (hlt k x e) rfl (λb y hb hy=>ho b y k x e hb hy) (λb _ o=>by rw[hI])) f,λi j x y b h1 h2 h3 h4=> ?_,λg e=> ?_,λg e=> ?_,ht,λb y e=> ?_⟩
 ·rw[u7]at h3 h4;exact h.inj i j x y b h1 h2 h3 h4
 ·obtain⟨a,b,c⟩:=hg g e;exact⟨a,b,λk x e=>by rw[u7];exact c k x e⟩
 ·obtain⟨a,b,c⟩:=hc g e;exact⟨a,b,λk x e=>by rw[u7];exact c k x e⟩
 ·obtain⟨a,b',c⟩:=hf b y e;exact⟨a,b',λk x e=>by rw[u7];exact c k x e⟩
theorem Conc.CN{E:Env}{V:View}{H:List aa}(h:Conc E V H){b:Nat}{x:Obj}(hb:E.fr b=some x){k:Nat}{y:aa}(hk:H[k]?=some y){b':Nat}(dG:bN E k y=some b'):b'≠b:=λe=>by subst e;exact(h.fr _ x hb).2.2 k y hk dG
theorem Conc.ain{E:Env}{V:View}{H:List aa}(h:Conc E V H){b:Nat}{x:Obj}(hb:E.fr b=some x)(y:Obj):Conc (E.frame λb'=>if b'=b then some y else E.fr b') (V.upd b y) H:=by
 obtain⟨p1,p2,p3⟩:=h.fr b x hb;refine h.xV _ rfl (λb' z k w hk kF hz=> ?_) (λg hg=> ?_) (λg hg=> ?_) h.top (λb' z hz=> ?_)
 ·have:b'≠b:=h.CN hb hk kF;simpa[View.upd,this]using hz
 ·obtain⟨q1,q2,q3⟩:=h.group g hg;refine⟨?_,q2,q3⟩;simp only[View.upd];split
  ·simp
  ·exact q1
 ·obtain⟨q1,q2,q3⟩:=h.chan g hg;refine⟨?_,q2,q3⟩;simp only[View.upd];split
  ·simp
  ·exact q1
 ·by_cases e:b'=b
  ·subst e;rw[if_pos rfl]at hz;cases hz;exact⟨by simp[View.upd],p2,p3⟩
  ·rw[if_neg e]at hz;obtain⟨q1,q2,q3⟩:=h.fr b' z hz;exact⟨by simpa[View.upd,e]using q1,q2,q3⟩
theorem Conc.ail{E:Env}{V:View}{H:List aa}(h:Conc E V H){b:Nat}(hb:V.fresh b)(y:Obj):Conc (E.frame λb'=>if b'=b then some y else E.fr b') (V.upd b y) H:=by
 have aE:∀(k:Nat) x,H[k]?=some x->bN E k x≠some b:=λk x hk e=>by
  obtain⟨z,hz⟩:=(h.obj k x hk).A7 e;rw[hb.1]at hz;cases hz
 refine h.xV _ rfl (λb' z k w hk kF hz=> ?_) (λg hg=> ?_) (λg hg=> ?_) h.top (λb' z hz=> ?_)
 ·have:b'≠b:=λe=>by subst e;exact aE k w hk kF
  simpa[View.upd,this]using hz
 ·obtain⟨q1,q2,q3⟩:=h.group g hg;refine⟨?_,q2,q3⟩;simp only[View.upd];split
  ·simp
  ·exact q1
 ·obtain⟨q1,q2,q3⟩:=h.chan g hg;refine⟨?_,q2,q3⟩;simp only[View.upd];split
  ·simp
  ·exact q1
 ·by_cases e:b'=b
  ·subst e;rw[if_pos rfl]at hz;cases hz;exact⟨by simp[View.upd],hb.2,aE⟩
  ·rw[if_neg e]at hz;obtain⟨q1,q2,q3⟩:=h.fr b' z hz;exact⟨by simpa[View.upd,e]using q1,q2,q3⟩
theorem Conc.aim{E:Env}{V:View}{H:List aa}(h:Conc E V H){id:Nat}{l:List AV}{el:TypeId}(hk:H[id]?=some (.cells l el)):∃cs,cL E l cs/\V.own (E.blk id)=some (.cells cs el (0,0))/\(∀o,V.ab (E.blk id) o=none)/\
  Conc (E.frame λb'=>if b'=E.blk id then some (.cells cs el (0,0))else E.fr b') V (H.set id .gone):=by
 obtain⟨⟨cs,h1,h2⟩,h3⟩:=h.obj id _ hk;refine⟨cs,h2,h1,h3, ?_⟩;have hg:Conc E V (H.set id .gone):=by
  refine h.i_ id .gone (Env.Le.refl E) h.I (by simpa using h.n) lS rfl (λ_ _ _=>rfl) (λb y _ hy=>⟨hy,λ_=>rfl⟩) trivial (λb e=>by cases e)
 have aE:∀(k:Nat) x,(H.set id .gone)[k]?=some x->bN E k x≠some (E.blk id):=λk x hx e=>by
  rcases lS k x hx with⟨rfl,rfl⟩|⟨aE,hx⟩
  ·cases e
  ·exact aE (h.inj k id x _ _ hx hk e rfl)
 refine hg.xV _ rfl (λ_ _ _ _ _ _ hz=>hz) hg.group hg.chan h.top (λb' z hz=> ?_);by_cases e:b'=E.blk id
 ·subst e;rw[if_pos rfl]at hz;cases hz;exact⟨h1,h3,aE⟩
 ·rw[if_neg e]at hz;exact hg.fr b' z hz
theorem Conc.Gt{E:Env}{V:View}{H:List aa}(h:Conc E V H){id:Nat}{l:List AV}{el:TypeId}(hk:H[id]?=some (.cells l el))(p:Nat)(hp:p<=l.length):∃V',ep V V'/\V'.own=V.own/\V'.role=V.role/\V'.deaf=V.deaf/\E.Le {E with I:=V'.ab}/\Conc {E with I:=V'.ab} V' (H.set id (.part p l el))/\
  ap {E with I:=V'.ab} (.rp (l.take p)) (.pointer (some ⟨E.blk id,0,none⟩)):=by
 obtain⟨⟨cs,h1,h2⟩,h3⟩:=h.obj id _ hk;let V':=V.iw (E.blk id) cs λo=>decide (o<p);have nE:∀b o,b≠E.blk id->V'.ab b o=V.ab b o:=λb o hb=>by simp[V',View.iw,hb]
 have cw:∀o,o<p->V'.ab (E.blk id) o=cs[o]?:=λo ho=>by simp[V',View.iw,ho]
 have aj7:∀o,p<=o->V'.ab (E.blk id) o=none:=λo ho=>by simp[V',View.iw,Nat.not_lt.2 ho,h3]
 have hle:E.Le {E with I:=V'.ab}:=⟨λb o v e=>by
  rw[h.I]at e;have hb:b≠E.blk id:=λhb=>by subst hb;rw[h3]at e;cases e
  show V'.ab b o=some v;rw[nE b o hb];exact e,SO _,λ_ _=>rfl,λ_ _=>SO _,λ_ _ _ _=>rfl,rfl,rfl⟩
 refine⟨V',yL h1 (λo _=>h3 o),rfl,rfl,rfl,hle, ?_, ?_⟩
 ·refine h.i_ (E':={E with I:=V'.ab}) id (.part p l el) hle rfl (by simpa using h.n) lS rfl (λ_ _ _=>rfl) (λb y hb hy=>⟨hy,λo=>nE b o λe=>hb _ hk (by rw[e];rfl)⟩) ⟨⟨cs,h1,(h2.mono hle).p,cw⟩,aj7⟩ (λb e=> .inl ⟨_,hk,e⟩)
 ·refine .rp (E.blk id) 0 (λi=>cs.getD i undef) (λi hi=> ?_) λi x hx=> ?_
  ·have cF:i<p:=(by simp at hi;omega);rw[VK];show V'.ab (E.blk id) i=_;rw[cw i cF];have:i<cs.size:=(by have:=h2.1;omega);simp[SH,SJ this]
  ·rw[TY]at hx;split at hx
   ·exact(h2.2 i x hx).mono hle
   ·cases hx
theorem Conc.alM{E:Env}{V V':View}{H:List aa}(h:Conc E V H)(ho:V'.own=V.own)(nE:∀b o v,V.ab b o=some v->V'.ab b o=some v)(jj:∀b o,V.own b≠none->V.ab b o=none->V'.ab b o=none)
  (hg:V'.role.group=none) (hc:V'.role.chan=none) (ht:E.main=true->V'.role= .plain/\V'.deaf=0):E.Le {E with I:=V'.ab}/\Conc {E with I:=V'.ab} V' H:=by
 have hle:E.Le {E with I:=V'.ab}:=⟨λb o v e=>by rw[h.I]at e;exact nE b o v e,SO _,λ_ _=>rfl,λ_ _=>SO _,λ_ _ _ _=>rfl,rfl,rfl⟩;have hlt:∀(k:Nat) y,H[k]?=some y->k<E.n:=λk y e=>by rw[h.n];exact(SM.1 e).1
 have key:∀b o,V.own b≠none->V'.ab b o=V.ab b o:=λb o hb=>by
  cases e:V.ab b o with
  |none=>exact jj b o hb e
  |some v=>exact nE b o v e
 refine⟨hle,rfl,h.n,λk x e=>(h.obj k x e).mono hle (hlt k x e) rfl (λb y _ hy=>by rw[ho];exact hy) (λb hb o=> ?_),h.inj,λg e=>(by rw[hg]at e;cases e),λg e=>(by rw[hc]at e;cases e),ht,λb y e=> ?_⟩
 ·obtain⟨y,hy⟩:=(h.obj k x e).A7 hb;exact key b o (by rw[hy];simp)
 ·obtain⟨q1,q2,q3⟩:=h.fr b y e;exact⟨by rw[ho];exact q1,λo=>by rw[key b o (by rw[q1];simp)];exact q2 o,q3⟩
section
variable {lv:Bool}{P:Program}{nt id:Nat}{ops:Array Oper}{s:AS}{E:Env}{V:View}{a:Act}{Q:Ex->Act->View->Prop}{K:AS->Prop}
theorem G4(n m:Nat)(hn:ops.size=n+m)(dn:jS nt ops=true)(ah:At E V s a nt)(h:iy lv P ops (ops.toList.take n) s K (λ_ _=>False))
  (hk:∀E' V' a' s',Kept E E' V V' a a'->At E' V' s' a' nt->K s'->dj lv P none ops Q (TU n m) a' V'):WP lv P none (.region id ops false) Q a V:=by
 refine wp_region ?_;have hr:SX ops.size=TU 0 n++TU n m:=by
  have:=Yi (s:=0) (m:=n) (n:=m);rw[UX,hn,<- this];simp
 rw[hr];refine Ap _ _ _ (Gd (r:=none) (Φ:=λe s'=>match e with
  | .normal=>K s'
  |_=>False) (λo ho d e=>(jS.out dn ho).1 d e) rfl n 0 s (by omega) (by simpa using h) E V a _ ah λae e E' V' a' s' aI aR he hΦ=> ?_)
 cases ae<;>cases e<;>first
  |exact he.elim
  |exact hΦ.elim
  |exact hk E' V' a' s' aI aR hΦ
theorem Na{n:Nat}{o:Oper}(ho:ops[n]?=some o)(hg:o.guard=none)(h:uU lv P o a V λa' V'=>Q .normal a' V'):dj lv P none ops Q (TU n 1) a V:=by
 simp only[List.range'_one,dj,ho];rw[if_pos (by unfold Tf;rw[hg])];exact .inr h
end
section
variable {lv main:Bool}{P:Program}{J:View->Goroutine->Prop}
theorem acM(C:Closed lv P main J){V:View}{fr:Frame}{cs:List Frame}{g:FuncId}{ca aD:Array Value}{ds:List Deferred}(hd:fr.defers=⟨.fn (.func g) ca,aD⟩::ds)(hm:(fr.mode matches .run)=false)(hg:qA P g=true)
  (h:J V (G (Frame.enter P g (aD++ca) .deferred) ({fr with defers:=ds}::cs))):J V (G fr cs):=by
 refine C.step _ _ rfl λw hw=> ?_;have hs:aO P V (invoke (.fn (.func g) ca) aD) (λnx V'=>nx= .enter g (aD++ca)/\V'=V) (λ_ _=>False):=by
  unfold invoke;exact MB hg ⟨rfl,rfl⟩
 obtain⟨es,w',V',k1,k2,k3⟩:=hs.runs hw;rcases k3 with⟨nx,k3,rfl,rfl⟩|⟨_,_,h⟩
 ·refine⟨G (Frame.enter P g (aD++ca) .deferred) ({fr with defers:=ds}::cs),w',seen P fr.fn es,V', ?_,k1.seen P fr.fn,h⟩;have e:stepG P main (G fr cs) w=unwind P main fr cs none w:=by
   obtain⟨fn,tmps,todo,defers,mode,kind,ro⟩:=fr;cases mode with
   |run=>cases hm
   |returning=>simp[G,stepG]
   |panicking ch=>simp[G,stepG]
  rw[e];simp only[unwind,hd];simp[callDeferred,Tt,k3,k2,TN,G]
 ·exact h.elim
theorem agq(C:Closed lv P main J){f:FuncId}{fn:Func}{c:Code}{args:Array Value}{kd:CallKind}{V:View}{cs:List Frame}{Q:Act->View->Prop}(hk:kd≠ .early)(hf:P.funcs[f]?=some fn)(hb:fn.body=some c)
  (h:WP lv P none c (λe a V=>(match e with| .normal| .ret=>True|_=>False)/\Q a V) {tmps:=args++TA (fn.ntmps-args.size) undef,defers:=[]} V)
  (hQ:∀a V todo,Q a V->J V (G {fn:=f,tmps:=a.tmps,todo,defers:=a.defers,mode:= .returning,kind:=kd,roundOf:=none} cs)):J V (G (Frame.enter P f args kd) cs):=by
 let b:Frame:={(default:Frame)with fn:=f,kind:=kd,roundOf:=none};have ub:Frame.enter P f args kd=on b {tmps:=args++TA (fn.ntmps-args.size) undef,defers:=[]} [.code c]:=by
  simp[Frame.enter,on,hf,hb,b]
 rw[ub];refine h main J C b [] cs hk rfl λe a' V' q=> ?_;cases e with
 |normal=>exact C.idle rfl (λw=>CZ rfl) (hQ a' V' [] q.2)
 |ret=>intro k;exact C.idle rfl (λw=>C0 rfl) (hQ a' V' (.code .ret::k) q.2)
 |panic ch=>exact q.1.elim
 |exit id=>exact q.1.elim
 |goto l=>exact q.1.elim
end
def Env.fC (E:Env)(m:Bool):Env:={E with main:=m}
theorem ap.fC{E:Env}{a:AV}{v:Value}(h:ap E a v)(m:Bool):ap (E.fC m) a v:=by
 induction h with
 |val x=>exact .val x
 |agg hs _ ih=>exact .agg hs ih
 |aK hs _ ih=>exact .aK hs ih
 |sl b o cap g hc he h1 _ ih=>exact .sl b o cap g hc (by cases kj:‹End›<;>(subst kj;exact he)) h1 ih
 |nil he=>exact .nil (by cases kj:‹End›<;>(subst kj;exact he))
 |bJ hi ec=>exact .bJ (E:=E.fC m) hi ec
 |rp b o g h1 _ ih=>exact .rp b o g h1 ih
 |op hi=>exact .op (E:=E.fC m) hi
 |fn dW fA _ _ mT ln=>exact .fn dW fA mT ln
 |c_ _ ih=>exact .c_ ih
 |mp hi=>exact .mp (E:=E.fC m) hi
theorem cL.fC{E:Env}{l:List AV}{cs:Array Value}(h:cL E l cs)(m:Bool):cL (E.fC m) l cs:=⟨h.1,λi a e=>(h.2 i a e).fC m⟩
theorem j5.fC{E:Env}{l:List AV}{cs:Array Value}(h:j5 E l cs)(m:Bool):j5 (E.fC m) l cs:=⟨h.1,λi a e=>(h.2 i a e).fC m⟩
theorem cj.fC{E:Env}{T:List (Nat×AV)}{tmps:Array Value}(h:cj E T tmps)(m:Bool):cj (E.fC m) T tmps:=λt a e=>⟨(h t a e).1,(h t a e).2.fC m⟩
theorem u9(E:Env)(m:Bool)(k:Nat)(x:aa):bN (E.fC m) k x=bN E k x:=by cases x<;>rfl
theorem fX.fC{E:Env}{V:View}{k:Nat}{x:aa}(h:fX E V k x)(m:Bool)(hm:x= .main->m=true):fX (E.fC m) V k x:=by
 cases x with
 |cells l el=>obtain⟨⟨cs,h1,h2⟩,h3⟩:=h;exact⟨⟨cs,h1,h2.fC m⟩,h3⟩
 |part p l el=>obtain⟨⟨cs,h1,h2,h4⟩,h3⟩:=h;exact⟨⟨cs,h1,h2.fC m,h4⟩,h3⟩
 |own sz l el=>obtain⟨⟨cs,h1,h2,h4⟩,h3⟩:=h;exact⟨⟨cs,h1,h2.fC m,h4⟩,h3⟩
 |tail n sz el=>exact h
 |obj x=>exact h
 |iter=>exact h
 |loop=>obtain⟨⟨tmps,h1,h2,h3⟩,h4,h5⟩:=h;exact⟨⟨tmps,h1,h2,h3.fC m⟩,h4,h5⟩
 |gone=>trivial
 |main=>exact hm rfl
def strip:aa->aa
 | .main=> .gone
 |x=>x
theorem tJ(E:Env)(k:Nat)(x:aa):bN E k (strip x)=bN E k x:=by cases x<;>rfl
theorem Conc.afS{E:Env}{V:View}{H:List aa}(h:Conc E V H):Conc (E.fC false) V (H.map strip):=by
 have get:∀(k:Nat) y,(H.map strip)[k]?=some y->∃x,H[k]?=some x/\strip x=y:=λk y e=>by
  rw[Ti]at e;obtain⟨x,e1,e2⟩:=Tl.1 e;exact⟨x,e1,e2⟩
 refine⟨h.I,by rw[Tj];exact h.n,λk y e=> ?_,λi j x y b h1 h2 h3 h4=> ?_,λg hg=> ?_,λg hg=> ?_,(λe=>by cases e),λb y e=> ?_⟩
 ·obtain⟨x,hx,rfl⟩:=get k y e;have lJ:=h.obj k x hx;cases x<;>first
   |exact fX.fC lJ false (λe=>by cases e)
   |exact True.intro
 ·obtain⟨x',hx,rfl⟩:=get i x h1;obtain⟨y',hy,rfl⟩:=get j y h2;rw[u9,tJ]at h3 h4;exact h.inj i j x' y' b hx hy h3 h4
 ·obtain⟨a,b,c⟩:=h.group g hg;exact⟨a,b,λk y e=>by obtain⟨x,hx,rfl⟩:=get k y e;rw[u9,tJ];exact c k x hx⟩
 ·obtain⟨a,b,c⟩:=h.chan g hg;exact⟨a,b,λk y e=>by obtain⟨x,hx,rfl⟩:=get k y e;rw[u9,tJ];exact c k x hx⟩
 ·obtain⟨a,b',c⟩:=h.fr b y e;exact⟨a,b',λk y e=>by obtain⟨x,hx,rfl⟩:=get k y e;rw[u9,tJ];exact c k x hx⟩
theorem Conc.aov{E:Env}{V:View}{H:List aa}(h:Conc E V (H.map strip))(m:Bool)(f:Nat->Option Obj)(hm:∀(k:Nat),H[k]?=some aa.main->m=true)(ht:m=true->V.role= .plain/\V.deaf=0)(hf:∀b y,f b=some y->E.fr b=some y):Conc ((E.fC m).frame f) V H:=by
 have get:∀(k:Nat) x,H[k]?=some x->(H.map strip)[k]?=some (strip x):=λk x e=>by rw[Ti,e];rfl
 refine⟨h.I,h.n.trans (by rw[Tj]),λk x e=>fX.frame ?_ f,λi j x y b h1 h2 h3 h4=> ?_,λg hg=> ?_,λg hg=> ?_,ht,λb y e=> ?_⟩
 ·have lJ:=h.obj k _ (get k x e);cases x<;>first
   |exact fX.fC lJ m (λe=>by cases e)
   |exact hm k e
 ·rw[u7,u9]at h3 h4;exact h.inj i j _ _ b (get i x h1) (get j y h2) (by rw[tJ];exact h3) (by rw[tJ];exact h4)
 ·obtain⟨a,b,c⟩:=h.group g hg;exact⟨a,b,λk x e=>by rw[u7,u9,<- tJ];exact c k _ (get k x e)⟩
 ·obtain⟨a,b,c⟩:=h.chan g hg;exact⟨a,b,λk x e=>by rw[u7,u9,<- tJ];exact c k _ (get k x e)⟩
 ·obtain⟨a,b',c⟩:=h.fr b y (hf b y e);exact⟨a,b',λk x e=>by rw[u7,u9,<- tJ];exact c k _ (get k x e)⟩
section
variable {lv:Bool}{P:Program}{nt id:Nat}{ops:Array Oper}{s:AS}{E:Env}{V:View}{a:Act}{Q:Ex->Act->View->Prop}{N:Act->View->Prop}{o:Oper}
theorem acV(ho:ops[0]?=some o)(hg:o.guard=none)(h:AH lv P none o a V (dj lv P none ops Q (TU 1 (ops.size-1))) Q):WP lv P none (.region id ops false) Q a V:=by
 refine wp_region ?_;have aW:0<ops.size:=(SP.1 ho).1;have Kx:SX ops.size=0::TU 1 (ops.size-1):=by
  rw[UX];obtain⟨n,hn⟩:∃n,ops.size=n+1:=⟨ops.size-1,by omega⟩;rw[hn,Vu];rfl
 rw[Kx];simp only[dj,ho];rw[if_pos (by unfold Tf;rw[hg])];exact h
theorem arn{k n:Nat}(ho:ops[k]?=some o)(hg:o.guard=none)(h:AH lv P none o a V (dj lv P none ops Q (TU (k+1) n)) Q):dj lv P none ops Q (TU k (n+1)) a V:=by
 rw[Vu];simp only[dj,ho];rw[if_pos (by unfold Tf;rw[hg])];exact h
theorem aro{k:Nat}(h:Q .normal a V):dj lv P none ops Q (TU k 0) a V:=h
theorem Nb{k n:Nat}(s3:AS)(hk:k+n=ops.size)(dn:jS nt ops=true)(ah:At E V s a nt)(h:iy lv P ops (ops.toList.drop k) s (λs'=>s'.Sub s3) (λ_ _=>False))(hQ:∀E' V' a',Kept E E' V V' a a'->At E' V' s3 a' nt->Q .normal a' V'):dj lv P none ops Q (TU k n) a V:=by
 refine zS (r:=none) (Φ:=λe s'=>match e with
  | .normal=>s'.Sub s3
  |_=>False) (λo ho d e=>(jS.out dn ho).1 d e) (λ_ _=> .inl rfl) n k s hk h E V a Q ah λae e E' V' a' s' aI aR he hΦ=> ?_
 cases ae<;>cases e<;>first
  |exact he.elim
  |exact hΦ.elim
  |exact hQ E' V' a' aI (aR.sub hΦ)
theorem am6{c:Call}{f:FuncId}(au:o.op= .call c)(aX:c.callee= .value (.func f))(hf:qA P f=true)(h:Body lv P f (c.args.map a.eval) .normal V (fun
  | .ret v,V'=>N (a.put o.dst v) V'
  | .panic _,_=>False)):AH lv P none o a V N Q:=by
 refine .inl ⟨.inl rfl, ?_⟩;unfold execOp;rw[au];dsimp only;unfold resolve;rw[aX];dsimp only;have e:a.eval (.func f)= .func (.func f) #[] #[]:=rfl;rw[e];unfold UI;refine az (aq ?_);unfold invoke;dsimp only;refine MB hf ?_;have e2:#[]++c.args.map a.eval++#[]=c.args.map a.eval:=by simp
 rw[e2];exact h.mono λo V' hx=>by
  cases o with
  |ret v=>exact hx
  |panic ch=>exact hx.elim
theorem am7{t el:TypeId}{d:ChanDir}{i:TypeInfo}(au:o.op= .makeChan t (.const (.int .i64 0)))(h1:P.underlying t=some (.chan d el))(h2:P.info? el=some i)(h:∀c,V.fresh c->N (a.put o.dst (.chan (some c))) (V.upd c (.chan 0 #[] false 0 0 false))):AH lv P none o a V N Q:=by
 refine .inl ⟨.inl rfl, ?_⟩;unfold execOp;rw[au];dsimp only;have e:a.eval (.const (.int .i64 0))= .int .i64 0:=rfl;rw[e];unfold Instr.makeChan;refine az (az ?_);unfold asInt;refine aq ?_;refine eE h1 ?_;dsimp only;refine x6 h2 ?_;rw[if_neg (by simp[IntKind.max,ZL,ZK])];refine az ?_;unfold newObj;exact oH λc hf=>cK (aq (aq (h c hf)))
end
theorem arm{lv:Bool}{P:Program}{r:Option Nat}{code:Code}{Q:Ex->Act->View->Prop}{a:Act}{V:View}{c Wg:Nat}(sM:lv=true)(hr:V.role= .plain)(aE:c≠Wg)(hc:V.own c=some (.chan 0 #[] false 0 0 false)) (hW:V.own Wg≠none) (oi:∀o,V.ab Wg o=none)
  (h:WP lv P r code Q a {V with role:= .fork c Wg []}):WP lv P r code Q a V:=λmain J C b k cs hb b8 hL=>
 (C.more sM).start _ _ c Wg hr aE hc hW oi (h main J C b k cs hb b8 hL)
structure Env.Lo (E E':Env):Prop where
 I:∀b o v,E.I b o=some v->E'.I b o=some v
 n:E.n<=E'.n
 blk:∀k,k<E.n->E'.blk k=E.blk k
 fK:∀k,k<E.n->E.fK k<=E'.fK k
 room:∀k v,k<E.n->v<=E.fK k->E'.room k v=E.room k v
theorem Env.Le.lo{E E':Env}(h:E.Le E'):E.Lo E':=⟨h.I,h.n,h.blk,h.fK,h.room⟩
theorem Env.Lo.refl(E:Env):E.Lo E:=(Env.Le.refl E).lo
theorem Env.Lo.trans{E E' bR:Env}(h:E.Lo E')(k:E'.Lo bR):E.Lo bR:=
 ⟨λb o v e=>k.I b o v (h.I b o v e),Ur h.n k.n,λi hi=>(k.blk i (Ta hi h.n)).trans (h.blk i hi),λi hi=>Ur (h.fK i hi) (k.fK i (Ta hi h.n)),
  λi v hi hv=>(k.room i v (Ta hi h.n) (Ur hv (h.fK i hi))).trans (h.room i v hi hv)⟩
theorem Env.Lo.le{E E':Env}(h:E.Lo E'):E.Le ((E'.fC E.main).frame E.fr):=⟨h.I,h.n,h.blk,h.fK,h.room,rfl,rfl⟩
theorem ap.lo{E E':Env}(h:E.Lo E'){a:AV}{v:Value}(d:ap E a v):ap E' a v:=by
 have:=((d.mono h.le).fC E'.main).frame E'.fr;exact this
theorem Env.FY(E:Env)(f:Nat->Option Obj):E.Lo (E.frame f):=⟨λ_ _ _ h=>h,SO _,λ_ _=>rfl,λ_ _=>SO _,λ_ _ _ _=>rfl⟩
theorem Env.al4(E:Env)(m:Bool):E.Lo (E.fC m):=⟨λ_ _ _ h=>h,SO _,λ_ _=>rfl,λ_ _=>SO _,λ_ _ _ _=>rfl⟩
theorem Env.Lo.cut{E E':Env}(h:E.Lo E'){n:Nat}(hn:E.n<=n):E.Lo {E' with n:=n}:=⟨h.I,hn,h.blk,h.fK,h.room⟩
def Env.bare (E:Env):Env:=((({E with n:=0}:Env).fC false).frame λ_=>none)
theorem ap.bare{E:Env}{a:AV}{v:Value}(h:ap E a v)(hl:Lt 0 a):ap E.bare a v:=((h.trim hl).fC false).frame _
theorem afI{E:Env}{I:cz}{ro:m_}(hI:E.I=I)(hg:ro.group=none)(hc:ro.chan=none):Conc E.bare {ab:=I,own:=λ_=>none,deaf:=0,role:=ro} []:=
 ⟨hI,rfl,λk x e=>(by cases e),λi j x y b h1=>(by cases h1),λg e=>(by rw[hg]at e;cases e),λg e=>(by rw[hc]at e;cases e),λe=>(by cases e),λb y e=>(by cases e)⟩
theorem At.aq9{E:Env}{V:View}{s:AS}{a:Act}{nt t id off:Nat}(h:At E V s a nt)(hl:look s.T t=some (.op id off)):a.eval (.tmp t)= .pointer (some ⟨E.blk id,off,none⟩):=by
 have hd:=(h.tok t _ hl).2;show a.tmps.getD t undef=_;generalize a.tmps.getD t undef=v at hd;cases hd;rfl
section
variable {lv:Bool}{P:Program}{s:AS}{ms:List Nat}{nt:Nat}
def ao.pM (id:Nat)(Φ:ao->AS->List Nat->Prop):ao->AS->List Nat->Prop
 | .exit i,s,ms=>if i=id then Φ .normal s ms else Φ (.exit i) s ms
 |e,s,ms=>Φ e s ms
theorem aeS{id:Nat}{c:Code}{Φ:ao->AS->List Nat->Prop}(h:mB lv P nt c s ms (ao.pM id Φ)):mB lv P nt (.block id c) s ms Φ:=by
 intro E V a Q ah hd hQ;refine wp_block (h E V a _ ah hd λae e E' V' a' s' cH hk aR cE he hΦ=> ?_);cases ae<;>cases e<;>first
  |exact he.elim
  |skip
 ·exact hQ .normal .normal E' V' a' s' cH hk aR cE trivial hΦ
 ·rename_i i j;have e:i=j:=he;subst e;by_cases ce:i=id
  ·simp only[Ex.inBlock,ce,if_true];simp only[ao.pM,ce,if_true]at hΦ;exact hQ .normal _ E' V' a' s' cH hk aR cE trivial hΦ
  ·simp only[Ex.inBlock,ce,if_false];simp only[ao.pM,ce,if_false]at hΦ;exact hQ (.exit i) _ E' V' a' s' cH hk aR cE rfl hΦ
 ·exact hQ _ _ E' V' a' s' cH hk aR cE he hΦ
 ·exact hQ _ _ E' V' a' s' cH hk aR cE he hΦ
 ·exact hQ _ _ E' V' a' s' cH hk aR cE he hΦ
def ao.uL (Φ:ao->AS->List Nat->Prop):ao->AS->List Nat->Prop
 | .goto _,_,_=>False
 |e,s,ms=>Φ e s ms
theorem aeV{c:Code}{Φ:ao->AS->List Nat->Prop}(h:mB lv P nt c s ms (ao.uL Φ)):mB lv P nt (.scope c) s ms Φ:=by
 intro E V a Q ah hd hQ;refine acW (λ_ _ _ _=>False) ⟨0,h E V a _ ah hd λae e E' V' a' s' cH hk aR cE he hΦ=> ?_⟩ λ_ _ _ _ _ _ hf=>hf.elim;cases ae<;>cases e<;>first
  |exact he.elim
  |exact hΦ.elim
  |exact hQ _ _ E' V' a' s' cH hk aR cE he hΦ
theorem afe(id:Nat)(Φ:ao->AS->List Nat->Prop)(s:AS)(ms:List Nat):ao.pM id Φ .normal s ms=Φ .normal s ms:=by rw[ao.pM];simp
theorem apQ(Φ:ao->AS->List Nat->Prop)(s:AS)(ms:List Nat):ao.uL Φ .normal s ms=Φ .normal s ms:=by rw[ao.uL];simp
theorem apS(Φ:ao->AS->List Nat->Prop)(s:AS)(ms:List Nat):ao.uL Φ .ret s ms=Φ .ret s ms:=by rw[ao.uL];simp
theorem aqw(K:AS->List Nat->Prop)(Φ:ao->AS->List Nat->Prop)(s:AS)(ms:List Nat):ao.rR K Φ .normal s ms=K s ms:=by rw[ao.rR]
theorem aqy(K:AS->List Nat->Prop)(Φ:ao->AS->List Nat->Prop)(s:AS)(ms:List Nat):ao.rR K Φ .ret s ms=Φ .ret s ms:=by rw[ao.rR];simp
@[congr] theorem ar5 {c : Code} {s s' : AS} {ms cH : List Nat} {Φ : ao -> AS -> List Nat -> Prop} (h : s = s') (hd : ms = cH) : mB lv P nt c s ms Φ = mB lv P nt c s' cH Φ := by rw [h, hd]
@[congr] theorem asV {K : AS -> List Nat -> Prop} {Φ : ao -> AS -> List Nat -> Prop} {e e' : ao} {s s' : AS} {ms cH : List Nat} (he : e = e') (h : s = s') (hd : ms = cH) : ao.rR K Φ e s ms = ao.rR K Φ e' s' cH := by rw [he, h, hd]
@[congr] theorem asS {Φ : ao -> AS -> List Nat -> Prop} {e e' : ao} {s s' : AS} {ms cH : List Nat} (he : e = e') (h : s = s') (hd : ms = cH) : ao.uL Φ e s ms = ao.uL Φ e' s' cH := by rw [he, h, hd]
@[congr] theorem asj {rs : List ResultVar} {n : Nat} {k kp : AV -> List aa -> Prop} {e e' : ao} {s s' : AS} {ms cH : List Nat} (he : e = e') (h : s = s') (hd : ms = cH) : r6 P rs n k kp e s ms = r6 P rs n k kp e' s' cH := by rw [he, h, hd]
theorem aic(rs:List ResultVar)(n:Nat)(k kp:AV->List aa->Prop)(s:AS)(ms:List Nat):r6 P rs n k kp .ret s ms=an (iN ms s.H) λH'=>an (hZ P ⟨s.T,H'⟩ rs) λl=>cy n H' (iY l) k:=by rw[r6]
theorem yN(H:List aa):iN [] H=some H:=by rw[iN]
theorem yM{i:Nat}{ms:List Nat}{H:List aa}(h:H[i]?=some (.obj (.deferred (some [])))):iN (i::ms) H=iN ms (H.set i .gone):=by rw[iN];rw[h]
attribute [seval] afe apQ apS aqw aqy aic yN
end
section
variable {lv:Bool}{P:Program}{r:Option Nat}{s:AS}
theorem OF{E:Env}{I:cz}(hI:∀b o v,E.I b o=some v->I b o=some v){n:Nat}{l:List AV}{v:Value}(h:ap E (.sl n l .exact) v):∃a,ap (E.tok I (a,n) n) (.sl n l (.opn E.n)) v:=by
 cases h with
 |sl b o cap f ec he q1 q2=>
  have EJ:cap=n:=he;subst EJ;refine⟨some ⟨b,o,none⟩, ?_⟩;have hle:=E.Lq (I:=I) hI (some ⟨b,o,none⟩,cap) cap;exact .sl b o cap f ec ⟨by simp[Env.tok],by simp[Env.tok],by simp[Env.tok]⟩ (λi hi=>hle.I _ _ _ (q1 i hi)) (λi x hx=>(q2 i x hx).mono hle)
 |nil he=>exact⟨_, .nil ⟨by simp[Env.tok],by simp[Env.tok],by simp[Env.tok];rfl⟩⟩
theorem u6{nt t n sz:Nat}{c:Code}{l:List AV}{el:TypeId}{Φ:ao->AS->Prop}(ht:look s.T t=some (.sl n l .exact))(h:aY lv P r nt c ⟨(t, .sl n l (.opn s.H.length))::s.T,s.H++[.tail n sz el]⟩ Φ):aY lv P r nt c s Φ:=λE V a Q ah hQ=>by
 obtain⟨hlt,hd⟩:=ah.tok t _ ht;obtain⟨ad,cE⟩:=OF (I:=V.ab) (λb o v h=>by rw[<- ah.bw.I];exact h) hd;obtain⟨hc,hle⟩:=ah.bw.MT (n:=n) sz el ad;refine h _ V a Q ⟨hc,λt' x hx=> ?_,ah.size⟩ λae e E' V' a' s' hk=>hQ ae e E' V' a' s' ((⟨hle,rfl,rfl,rfl,rfl⟩:Kept E _ V V a a).trans hk);simp only[look]at hx;split at hx
 ·rename_i e;subst e;cases hx;rw[<- ah.bw.n];exact⟨hlt,cE⟩
 ·exact⟨(ah.tok t' x hx).1,(ah.tok t' x hx).2.mono hle⟩
theorem OG{E:Env}{l:List AV}{cs:Array Value}{j:Nat}{a b:AV}(h:cL E l cs)(hj:l[j]?=some a)(hb:∀v,ap E a v->ap E b v):cL E (l.set j b) cs:=by
 refine⟨by rw[TF];exact h.1,λi x hx=> ?_⟩;by_cases e:i=j
 ·subst e;rw[Wv (SM.1 hj).1]at hx;cases hx;exact hb _ (h.2 i a hj)
 ·rw[TP (Ne.symm e)]at hx;exact h.2 i x hx
theorem HM{nt id j n sz:Nat}{c:Code}{l l':List AV}{el gA:TypeId}{Φ:ao->AS->Prop}(ce:s.H[id]?=some (.cells l el))(hj:l[j]?=some (.sl n l' .exact))(h:aY lv P r nt c ⟨s.T,s.H.set id (.cells (l.set j (.sl n l' (.opn s.H.length))) el)++[aa.tail n sz gA]⟩ Φ):aY lv P r nt c s Φ:=λE V a Q ah hQ=>by
 have hc:=ah.bw;obtain⟨⟨cs,jj,hd⟩,nE⟩:=hc.obj id _ ce;obtain⟨ad,cE⟩:=OF (I:=V.ab) (λb o v h=>by rw[<- hc.I];exact h) (hd.2 j _ hj);obtain⟨bc,hle⟩:=hc.MT (n:=n) sz gA ad;have hlt:=(SM.1 ce).1;have hn:(E.tok V.ab (ad,n) n).n=s.H.length+1:=by simp[Env.tok,hc.n]
 have e:s.H.set id (.cells (l.set j (.sl n l' (.opn s.H.length))) el)++[aa.tail n sz gA]=(s.H++[aa.tail n sz gA]).set id (.cells (l.set j (.sl n l' (.opn s.H.length))) el):=(WQ _ _ hlt).symm;rw[e]at h;have EM:cL (E.tok V.ab (ad,n) n) (l.set j (.sl n l' (.opn s.H.length))) cs:=by
  have h0:=hd.mono hle;refine⟨by rw[TF];exact h0.1,λi x hx=> ?_⟩;by_cases ei:i=j
  ·subst ei;rw[Wv (SM.1 hj).1]at hx;cases hx;rw[<- hc.n];exact cE
  ·rw[TP (Ne.symm ei)]at hx;exact h0.2 i x hx
 have hb:(E.tok V.ab (ad,n) n).blk id=E.blk id:=hle.blk id (by rw[hc.n];exact hlt);have cT:Conc (E.tok V.ab (ad,n) n) V ((s.H++[aa.tail n sz gA]).set id (.cells (l.set j (.sl n l' (.opn s.H.length))) el)):=by
  have c9:(s.H++[aa.tail n sz gA])[id]?=some (.cells l el):=by rw[SY hlt];exact ce
  refine bc.i_ id _ (Env.Le.refl _) bc.I (by rw[bc.n,TF]) lS rfl (λ_ _ _=>rfl) (λb y _ hy=>⟨hy,λ_=>rfl⟩) ⟨⟨cs,by rw[hb];exact jj,EM⟩,λo=>by rw[hb];exact nE o⟩ (λb dG=> .inl ⟨_,c9,dG⟩)
 refine h _ V a Q ⟨cT,ah.tok.mono hle,ah.size⟩ λae e E' V' a' s' hk=>hQ ae e E' V' a' s' ((⟨hle,rfl,rfl,rfl,rfl⟩:Kept E _ V V a a).trans hk)
theorem aeQ{nt id j:Nat}{c:Code}{l:List AV}{x y:AV}{el:TypeId}{Φ:ao->AS->Prop}(ce:s.H[id]?=some (.cells l el))(hj:l[j]?=some x)(hw:Wk x y)(h:aY lv P r nt c ⟨s.T,s.H.set id (.cells (l.set j y) el)⟩ Φ):aY lv P r nt c s Φ:=λE V a Q ah hQ=>by
 have hc:=ah.bw;obtain⟨⟨cs,jj,hd⟩,nE⟩:=hc.obj id _ ce;have cT:Conc E V (s.H.set id (.cells (l.set j y) el)):=
  hc.i_ id _ (Env.Le.refl _) hc.I (by rw[hc.n,TF]) lS rfl (λ_ _ _=>rfl) (λb y _ hy=>⟨hy,λ_=>rfl⟩) ⟨⟨cs,jj,OG hd hj (hw E)⟩,nE⟩ (λb dG=> .inl ⟨_,ce,dG⟩)
 exact h E V a Q ⟨cT,ah.tok,ah.size⟩ hQ
end
structure wC (X Y Z:Prop):Type where
 n:Nat
def UG (a:AV)(b_:Bool)(X Y Z:Prop)(_t:wC X Y Z):Prop:=(∃b,a= .val (.bool b)/\(b=b_->X)/\(b= !b_->Y))\/(a= .val undef/\Z)
theorem GX{b b_:Bool}{X Y Z:Prop}{t:wC X Y Z}:UG (.val (.bool b)) b_ X Y Z t=((b=b_->X)/\(b= !b_->Y)):=by
 unfold UG;refine propext ⟨λh=> ?_,λh=> .inl ⟨b,rfl,h⟩⟩;rcases h with⟨b',e,h⟩|⟨e,_⟩
 ·cases e;exact h
 ·cases e
theorem aq3(X Y Z:Prop)(t:wC X Y Z):UG (.val (.bool true)) true X Y Z t=X:=by rw[GX];simp
theorem aq2(X Y Z:Prop)(t:wC X Y Z):UG (.val (.bool true)) false X Y Z t=Y:=by rw[GX];simp
theorem aq1(X Y Z:Prop)(t:wC X Y Z):UG (.val (.bool false)) true X Y Z t=Y:=by rw[GX];simp
theorem aq0(X Y Z:Prop)(t:wC X Y Z):UG (.val (.bool false)) false X Y Z t=X:=by rw[GX];simp
theorem aq4(b_:Bool)(X Y Z:Prop)(t:wC X Y Z):UG (.val undef) b_ X Y Z t=Z:=by
 unfold UG;refine propext ⟨λh=> ?_,λh=> .inr ⟨rfl,h⟩⟩;rcases h with⟨b',e,_⟩|⟨_,h⟩
 ·cases e
 ·exact h
section
variable (lv:Bool)(P:Program)
def n3 (all:Array Oper):List Oper->AS->(AS->Prop)->(AV->AS->Prop)->Prop
 |[],s,next,_=>next s
 |o::rest,s,next,bad=>match o.guard with
  |none=>mA lv P s o (λs'=>n3 all rest s' next bad) bad
  |some (j,b_)=>an ((all[j]?).bind (·.dst)) λd=>an (look s.T d) λa=>UG a b_ (mA lv P ⟨(d, .val (.bool b_))::s.T,s.H⟩ o (λs'=>n3 all rest s' next bad) bad) (n3 all rest ((⟨(d, .val (.bool !b_))::s.T,s.H⟩:AS).put o.dst (.val undef)) next bad) (n3 all rest (s.put o.dst (.val undef)) next bad) ⟨0⟩
end
theorem aqZ:type_of% @n3.eq_1:=by intros;rw[n3.eq_1]
theorem aqY:type_of% @n3.eq_2:=by intros;rw[n3.eq_2]
@[congr] theorem asZ {lv : Bool} {P : Program} {s s' : AS} {all : Array Oper} {l : List Oper} {next : AS -> Prop} {bad : AV -> AS -> Prop} (h : s = s') : n3 lv P all l s next bad = n3 lv P all l s' next bad := by rw [h]
attribute [seval] aqZ aqY aq3 aq2 aq1 aq0 aq4
section
variable {lv:Bool}{P:Program}{r:Option Nat}{s:AS}
theorem GZ{nt:Nat}{all:Array Oper}{Φ:ao->AS->Prop}(dn:∀o∈all,∀d,o.dst=some d->d<nt)(nB:∀o∈all,r=none\/ml o.op=false):∀(n k:Nat)(s:AS),k+n=all.size->n3 lv P all (all.toList.drop k) s (Φ .normal) (λpv s=>Φ (.panic pv) s)->
  ∀(E:Env)(V:View)(a:Act)(Q:Ex->Act->View->Prop),At E V s a nt->(∀ae e E' V' a' s',Kept E E' V V' a a'->At E' V' s' a' nt->pF E' ae e->Φ ae s'->Q e a' V')->dj lv P r all Q (TU k n) a V
 |0,k,s,hk,h,E,V,a,Q,ah,hQ=>by
  have:all.toList.drop k=[]:=by simp;omega
  rw[this]at h;exact hQ .normal .normal E V a s (Kept.refl E V a) ah trivial h
 |n+1,k,s,hk,h,E,V,a,Q,ah,hQ=>by
  have hlt:k<all.size:=by omega
  have hd:all.toList.drop k=all[k]::all.toList.drop (k+1):=by
   rw[TR (by simpa using hlt)];simp
  rw[hd]at h;have fP:all[k]∈all:=Xd hlt;have ho:all[k]?=some all[k]:=SJ hlt;simp only[Vu,dj,ho];have go:∀s:AS,At E V s a nt->mA lv P s all[k] (λs'=>n3 lv P all (all.toList.drop (k+1)) s' (Φ .normal) (λpv s=>Φ (.panic pv) s)) (λpv s=>Φ (.panic pv) s)->wD lv P r all[k] a V (dj lv P r all Q (TU (k+1) n)) Q:=λs ah h=>by
   refine h.sound (lv:=lv) (r:=r) E V a _ Q ah.bw ah.tok (λd e=>by rw[ah.size];exact dn _ fP d e) (nB _ fP) (λE' V' a' s' aI bc mh hn=> ?_) (λE' V' s' pv v aI bc mh bm hb=> ?_)
   ·exact GZ dn nB n (k+1) s' (by omega) hn E' V' a' Q ⟨bc,mh,aI.size.trans ah.size⟩ (λae e bR aU cC dA gg dx he hΦ=>hQ ae e bR aU cC dA (aI.trans gg) dx he hΦ)
   ·exact hQ (.panic pv) (.panic _) E' V' a s' aI ⟨bc,mh,ah.size⟩ ⟨v,rfl,bm⟩ hb
  simp only[n3]at h;split at h
  ·rename_i hg;have hw:Tf all[k] (yielded all a.tmps)=true:=(by unfold Tf;rw[hg]);rw[if_pos hw];exact .inl (go s ah h)
  ·rename_i j b_ hg;obtain⟨d,bW,h⟩:=h.out;obtain⟨av,h1,h⟩:=h.out;rcases h with⟨b,rfl,h2,h3⟩|⟨rfl,h3⟩
   case inr=>
    have hv:=(ah.tok d _ h1).2;have hy:yielded all a.tmps j≠some b_:=by
     obtain⟨oj,lK,jV⟩:=Tc.1 bW;generalize hx:a.tmps.getD d undef=x at hv;cases hv;have mc:d<a.tmps.size:=(ah.tok d _ h1).1;rw[SH,SJ mc]at hx;simp only[S6]at hx;simp[yielded,lK,jV,SJ mc,hx,undef]
    have hw:¬Tf all[k] (yielded all a.tmps)=true:=by
     unfold Tf;rw[hg];intro h;exact hy (by simpa using h)
    rw[if_neg hw];exact GZ dn nB n (k+1) (s.put all[k].dst (.val undef)) (by omega) h3 E V (a.put all[k].dst undef) Q
     ⟨by rw[fB];exact ah.bw,ah.tok.hO (λd e=>by rw[ah.size];exact dn _ fP d e) (.val undef),by rw[eD];exact ah.size⟩
     (λae e bR aU cC dA gg dx he hΦ=>hQ ae e bR aU cC dA ⟨gg.le,gg.size.trans (eD _ _ _),gg.defers.trans (put_defers _ _ _),gg.role,gg.deaf⟩ dx he hΦ)
   have hv:=(ah.tok d _ h1).2;have hy:yielded all a.tmps j=some b:=by
    obtain⟨oj,lK,jV⟩:=Tc.1 bW;generalize hx:a.tmps.getD d undef=x at hv;cases hv;have mc:d<a.tmps.size:=(ah.tok d _ h1).1;rw[SH,SJ mc]at hx;simp only[S6]at hx;simp[yielded,lK,jV,SJ mc,hx]
   have rF:∀b',b=b'->At E V ⟨(d, .val (.bool b'))::s.T,s.H⟩ a nt:=λb' dG=>by
    subst dG;refine⟨ah.bw,λt x e=> ?_,ah.size⟩;simp only[look]at e;split at e
    ·rename_i e';subst e';cases e;exact ah.tok d _ h1
    ·exact ah.tok t x e
   by_cases hb:b=b_
   ·have hw:Tf all[k] (yielded all a.tmps)=true:=(by unfold Tf;rw[hg];simp[hy,hb]);rw[if_pos hw];exact .inl (go _ (rF b_ hb) (h2 hb))
   ·have hw:¬Tf all[k] (yielded all a.tmps)=true:=(by unfold Tf;rw[hg];simp[hy,hb]);rw[if_neg hw];have dG:b= !b_:=(by cases b<;>cases b_<;>simp_all);have vo:=h3 dG;have ah:=rF _ dG;exact GZ dn nB n (k+1) ((⟨(d, .val (.bool !b_))::s.T,s.H⟩:AS).put all[k].dst (.val undef)) (by omega) vo E V (a.put all[k].dst undef) Q
     ⟨by rw[fB];exact ah.bw,ah.tok.hO (λd e=>by rw[ah.size];exact dn _ fP d e) (.val undef),by rw[eD];exact ah.size⟩
     (λae e bR aU cC dA gg dx he hΦ=>hQ ae e bR aU cC dA ⟨gg.le,gg.size.trans (eD _ _ _),gg.defers.trans (put_defers _ _ _),gg.role,gg.deaf⟩ dx he hΦ)
theorem aeL{nt id:Nat}{ops:Array Oper}{Φ:ao->AS->Prop}(hd:jS nt ops=true)(h:n3 lv P ops ops.toList s (Φ .normal) (λpv s=>Φ (.panic pv) s)):aY lv P r nt (.region id ops false) s Φ:=by
 intro E V a Q ah hQ;refine wp_region ?_;rw[UX];exact GZ (Φ:=Φ) (λo ho d e=>(jS.out hd ho).1 d e) (λo ho=> .inr (jS.out hd ho).2) ops.size 0 s (by omega) (by simpa using h) E V a Q ah hQ
end
section
variable (lv:Bool)(P:Program)
def sg (all:Array Oper):List Oper->AS->(AS->Prop)->Prop
 |[],s,K=>K s
 |o::rest,s,K=>match o.guard with
  |none=>AQ lv P s o λav=>sg all rest (s.put o.dst av) K
  |some (j,b_)=>an ((all[j]?).bind (·.dst)) λd=>an (look s.T d) λa=>UG a b_ (AQ lv P ⟨(d, .val (.bool b_))::s.T,s.H⟩ o λav=>sg all rest ((⟨(d, .val (.bool b_))::s.T,s.H⟩:AS).put o.dst av) K) (sg all rest ((⟨(d, .val (.bool !b_))::s.T,s.H⟩:AS).put o.dst (.val undef)) K) (sg all rest (s.put o.dst (.val undef)) K) ⟨0⟩
end
theorem aop:type_of% @sg.eq_1:=by intros;rw[sg.eq_1]
theorem aoo:type_of% @sg.eq_2:=by intros;rw[sg.eq_2]
@[congr] theorem asQ {lv : Bool} {P : Program} {s s' : AS} {all : Array Oper} {l l' : List Oper} {K : AS -> Prop} (hl : l = l') (h : s = s') : sg lv P all l s K = sg lv P all l' s' K := by rw [hl, h]
attribute [seval] aop aoo
section
variable {lv:Bool}{P:Program}{r:Option Nat}{s:AS}{ops:Array Oper}{nt p:Nat}
end
section
variable {P:Program}
def Dv (P:Program)(d:Nat)(t:TypeId):Prop:=(∃u,P.underlying t=some u/\yq u=false)/\∀x y:Int,cJ P (U6 d t (.int .i64 x) (.int .i64 y)) (x==y)
def Dw (P:Program)(d:Nat)(t:TypeId)(n:Nat):Prop:=(∃u,P.underlying t=some u/\yq u=true)/\(∃i,P.info? t=some i/\i.size=n)/\∀xs ys:List Int,xs.length=n->ys.length=n->cJ P (U6 d t (.agg (xs.map (SG .i64)).toArray) (.agg (ys.map (SG .i64)).toArray)) (xs==ys)
inductive rZ (P:Program)(d:Nat):Nat->List Field->Nat->Prop
 |nil (o:Nat):rZ P d o [] o
 | one {o n : Nat} {f : Field} {fs : List Field} (hn : f.name ≠ "_") (ho : f.offset = o) (h : Dv P d f.type) (t : rZ P d (o + 1) fs n) : rZ P d o (f :: fs) n
 | sub {o m n : Nat} {f : Field} {fs : List Field} (hn : f.name ≠ "_") (ho : f.offset = o) (h : Dw P d f.type m) (t : rZ P d (o + m) fs n) : rZ P d o (f :: fs) n
theorem rZ.le{d o n:Nat}{fs:List Field}(h:rZ P d o fs n):o<=n:=by
 induction h with
 |nil=>exact SO _
 |one _ _ _ _ ih=>omega
 |sub _ _ _ _ ih=>omega
theorem O6(xs:List Int)(o m:Nat):(xs.map (SG .i64)).toArray.extract o (o+m)=(((xs.drop o).take m).map (SG .i64)).toArray:=by
 simp[List.extract_eq_take_drop,Vy,Zk]
theorem aqa {d n N : Nat} {xs ys : List Int} {body : Field -> Option Bool × Unit -> Sem (ForInStep (Option Bool × Unit))} (hx : xs.length = N) (hy : ys.length = N) (hb : ∀ f s, body f s = (if f.name ≠ "_" then (do
   let a<- part f.type (xs.map (SG .i64)).toArray f.offset;let b<- part f.type (ys.map (SG .i64)).toArray f.offset;let r<- U6 d f.type a b
   if(!r)=true then pure (.done (some false,()))else pure (.yield (none,())))else pure (.yield (none,())))):
  ∀{o:Nat}{fs:List Field},rZ P d o fs n->n<=N->cJ P (forIn fs (none,()) body) (if(xs.drop o).take (n-o)==(ys.drop o).take (n-o)then(none,())else(some false,())):=by
 intro o fs h hn;induction h with
 |nil o=>simpa using iI (none,())
 |@one o n f fs Kf ho h t ih=>
  have hle:=t.le;have Ro:o<xs.length:=by omega
  have Rp:o<ys.length:=by omega
  obtain⟨⟨u,hu,Cn⟩,he⟩:=h;rw[Wo,hb,if_pos Kf,ho];refine lw (a:=if xs[o]==ys[o]then .yield (none,())else .done (some false,())) ?_ ?_
  ·refine C8 hu Cn (v:= .int .i64 xs[o]) (by simp[Ro]) ?_;refine C8 hu Cn (v:= .int .i64 ys[o]) (by simp[Rp]) ?_;refine lw (he _ _) ?_;cases hq:xs[o]==ys[o]<;>exact iI _
  ·have e:((xs.drop o).take (n-o)==(ys.drop o).take (n-o))=((xs[o]==ys[o])&&((xs.drop (o+1)).take (n-(o+1))==(ys.drop (o+1)).take (n-(o+1)))):=by
    rw[TR Ro,TR Rp,show n-o=(n-(o+1))+1 by omega,Vt,Vt];rfl
   rw[e];cases hq:xs[o]==ys[o]with
   |true=>simp only[if_true,U0];exact ih hn
   |false=>simp only[TC,if_false,XR];exact iI _
 |@sub o m n f fs Kf ho h t ih=>
  have hle:=t.le;obtain⟨⟨u,hu,Cn⟩,⟨i,hi,dh⟩,he⟩:=h;rw[Wo,hb,if_pos Kf,ho];refine lw (a:=if(xs.drop o).take m==(ys.drop o).take m then .yield (none,())else .done (some false,())) ?_ ?_
  ·refine acn hu Cn hi ?_;refine acn hu Cn hi ?_;rw[dh,O6,O6];refine lw (he _ _ (by rw[TW,T8];omega) (by rw[TW,T8];omega)) ?_;cases hq:(xs.drop o).take m==(ys.drop o).take m<;>exact iI _
  ·have e:((xs.drop o).take (n-o)==(ys.drop o).take (n-o))=(((xs.drop o).take m==(ys.drop o).take m)&&((xs.drop (o+m)).take (n-(o+m))==(ys.drop (o+m)).take (n-(o+m)))):=by
    have hs:∀zs:List Int,(zs.drop o).take (n-o)=(zs.drop o).take m++(zs.drop (o+m)).take (n-(o+m)):=λzs=>by
     rw[show n-o=m+(n-(o+m)) by omega,List.take_add,Zd]
    rw[hs,hs,UL,Td,beq_iff_eq,beq_iff_eq,beq_iff_eq];exact⟨λh=>List.append_inj h (by simp[TW,T8];omega),λh=>by rw[h.1,h.2]⟩
   rw[e];cases hq:(xs.drop o).take m==(ys.drop o).take m with
   |true=>simp only[if_true,U0];exact ih hn
   |false=>simp only[TC,if_false,XR];exact iI _
theorem ags{t:TypeId}{fs:Array Field}{d n:Nat}{i:TypeInfo}(ht:P.underlying t=some (.struct fs))(hs:P.stoodInHeld t=false)(hi:P.info? t=some i)(dh:i.size=n)(hf:rZ P d 0 fs.toList n):Dw P (d+1) t n:=by
 refine ⟨⟨_, ht, rfl⟩, ⟨i, hi, dh⟩, λxs ys hx hy => ?_⟩;rw [U6];refine x_ ht ?_;dsimp only;refine MP ?_;rw [hs];simp only [TC, if_false];rw [<- Array.forIn_toList];refine lw (a := if (xs == ys) then (none, ()) else (some false, ())) ?_ (by cases xs == ys <;> exact iI _);have := aqa (body := λf (_ : Option Bool × Unit) => if f.name ≠ "_" then (do
   let a<- part f.type (xs.map (SG .i64)).toArray f.offset;let b<- part f.type (ys.map (SG .i64)).toArray f.offset;let r<- U6 d f.type a b
   if(!r)=true then pure (ForInStep.done (some false,()))else pure (Ya (none,())))else pure (Ya (none,()))) hx hy (λf s=>rfl) hf (SO _)
 simp only[WS,Y1]at this;rw[SW (by omega),SW (by omega)]at this;exact this
theorem agr{t:TypeId}{k0:IntKind}{d:Nat}(ht:P.underlying t=some (.int k0)):Dv P (d+1) t:=⟨⟨_,ht,rfl⟩,λ_ _=>acl ht⟩
def Bi (g:TypeId->Option (Option Nat)):List Field->Nat->Option Nat
 |[],o=>some o
 | f :: fs, o => if f.name ≠ "_" /\ f.offset = o then (match g f.type with
  |some none=>Bi g fs (o+1)
  |some (some m)=>Bi g fs (o+m)
  |none=>none)else none
def vk (P:Program):Nat->TypeId->Option (Option Nat)
 |0,_=>none
 |d+1,t=>match P.underlying t with
  |some (.int _)=>some none
  |some (.struct fs)=>if P.stoodInHeld t then none else(match Bi (vk P d) fs.toList 0,P.info? t with
   |some n,some i=>if i.size=n then some (some n)else none
   |_,_=>none)
  |_=>none
theorem IT{d n:Nat}{g:TypeId->Option (Option Nat)}(h1:∀t,g t=some none->Dv P d t)(h2:∀t m,g t=some (some m)->Dw P d t m):∀(fs:List Field)(o:Nat),Bi g fs o=some n->rZ P d o fs n
 |[],o,h=>by cases h;exact .nil _
 |f::fs,o,h=>by
  rw[Bi]at h;split at h
  ·rename_i hc;split at h
   ·rename_i hg;exact .one hc.1 hc.2 (h1 _ hg) (IT h1 h2 fs _ h)
   ·rename_i m hg;exact .sub hc.1 hc.2 (h2 _ _ hg) (IT h1 h2 fs _ h)
   ·cases h
  ·cases h
theorem IS:∀(d:Nat)(t:TypeId),(vk P d t=some none->Dv P d t)/\∀n,vk P d t=some (some n)->Dw P d t n
 |0,t=>⟨λh=>by simp[vk]at h,λn h=>by simp[vk]at h⟩
 |d+1,t=>by
  have ih:=λt=>IS d t;rw[vk];split
  ·rename_i k0 hu;exact⟨λ_=>agr hu,λn h=>by cases h⟩
  ·rename_i fs hu;split
   ·exact⟨λh=>(by cases h),λn h=>by cases h⟩
   ·rename_i hs;split
    ·rename_i n i hf hi;split
     ·rename_i dh;refine⟨λh=>(by cases h),λm h=> ?_⟩;cases h;exact ags hu (by simpa using hs) hi dh (IT (λt=>(ih t).1) (λt=>(ih t).2) _ _ hf)
     ·exact⟨λh=>(by cases h),λn h=>by cases h⟩
    ·exact⟨λh=>(by cases h),λn h=>by cases h⟩
  ·exact⟨λh=>(by cases h),λn h=>by cases h⟩
theorem adS{t:TypeId}{n:Nat}{xs ys:List Int}(h:vk P 10000 t=some (some n))(hg:P.eqGuardType P.depth t=false)(hx:xs.length=n)(hy:ys.length=n)(k:AV->Prop):du P .eql t (.agg (xs.map iv)) (.agg (ys.map iv)) k=k (bv (xs==ys)):=by
 have vT:cJ P (Wa t (.agg (xs.map (SG .i64)).toArray) (.agg (ys.map (SG .i64)).toArray)) (xs==ys):=((IS 10000 t).2 n h).2.2 xs ys hx hy;have e:du P .eql t (.agg (xs.map iv)) (.agg (ys.map iv)) k=((W3= .eql\/W3= .neq)/\an (AV.raw (.agg (xs.map iv))) λX=>an (AV.raw (.agg (ys.map iv))) λY=>wX X Y=true/\P.eqGuardType P.depth t=false/\∃e,cJ P (Wa t X Y) e/\k (.val (.bool (if W3== .neq then !e else e)))):=rfl;rw[e,uF,uF,v_,v_];apply propext;constructor
 ·rintro⟨_,_,_,b,h1,h2⟩
  rw[vT.uniq h1];exact h2
 ·intro h;exact⟨.inl rfl,rfl,hg,_,vT,h⟩
theorem adT{t:TypeId}{n:Nat}{xs ys:List Int}(h:vk P 10000 t=some (some n))(hg:P.eqGuardType P.depth t=false)(hx:xs.length=n)(hy:ys.length=n)(k:AV->Prop):du P .neq t (.agg (xs.map iv)) (.agg (ys.map iv)) k=k (bv (!(xs==ys))):=by
 have vT:cJ P (Wa t (.agg (xs.map (SG .i64)).toArray) (.agg (ys.map (SG .i64)).toArray)) (xs==ys):=((IS 10000 t).2 n h).2.2 xs ys hx hy;have e:du P .neq t (.agg (xs.map iv)) (.agg (ys.map iv)) k=((Vk= .eql\/Vk= .neq)/\an (AV.raw (.agg (xs.map iv))) λX=>an (AV.raw (.agg (ys.map iv))) λY=>wX X Y=true/\P.eqGuardType P.depth t=false/\∃e,cJ P (Wa t X Y) e/\k (.val (.bool (if Vk== .neq then !e else e)))):=rfl;rw[e,uF,uF,v_,v_];apply propext;constructor
 ·rintro⟨_,_,_,b,h1,h2⟩
  rw[vT.uniq h1];exact h2
 ·intro h;exact⟨.inr rfl,rfl,hg,_,vT,h⟩
end
section
variable {lv:Bool}{P:Program}{s:AS}{ms:List Nat}{bs:List Deferred}{nt:Nat}
def tx (E:Env)(ms:List Nat)(bs l:List Deferred):Prop:=l=ms.map (λi=>({target:= .collected (E.blk i),args:=#[]}:Deferred))++bs/\∀i∈ms,i<E.n
theorem tx.mono{E E':Env}(h:E.Le E'){ms:List Nat}{bs l:List Deferred}(k:tx E ms bs l):tx E' ms bs l:=
 ⟨by rw[k.1];congr 1;exact U9 λi hi=>by rw[h.blk i (k.2 i hi)],λi hi=>Ta (k.2 i hi) h.n⟩
def kA (lv:Bool)(P:Program)(nt:Nat)(bs:List Deferred)(c:Code)(s:AS)(ms:List Nat)(Φ:ao->AS->List Nat->Prop):Prop:=
 ∀(E:Env)(V:View)(a:Act)(Q:Ex->Act->View->Prop),At E V s a nt->tx E ms bs a.defers->(∀ae e E' V' a' s' cH,qE E E' V V' a a'->At E' V' s' a' nt->tx E' cH bs a'.defers->pF E' ae e->Φ ae s' cH->Q e a' V')->WP lv P none c Q a V
theorem DZ{c:Code}{Φ:ao->AS->List Nat->Prop}(h:aY lv P none nt c s λe s'=>Φ e s' ms):kA lv P nt bs c s ms Φ:=λE V a Q ah hd hQ=>
 h E V a Q ah λae e E' V' a' s' hk aR he hΦ=>hQ ae e E' V' a' s' ms hk.d aR (by rw[hk.defers];exact hd.mono hk.le) he hΦ
theorem kA.mono{c:Code}{Φ Φ':ao->AS->List Nat->Prop}(h:kA lv P nt bs c s ms Φ)(hq:∀e s ms,Φ e s ms->Φ' e s ms):kA lv P nt bs c s ms Φ':=λE V a Q ah hd hQ=>
 h E V a Q ah hd λae e E' V' a' s' cH hk aR cE he hΦ=>hQ ae e E' V' a' s' cH hk aR cE he (hq _ _ _ hΦ)
theorem D1{x y:Code}{Φ:ao->AS->List Nat->Prop}(h:kA lv P nt bs x s ms (ao.rR (λs' cH=>kA lv P nt bs y s' cH Φ) Φ)):kA lv P nt bs (.seq x y) s ms Φ:=by
 intro E V a Q ah hd hQ;refine wp_seq (h E V a _ ah hd λae e E' V' a' s' cH hk aR cE he hΦ=> ?_);cases ae<;>cases e<;>first
  |exact he.elim
  |exact hΦ E' V' a' Q aR cE λae e bR aU cC dA CK aI dx y_ kj sW=>hQ ae e bR aU cC dA CK (hk.trans aI) dx y_ kj sW
  |exact hQ _ _ E' V' a' s' cH hk aR cE he hΦ
theorem sk{x y:Code}{Φ:ao->AS->List Nat->Prop}(h:aY lv P none nt x s (ao.then (λs'=>kA lv P nt bs y s' ms Φ) λe s'=>Φ e s' ms)):kA lv P nt bs (.seq x y) s ms Φ:=by
 refine D1 (DZ (h.mono λe s' hs=> ?_));cases e<;>exact hs
theorem wO{id:Nat}{c:Code}{Φ:ao->AS->List Nat->Prop}(h:kA lv P nt bs c s ms (ao.pM id Φ)):kA lv P nt bs (.block id c) s ms Φ:=by
 intro E V a Q ah hd hQ;refine wp_block (h E V a _ ah hd λae e E' V' a' s' cH hk aR cE he hΦ=> ?_);cases ae<;>cases e<;>first
  |exact he.elim
  |skip
 ·exact hQ .normal .normal E' V' a' s' cH hk aR cE trivial hΦ
 ·rename_i i j;have e:i=j:=he;subst e;by_cases ce:i=id
  ·simp only[Ex.inBlock,ce,if_true];simp only[ao.pM,ce,if_true]at hΦ;exact hQ .normal _ E' V' a' s' cH hk aR cE trivial hΦ
  ·simp only[Ex.inBlock,ce,if_false];simp only[ao.pM,ce,if_false]at hΦ;exact hQ (.exit i) _ E' V' a' s' cH hk aR cE rfl hΦ
 ·exact hQ _ _ E' V' a' s' cH hk aR cE he hΦ
 ·exact hQ _ _ E' V' a' s' cH hk aR cE he hΦ
 ·exact hQ _ _ E' V' a' s' cH hk aR cE he hΦ
theorem NZ{α:Type}{lt:α->α->Prop}(wf:WellFounded lt){c:Code}{Φ:ao->AS->List Nat->Prop}(inv:α->AS)(mk:α->List Nat)(ok:α->Prop)(m:α)(h0:s.Sub (inv m))(uh:ms=mk m)(hm:ok m)
  (h:∀m,ok m->kA lv P nt bs c (inv m) (mk m) (ao.rR (λs' cH=>∃m',lt m' m/\ok m'/\s'.Sub (inv m')/\cH=mk m') Φ)):kA lv P nt bs (.loop c) s ms Φ:=by
 subst uh;intro E V a Q ah hd hQ;refine M_ wf (I:=λm a' V'=>ok m/\∃E',qE E E' V V' a a'/\At E' V' (inv m) a' nt/\tx E' (mk m) bs a'.defers) m ⟨hm,E,(Kept.refl E V a).d,ah.sub h0,hd⟩ λm a' V' hI=> ?_;obtain⟨ay,E',hk,aR,cE⟩:=hI;refine h m ay E' V' a' _ aR cE λae e bR aU cC dA CK aI dx y_ he hΦ=> ?_;cases ae<;>cases e<;>first
  |exact he.elim
  |(obtain⟨m',h1,h2,h3,rfl⟩:=hΦ
    exact⟨m',h1,h2,bR,hk.trans aI,dx.sub h3,y_⟩)
  |exact hQ _ _ bR aU cC dA CK (hk.trans aI) dx y_ he hΦ
theorem aeX{f:Operand}{ps:Array Tmp}{bM body:Code}{fv:AV}{Φ:ao->AS->List Nat->Prop}(hf:s.ev f=some fv)
  (h:∀l fn:Nat,ja lv P fv (s.H++[.obj (.deferred (some [])), .loop l .ready none fn s.T nt ps bM body s.H.length]) [.fn (.yield l) [] []]
   (λ_ H'=>∃st pe fL T' jp gJ gw fE gz,H'[s.H.length+1]?=some (.loop l st pe fL T' jp gJ gw fE gz)/\st≠ .busy/\sf Φ ⟨s.T,H'.set (s.H.length+1) .gone⟩ (s.H.length::ms) pe)
   (λpv H'=>Φ (.panic pv) ⟨s.T,H'⟩ (s.H.length::ms))):kA lv P nt bs (.rangeFunc f ps bM body) s ms Φ:=by
 intro E V a Q ah hm hQ;refine acU λfn d l hd hl=> ?_;have hc:=ah.bw;have dl:Conc (E.add d V.ab) (V.upd d (.deferred (some []))) (s.H++[.obj (.deferred (some []))]):=by
  refine hc.add hd _ ⟨?_,rfl,rfl,λo=> ?_⟩ (λb e=> ?_)
  ·rw[Env.dS];simp[View.upd]
  ·rw[Env.dS];exact hd.2 o
  ·simp only[bN,Env.dS,Te]at e;exact e.symm
 have B3:E.Le (E.add d V.ab):=E.qn d (λb o v h=>by rw[<- hc.I];exact h);have BK:(E.add d V.ab).blk s.H.length=d:=by rw[<- hc.n];exact E.dS d _
 let E1:=E.add d V.ab;let V1:=V.upd d (.deferred (some []));have pi:E1.n=s.H.length+1:=by rw[dl.n];simp
 have p8:E1.Le (E1.add l V1.ab):=E1.qn l (λb o v h=>by rw[<- dl.I];exact h);have cT:Conc (E1.add l V1.ab) (V1.upd l (.loop {state:= .ready,pending:=none,fn,tmps:=a.tmps,params:=ps,assign:=bM,body,defers:=d})) ((s.H++[.obj (.deferred (some []))])++[.loop l .ready none fn s.T nt ps bM body s.H.length]):=by
  refine dl.add hl _ ⟨⟨a.tmps, ?_,ah.size,(ah.tok.mono B3).mono p8⟩, ?_,λo=> ?_, ?_⟩ (λb e=> ?_)
  ·have e:(E1.add l V1.ab).blk s.H.length=d:=(by rw[p8.blk s.H.length (by rw[pi];omega)];exact BK);rw[e,Env.dS];simp[View.upd]
  ·show s.H.length<E1.n+1;omega
  ·rw[Env.dS];exact hl.2 o
  ·exact Env.dS _ _ _
  ·simp only[bN,Env.dS,Te]at e;exact e.symm
 have hle:E.Le (E1.add l V1.ab):=B3.trans p8;have Jt:(E1.add l V1.ab).blk s.H.length=d:=by rw[p8.blk s.H.length (by rw[pi];omega)];exact BK
 rw[SC]at cT;have rl:∀E',(E1.add l V1.ab).Le E'->tx E' (s.H.length::ms) bs (mark a d).defers:=λE' hE=>by
  refine tx.mono hE ⟨?_,λi hi=> ?_⟩
  ·have:=(hm.mono hle).1;simp only[mark,UE,Jt,Vb];rw[<- this]
  ·rcases SK.1 hi with rfl|hi
   ·show _<E1.n+1;omega
   ·exact Ta (hm.2 i hi) hle.n
 have bz:=ap.ev ah.tok hf;have BN:=h l fn (E1.add l V1.ab) (V1.upd l (.loop {state:= .ready,pending:=none,fn,tmps:=a.tmps,params:=ps,assign:=bM,body,defers:=d})) (a.eval f) #[.func (.yield l) #[] #[]] cT (bz.mono hle) ⟨rfl,λi x hx=>by
  match i,hx with
  |0,hx=>cases hx;exact .fn rfl rfl (by simp) (by simp)⟩
 have key:∀o V',gW (E1.add l V1.ab) (V1.upd l (.loop {state:= .ready,pending:=none,fn,tmps:=a.tmps,params:=ps,assign:=bM,body,defers:=d}))
   (λ_ H'=>∃st pe fL T' jp gJ gw fE gz,H'[s.H.length+1]?=some (.loop l st pe fL T' jp gJ gw fE gz)/\st≠ .busy/\sf Φ ⟨s.T,H'.set (s.H.length+1) .gone⟩ (s.H.length::ms) pe)
   (λpv H'=>Φ (.panic pv) ⟨s.T,H'⟩ (s.H.length::ms)) o V'->DI l d Q a o V':=by
  intro o V' hr;cases o with
  |ret v=>
   obtain⟨av,E',H',hE,b8,fl,_,bc,st,pe,fL,T',jp,gJ,gw,fE,gz,ce,aQ,hp⟩:=hr;obtain⟨dG,nA,qz,bf,KF,sC,zw⟩:=bc.x7 ce;refine⟨_,bf,nA,aQ, ?_⟩;have hg:Conc E' (V'.upd l (.loop {state:= .exhausted,pending:=pe,fn:=fL,tmps:=qz,params:=gJ,assign:=gw,body:=fE,defers:=E'.blk gz})) (H'.set (s.H.length+1) .gone):=bc.C3 _ ce _ (by simp only[bN,dG]);have aR:At E' (V'.upd l (.loop {state:= .exhausted,pending:=pe,fn:=fL,tmps:=qz,params:=gJ,assign:=gw,body:=fE,defers:=E'.blk gz})) ⟨s.T,H'.set (s.H.length+1) .gone⟩ (mark a d) nt:=⟨hg,ah.tok.mono (hle.trans hE),ah.size⟩;have eO:qE E E' V (V'.upd l (.loop {state:= .exhausted,pending:=pe,fn:=fL,tmps:=qz,params:=gJ,assign:=gw,body:=fE,defers:=E'.blk gz})) a (mark a d):=⟨hle.trans hE,rfl,b8,fl⟩;dsimp only
   match pe,hp,aR,eO with
   |none,hp,aR,eO=>exact hQ .normal .normal E' _ _ _ _ eO aR (rl E' hE) trivial hp
   |some .ret,hp,aR,eO=>exact hQ .ret .ret E' _ _ _ _ eO aR (rl E' hE) trivial hp
   |some (.exit i),hp,aR,eO=>exact hQ (.exit i) (.exit i) E' _ _ _ _ eO aR (rl E' hE) rfl hp
   |some (.goto i),hp,aR,eO=>exact hQ (.goto i) (.goto i) E' _ _ _ _ eO aR (rl E' hE) rfl hp
  |panic ch=>
   obtain⟨pv,v,E',H',rfl,hE,b8,fl,bm,bc,hp⟩:=hr;exact hQ (.panic pv) (.panic _) E' V' (mark a d) ⟨s.T,H'⟩ _ ⟨hle.trans hE,rfl,b8,fl⟩ ⟨bc,ah.tok.mono (hle.trans hE),ah.size⟩ (rl E' hE) ⟨v,rfl,bm⟩ hp
 exact BN.mono (λnx V' hn=>Nx.mono key hn) (λv V' hr=>key _ _ hr)
@[congr] theorem ar6 {c : Code} {s s' : AS} {ms cH : List Nat} {Φ : ao -> AS -> List Nat -> Prop} (h : s = s') (hd : ms = cH) : kA lv P nt bs c s ms Φ = kA lv P nt bs c s' cH Φ := by rw [h, hd]
def tG (lv:Bool)(P:Program)(fn:Func)(R:Out->View->Prop):List Deferred->FrameMode->Array Value->View->Prop
 |[], .returning,tmps,V=>∃v,aO P V (results fn tmps) (λx V'=>x=v/\V'=V) (λ_ _=>False)/\R (.ret v) V
 |[], .panicking ch,_,V=>R (.panic ch) V
 |d::ds,md,tmps,V=>(md matches .run)=false/\((∃b,d={target:= .collected b,args:=#[]}/\V.own b=some (.deferred (some []))/\V.role.chan≠some b/\tG lv P fn R ds md tmps (V.upd b (.deferred none)))\/
   ((∃f cS,d.target= .fn f cS)/\aO P V (invoke d.target d.args) (λnx V'=>∃g args,nx= .enter g args/\yf lv P g args md V' λnQ aU=>tG lv P fn R ds nQ tmps aU) (λ_ _=>False)))
 |[], .run,_,_=>False
theorem Df{f:FuncId}{fn:Func}{kd:CallKind}{R:Out->View->Prop}(hf:P.funcs[f]?=some fn){main:Bool}{J:View->Goroutine->Prop}(C:Closed lv P main J){cs:List Frame}(hR:∀o V' Bl,R o V'->Leaves P Bl f kd o V'->J V' (G Bl cs)):∀(ds:List Deferred)(md:FrameMode)(V:View)(fr:Frame),fr.fn=f->fr.kind=kd->fr.mode=md->fr.defers=ds->tG lv P fn R ds md fr.tmps V->J V (G fr cs)
 |[], .returning,V,fr,h1,h2,h3,h4,h=>by
  obtain⟨v,hs,hr⟩:=h;exact hR _ _ _ hr ⟨h1,h4,h2,fn,hf,h3,hs⟩
 |[], .panicking ch,V,fr,h1,h2,h3,h4,h=>hR _ _ _ h ⟨h1,h4,h2,fn,hf,h3⟩
 |[], .run,_,_,_,_,_,_,h=>h.elim
 |d::ds,md,V,fr,h1,h2,h3,h4,h=>by
  obtain⟨hm,⟨b,rfl,ho,fi,hu⟩|⟨⟨tf,cS,ht⟩,hs⟩⟩:=h
  ·refine C.step _ _ rfl λw hw=> ?_;obtain⟨es,w',V',k1,k2,k3⟩:=(MF (P:=P) ho fi).runs hw;rcases k3 with⟨x,k3,rfl,rfl⟩|⟨_,_,hx⟩
   ·refine⟨G {fr with defers:=ds} cs,w',seen P fr.fn es,_, ?_,k1.seen P fr.fn, ?_⟩
    ·have e:∀main,stepG P main (G fr cs) w=unwind P main fr cs none w:=λmain=>by
      cases md with
      |run=>cases hm
      |returning=>simp[G,stepG,h3]
      |panicking ch=>simp[G,stepG,h3]
     rw[e];simp only[unwind,h4];simp[Tt,k3,k2,TN,G]
    ·exact Df hf C hR ds md _ {fr with defers:=ds} h1 h2 h3 rfl hu
   ·exact hx.elim
  ·refine C.step _ _ rfl λw hw=> ?_;obtain⟨es,w',V',k1,k2,k3⟩:=hs.runs hw;rcases k3 with⟨nx,k3,g,args,rfl,hd⟩|⟨_,_,h⟩
   ·refine⟨G (Frame.enter P g args .deferred) ({fr with defers:=ds}::cs),w',seen P fr.fn es,V', ?_,k1.seen P fr.fn, ?_⟩
    ·have e:∀main,stepG P main (G fr cs) w=unwind P main fr cs none w:=λmain=>by
      cases md with
      |run=>cases hm
      |returning=>simp[G,stepG,h3]
      |panicking ch=>simp[G,stepG,h3]
     rw[e];obtain⟨tgt,ar⟩:=d;simp only at ht k3 k2;subst ht;simp only[unwind,h4];simp[callDeferred,Tt,k3,k2,TN,G]
    ·refine hd main J C {fr with defers:=ds} cs h3 λnQ aU hU=> ?_;exact Df hf C hR ds nQ aU {fr with defers:=ds,mode:=nQ} h1 h2 rfl rfl hU
   ·exact h.elim
def ac5 (lv:Bool)(P:Program)(fn:Func)(R:Out->View->Prop):Ex->Act->View->Prop
 | .normal,a,V| .ret,a,V=>tG lv P fn R a.defers .returning a.tmps V
 | .panic ch,a,V=>tG lv P fn R a.defers (.panicking ch) a.tmps V
 |_,_,_=>False
theorem afq{f:FuncId}{fn:Func}{c:Code}{args:Array Value}{kd:CallKind}{V:View}{R:Out->View->Prop}(hk:kd≠ .early)(hf:P.funcs[f]?=some fn)(hb:fn.body=some c)
  (h:WP lv P none c (ac5 lv P fn R) {tmps:=args++TA (fn.ntmps-args.size) undef,defers:=[]} V):Body lv P f args kd V R:=by
 intro main J C cs hR;let b:Frame:={(default:Frame)with fn:=f,kind:=kd,roundOf:=none};have ub:Frame.enter P f args kd=on b {tmps:=args++TA (fn.ntmps-args.size) undef,defers:=[]} [.code c]:=by
  simp[Frame.enter,on,hf,hb,b]
 rw[ub];refine h main J C b [] cs hk rfl λe a' V' q=> ?_;cases e with
 |normal=>exact C.idle rfl (λw=>CZ rfl) (Df hf C hR _ _ _ _ rfl rfl rfl rfl q)
 |ret=>intro k;exact C.idle rfl (λw=>C0 rfl) (Df hf C hR _ _ _ _ rfl rfl rfl rfl q)
 |panic ch=>intro todo _;exact Df hf C hR _ _ _ _ rfl rfl rfl rfl q
 |exit id=>exact q.elim
 |goto l=>exact q.elim
theorem acL{fn:Func}{R:Out->View->Prop}{tmps:Array Value}{md:FrameMode}(hm:(md matches .run)=false):∀(ms:List Nat)(H H':List aa)(E:Env)(V:View)(l:List Deferred),iN ms H=some H'->Conc E V H->tx E ms bs l->(∀V',V'.role=V.role->V'.deaf=V.deaf->Conc E V' H'->tG lv P fn R bs md tmps V')->tG lv P fn R l md tmps V
 |[],H,H',E,V,l,hg,hc,rn,hk=>by
  rw[iN]at hg;cases hg;have:l=bs:=rn.1;subst this;exact hk V rfl rfl hc
 |i::ms,H,H',E,V,l,hg,hc,rn,hk=>by
  simp only[iN]at hg;split at hg
  ·rename_i hi;obtain⟨e,hlt⟩:=rn;simp only[UE,Vb]at e;subst e;obtain⟨p1,p2,p3,p4⟩:=hc.obj i _ hi;exact⟨hm, .inl ⟨_,rfl,p1,(hc.jo hi rfl).2,acL hm ms _ H' E _ _ hg (hc.C3 _ hi _ rfl) ⟨rfl,λj hj=>hlt j (by simp[hj])⟩ λV' h1 h2 h3=>hk V' h1 h2 h3⟩⟩
  ·cases hg
def yk (lv:Bool)(P:Program)(rs:List ResultVar)(n:Nat)(c:AV×List AV)(k kp:AV->List aa->Prop):ao->AS->List Nat->Prop
 | .normal,s,ms| .ret,s,ms=>an (iN ms s.H) λH'=>qB lv P c H' none (λH'=>an (hZ P ⟨s.T,H'⟩ rs) λl=>cy n H' (iY l) k) (λ_=>False)
 | .panic pv,s,ms=>an (iN ms s.H) λH'=>qB lv P c H' (some pv) (λH'=>an (hZ P ⟨s.T,H'⟩ rs) λl=>cy n H' (iY l) k) (λH'=>cy n H' pv kp)
 |_,_,_=>False
end
end Go.Gg
namespace Go.Gg.Tk
structure jx where
 min:Int
 max:Int
 deriving DecidableEq
structure aG where
 number:jx
 hour:jx
 deriving DecidableEq
structure Seen where
 hour:Int
 next:jx
 deriving DecidableEq
structure ai where
 first:Int
 hours:Int
 am:Int
 seen:List Seen
 pieces:List aG
 aB:List aG
 deriving DecidableEq
def kM (b:jx)(n:Int):Bool:=decide (b.min<=n)&&decide (n<=b.max)
def fJ:Nat->List Int->Int->Int
 |i,a::b::l,n=>if a<=n/\n<b then i else fJ (i+1) (b::l) n
 |_,_,_=> -1
def ju (h:List Int)(n:Int):Int:=fJ 0 h n
def fits (h:List Int)(y:aG)(n:Int):Bool:=decide (0<=ju h n)&&kM y.number n&&kM y.hour (ju h n)
def rM (x:ai)(hour:Nat)(n:Int):Bool:=x.seen.all λs=> !decide (s.hour=hour)||kM s.next n
def kG (x:ai):Nat->List Int->List (List Int)
 |0,pre=>if rM x (pre.length-1) (pre.getLastD 0)then[pre]else[]
 |d+1,pre=>if rM x (pre.length-1) (pre.getLastD 0)then(SX (x.am.toNat+1)).flatMap λn:Nat=>kG x d (pre++[pre.getLastD 0+(n:Int)])else[]
def aH (x:ai):List (List Int):=kG x x.hours.toNat [x.first]
def vJ (x:ai)(t:Nat):List (List Int):=if rM x 0 x.first then kG x (x.hours.toNat-1) [x.first,x.first+t]else[]
def F9 (h:List Int):List Int:=(SX (h.getLastD 0-h.headD 0).toNat).map λi:Nat=>h.headD 0+i
def mW (h:List Int):List aG->List Int->List (List Int)
 |[],t=>[t]
 |y::ys,t=>((F9 h).filter λn=>fits h y n&& !t.contains n).flatMap λn=>mW h ys (t++[n])
def pB (h:List Int)(ns:List Int):List aG->List Nat->List (List Nat)
 |[],t=>[t]
 |s::ss,t=>((SX ns.length).filter λp=>fits h s (ns.getD p 0)&& !t.contains p).flatMap λp=>pB h ns ss (t++[p])
structure Tr where
 bH:List Int
 aA:List Int
 b9:List Nat
 deriving DecidableEq
def Dd (x:ai)(h ns:List Int):List Tr:=(pB h ns x.aB []).map λos=>⟨h,ns,os⟩
def oL (x:ai)(h:List Int):List Tr:=(mW h x.pieces []).flatMap (Dd x h)
def cg (x:ai):List Tr:=(aH x).flatMap (oL x)
def uM (x:ai)(h:List Int):List Tr:=(mW h x.pieces []).flatMap λns=>(Dd x h ns).take 1
def rS (x:ai)(deep:Int)(h:List Int):List Tr:=if deep=0 then(uM x h).take 1 else if deep=1 then uM x h else oL x h
def G3 (x:ai)(deep:Int)(t:Nat):List Tr:=(vJ x t).flatMap (rS x deep)
theorem acB{i:Nat}:∀{h:List Int}{n:Int},fJ i h n<i+h.length:=by
 intro h;induction h generalizing i with
 |nil=>intro n;simp[fJ];omega
 |cons a h ih=>
  intro n;cases h with
  |nil=>simp[fJ];omega
  |cons b l=>
   simp only[fJ];split
   ·simp;omega
   ·have:=ih (i:=i+1) (n:=n);simp at this⊢;omega
theorem MV{i k:Nat}{z:Int}:∀{h:List Int}{n:Int},h.getLastD z=z->h≠[]->fJ i (h++TG k z) n=fJ i h n:=by
 intro h;induction h generalizing i with
 |nil=>intro n _ h;exact absurd rfl h
 |cons a h ih=>
  intro n hz _;cases h with
  |nil=>
   simp only[YA,List.getLastD_nil]at hz;subst hz;have:∀(k i:Nat),fJ i ([a]++TG k a) n= -1:=by
    intro k;induction k with
    |zero=>intro i;simp[fJ]
    |succ k ihk=>
     intro i;rw[VN,Yd];simp only[fJ];rw[if_neg (by omega)];exact ihk (i+1)
   rw[this];simp[fJ]
  |cons b l=>
   have:=ih (i:=i+1) (n:=n) (by simpa using hz) (by simp);simp only[Vb,fJ]at this⊢;rw[this]
end Go.Gg.Tk
namespace Go.Gg.Tk
inductive dD (S:Type)where
 |go (s:S)
 |stop (s:S)
 |bad (s:S)
def bF {S α:Type}(f:S->α->dD S):List α->S->dD S
 |[],s=> .go s
 |a::l,s=>match f s a with
  | .go s'=>bF f l s'
  |r=>r
theorem qu{S α:Type}(f:S->α->dD S):∀(l m:List α)(s:S),bF f (l++m) s=match bF f l s with
  | .go s'=>bF f m s'
  |r=>r
 |[],m,s=>rfl
 |a::l,m,s=>by
  simp only[Vb,bF];cases f s a with
  |go s'=>exact qu f l m s'
  |stop s'=>rfl
  |bad s'=>rfl
theorem Mw{S α:Type}(f:S->α->dD S)(a:α)(s:S):bF f [a] s=f s a:=by
 simp only[bF];cases f s a<;>rfl
theorem CY{S α:Type}{f:S->α->dD S}{g:S->α->S}(h:∀s a,f s a= .go (g s a)):∀(l:List α)(s:S),bF f l s= .go (l.foldl g s)
 |[],s=>rfl
 |a::l,s=>by simp only[bF,h,Ux];exact CY h l _
theorem Ab{S α:Type}{f:S->α->dD S}{I:S->Prop}{A:α->Prop}(h:∀s a s',I s->A a->f s a= .go s'->I s'):∀(l:List α)(s s':S),(∀a∈l,A a)->I s->bF f l s= .go s'->I s'
 |[],s,s',_,hs,e=>by cases e;exact hs
 |a::l,s,s',ha,hs,e=>by
  simp only[bF]at e;cases hf:f s a with
  |go s1=>rw[hf]at e;exact Ab h l s1 s' (λb hb=>ha b (by simp[hb])) (h s a s1 hs (ha a (by simp)) hf) e
  |stop s1=>rw[hf]at e;cases e
  |bad s1=>rw[hf]at e;cases e
def cM (h:List Int):List Int:=h++TG (4-h.length) (h.getLastD 0)
def mP (x:ai)(bh:Nat):Nat->List Int->List (List Int)
 |0,pre=>if rM x (pre.length-1) (pre.getLastD 0)then[cM pre]else[]
 |d+1,pre=>if rM x (pre.length-1) (pre.getLastD 0)then(SX (x.am.toNat+1)).flatMap λn:Nat=>if pre.length=1/\n≠bh then[]else mP x bh d (pre++[pre.getLastD 0+(n:Int)])else[]
def kH (x:ai)(bh:Nat):List (List Int):=mP x bh x.hours.toNat [x.first]
def lD (h:List Int)(y:aG)(n:Nat):Bool:=decide (h.getD 0 0+n<h.getD 3 0)&&kM y.number (h.getD 0 0+n)&&kM y.hour (ju h (h.getD 0 0+n))
def jB (p:Nat->Bool):Nat->Nat
 |0=>0
 |n+1=>if p n then jB p n|||2^n else jB p n
theorem A6{p:Nat->Bool}:∀{n i:Nat},(jB p n).testBit i=(decide (i<n)&&p i)
 |0,i=>by simp[jB]
 |n+1,i=>by
  have ih:=A6 (p:=p) (n:=n) (i:=i);simp only[jB];by_cases hp:p n=true
  ·rw[if_pos hp,WG,ih,Vs];by_cases hi:n=i
   ·subst hi;simp[hp]
   ·have:(i<n+1)<->i<n:=(by omega);simp[hi,this]
  ·rw[if_neg hp,ih];by_cases hi:i=n
   ·subst hi;simp at hp;simp[hp]
   ·have:(i<n+1)<->i<n:=(by omega);simp[this]
theorem D2{p:Nat->Bool}:∀{n:Nat},jB p n<2^n
 |0=>by simp[jB]
 |n+1=>by
  have ih:=D2 (p:=p) (n:=n);have h1:2^n<2^(n+1):=Wx (by omega) (by omega);simp only[jB];split
  ·exact VZ (VH ih h1) h1
  ·exact VH ih h1
def bZ (h:List Int)(y:aG):Nat:=jB (lD h y) 9
def kP:List Nat->Nat->List Nat->List (List Nat)
 |[],_,t=>[t]
 |q::qs,used,t=>(SX 9).flatMap λn=>if used.testBit n|| !q.testBit n then[]else kP qs (used|||2^n) (t++[n])
def mu (k:Nat)(ns:List Nat):List Nat->Nat->List Nat->List (List Nat)
 |[],_,o=>[o]
 |q::qs,given,o=>(SX k).flatMap λp=>if given.testBit p|| !q.testBit (ns.getD p 0)then[]else mu k ns qs (given|||2^p) (o++[p])
def lq (k:Nat)(l:List Nat):List Int:=l.map (λn:Nat=>(n:Int))++TG (k-l.length) (-1)
def eg (h:List Int)(ns:List Nat):List Int:=h++lq 4 ns++[-1, -1, -1]
def dB (h:List Int)(ns os:List Nat):List Int:=h++lq 4 ns++lq 3 os
def gp (x:ai)(h:List Int):List (List Nat):=kP (x.pieces.map (bZ h)) 0 []
def iu (x:ai)(h:List Int)(ns:List Nat):List (List Nat):=mu x.pieces.length ns (x.aB.map (bZ h)) 0 []
def jv (x:ai)(deep:Int)(h:List Int):List (List Int):=
 let all:=(gp x h).map λns=>(iu x h ns).map λos=>dB h ns os
 if deep=0 then all.flatten.take 1 else if deep=1 then(all.map (·.take 1)).flatten else all.flatten
end Go.Gg.Tk
namespace Go.Gg.Tk
structure Kn where
 has:Bool
 aH:List (List Int)
 aA:List Nat
 hours:List Nat
 less:List Nat
 aV:List Nat
 first:List Int
def Kn.zero:Kn:=⟨false,[],[0,0,0,0],[0,0,0,0],[0,0,0,0],[0,0,0],TG 11 0⟩
def oT (l:List Nat)(p n:Nat):List Nat:=l.set p (l.getD p 0|||2^n)
def iG (hs:List (List Int))(h:List Int):List (List Int):=if h∈hs then hs else hs++[h]
def my (t:List Int)(p:Nat):Nat:=(t.getD (4+p) 0).toNat
def C9 (t:List Int)(p:Nat):Nat:=(ju (t.take 4) (t.getD (4+p) 0+t.getD 0 0)).toNat
def rP (t:List Int)(s:Nat):Nat:=(t.getD (8+s) 0).toNat
def iM (F:Kn)(t:List Int):Kn:=if F.has then F else{F with has:=true,first:=t}
def mX (t:List Int):Nat->List Nat->List Nat
 |0,l=>l
 |s+1,l=>oT (mX t s l) s (rP t s)
def rI (t:List Int):Nat->List Nat->List Nat
 |0,l=>l
 |p+1,l=>oT (rI t p l) p (my t p)
def vR (t:List Int):Nat->List Nat->List Nat
 |0,l=>l
 |p+1,l=>oT (vR t p l) p (C9 t p)
def v5 (t:List Int)(p:Nat):Nat->List Nat->List Nat
 |0,l=>l
 |q+1,l=>if t.getD (4+p) 0<t.getD (4+q) 0 then oT (v5 t p q l) p q else v5 t p q l
def xL (t:List Int)(k:Nat):Nat->List Nat->List Nat
 |0,l=>l
 |p+1,l=>v5 t p k (xL t k p l)
def eF (x:ai)(deep:Int)(F:Kn)(t:List Int):Kn:=
 let F:=iM F t
 if deep=2 then{F with aV:=mX t x.aB.length F.aV}
 else if deep=0 then{F with aH:=iG F.aH (t.take 4)}
 else{F with aA:=rI t x.pieces.length F.aA,hours:=vR t x.pieces.length F.hours,less:=xL t x.pieces.length x.pieces.length F.less}
def gT (x:ai)(deep:Int)(bh:Nat):Kn:=((kH x bh).flatMap (jv x deep)).foldl (eF x deep) Kn.zero
def lT (l m:List Nat):List Nat:=(List.zipWith (·|||·) l m)
end Go.Gg.Tk
namespace Go.Gg
open Go.Conc Go.Gg.Tk
theorem G5{n:Nat}(h:n<65536):S0.wrap (n:Int)=n:=by
 have h1:S0.bits=16:=rfl;have h2:S0.signed=false:=rfl;unfold Wy;rw[h1,h2];simp;omega
theorem A9{n:Nat}(h:n<65536):(T4 S0.bits (n:Int)).toNat=n:=by
 have h1:S0.bits=16:=rfl;rw[h1,BitVec.ofInt_natCast,BitVec.toNat_ofNat];omega
theorem aiS{m n:Nat}(hm:m<65536):(S0.wrap (T4 S0.bits ((m:Int).fdiv (2^(min n S0.bits)))&&&T4 S0.bits 1).toNat==1)=m.testBit n:=by
 have h1:S0.bits=16:=rfl;have e:(m:Int).fdiv (2^(min n S0.bits))=((m/2^(min n 16):Nat):Int):=by
  rw[h1,Int.fdiv_eq_ediv_of_nonneg _ (by exact_mod_cast Xr _)];norm_cast
 have hlt:m/2^(min n 16)<65536:=Yq (Nat.div_le_self _ _) hm;rw[e,BitVec.toNat_and,A9 hlt,show (T4 S0.bits 1).toNat=1 from rfl,G5 (Yq Nat.and_le_left hlt)];have hb:m/2^(min n 16)&&&1=(m/2^(min n 16)) % 2:=Nat.and_one_is_mod _;rw[hb];have ht:m.testBit n=decide (m/2^n % 2=1):=Nat.testBit_eq_decide_div_mod_eq;by_cases hn:n<=16
 ·rw[WI hn,ht];by_cases h:m/2^n % 2=1
  ·simp[h]
  ·have:m/2^n % 2=0:=(by omega);simp[this]
 ·rw[Nat.min_eq_right (by omega)];have h0:m/2^16=0:=Nat.div_eq_of_lt (by omega);have h2:m.testBit n=false:=Nat.testBit_lt_two_pow (Ta hm (by calc 65536=2^16:=rfl
   _<=2^n:=WH (by omega) (by omega)))
  rw[h0,h2];rfl
theorem ara{m n:Nat}(hm:m<65536)(hn:n<16):S0.wrap (T4 S0.bits (m:Int)|||T4 S0.bits (S0.wrap (1* 2^(min n S0.bits)))).toNat=((m|||2^n:Nat):Int):=by
 have h1:S0.bits=16:=rfl;have hp:2^n<65536:=by calc 2^n<2^16:=Wx (by omega) hn
  _=65536:=rfl
 have e:S0.wrap (1* 2^(min n S0.bits))=((2^n:Nat):Int):=by
  rw[h1,WI (by omega),Int.one_mul,<- G5 hp];norm_cast
 rw[e,Yy,A9 hm,A9 hp];exact G5 (VZ (n:=16) hm hp)
theorem Gk{m n:Nat}(hm:m<65536)(hn:n<65536):S0.wrap (T4 S0.bits (m:Int)|||T4 S0.bits (n:Int)).toNat=((m|||n:Nat):Int):=by
 rw[Yy,A9 hm,A9 hn];exact G5 (VZ (n:=16) hm hn)
theorem pA{m n:Nat}(hm:m<65536)(hn:n<65536):m|||n<65536:=VZ (n:=16) hm hn
theorem wn{n:Nat}(hn:n<16):2^n<65536:=by calc 2^n<2^16:=Wx (by omega) hn
  _=65536:=rfl
abbrev wv (m:Nat):AV:= .val (.int .u16 m)
def cX {S:Type}(Gf:S->List aa)(pv:AV)(k kp:AV->List aa->Prop)(M:List aa):dD S->Prop
 | .go s=>k (.val (.bool true)) (Gf s++M)
 | .stop s=>k (.val (.bool false)) (Gf s++M)
 | .bad s=>kp pv (Gf s++M)
def gv {S:Type}(Gf:S->List aa)(pv:AV)(k kp:AV->List aa->Prop)(M:List aa):dD S->Prop
 | .go s=>k (.aK []) (Gf s++M)
 | .stop s=>k (.aK []) (Gf s++M)
 | .bad s=>kp pv (Gf s++M)
structure jP (lv:Bool)(P:Program)(yv:AV){S:Type}(f:S->List Int->dD S)(Gf:S->List aa)(N:Nat)(I:S->Prop)(A:List Int->Prop)(pv:AV):Prop where
 call:∀(σ:S)(a:List Int)(M:List aa)(k kp:AV->List aa->Prop),I σ->A a->cX Gf pv k kp M (f σ a)->ja lv P yv (Gf σ++M) [.agg (a.map λn=> .val (.int .i64 n))] k kp
 inv:∀σ a σ',I σ->A a->f σ a= .go σ'->I σ'
 len:∀σ,(Gf σ).length=N
 ok:∀m σ σ',(∀z∈Gf σ,eR m z)->∀z∈Gf σ',eR m z
 sure:yv.sure=true
 parts:yv.parts=some [yv]
 leaf:yv.leaf=true
theorem jP.get{lv:Bool}{P:Program}{yv:AV}{S:Type}{f:S->List Int->dD S}{Gf:S->List aa}{N:Nat}{I:S->Prop}{A:List Int->Prop}{pv:AV}(h:jP lv P yv f Gf N I A pv)(σ:S)(L:List aa)(i:Nat):(Gf σ++L)[N+i]?=L[i]?:=by
 rw[<- h.len σ,Tg (by omega)];congr 1;omega
theorem jP.set{lv:Bool}{P:Program}{yv:AV}{S:Type}{f:S->List Int->dD S}{Gf:S->List aa}{N:Nat}{I:S->Prop}{A:List Int->Prop}{pv:AV}(h:jP lv P yv f Gf N I A pv)(σ:S)(L:List aa)(i:Nat)(x:aa):(Gf σ++L).set (N+i) x=Gf σ++L.set i x:=by
 rw[<- h.len σ,Uy _ _ (by omega)];congr 2;omega
theorem jP.ay{lv:Bool}{P:Program}{yv:AV}{S:Type}{f:S->List Int->dD S}{Gf:S->List aa}{N:Nat}{I:S->Prop}{A:List Int->Prop}{pv:AV}(h:jP lv P yv f Gf N I A pv){σ:S}{M:List aa}(hH:bL (Gf σ++M))(σ':S):bL (Gf σ'++M):=λz hz=>by
 have hl:(Gf σ'++M).length=(Gf σ++M).length:=by simp[h.len]
 rw[hl];rcases SN.1 hz with h'|h'
 ·exact h.ok _ σ σ' (λw hw=>hH w (Tb _ hw)) z h'
 ·exact hH z (SZ _ h')
def sd (l:Nat)(S:Nat->AS)(ok:Nat->Prop)(m:Nat)(Φ:ao->AS->Prop):ao->AS->Prop
 | .goto l',s=>l'=l/\∃m',m'<m/\ok m'/\s.Sub (S m')
 |e,s=>Φ e s
section
variable {lv:Bool}{P:Program}{r:Option Nat}{s:AS}
end
theorem al0(l:Nat)(S:Nat->AS)(ok:Nat->Prop)(m:Nat)(Φ:ao->AS->Prop)(s:AS):sd l S ok m Φ .normal s=Φ .normal s:=by rw[sd];simp
theorem al2(l:Nat)(S:Nat->AS)(ok:Nat->Prop)(m:Nat)(Φ:ao->AS->Prop)(s:AS):sd l S ok m Φ .ret s=Φ .ret s:=by rw[sd];simp
theorem alZ(l:Nat)(S:Nat->AS)(ok:Nat->Prop)(m:Nat)(Φ:ao->AS->Prop)(i:Nat)(s:AS):sd l S ok m Φ (.exit i) s=Φ (.exit i) s:=by rw[sd];simp
theorem al1(l:Nat)(S:Nat->AS)(ok:Nat->Prop)(m:Nat)(Φ:ao->AS->Prop)(a:AV)(s:AS):sd l S ok m Φ (.panic a) s=Φ (.panic a) s:=by rw[sd];simp
@[congr] theorem asM {l m : Nat} {S : Nat -> AS} {ok : Nat -> Prop} {s s' : AS} {Φ : ao -> AS -> Prop} {e e' : ao} (he : e = e') (h : s = s') : sd l S ok m Φ e s = sd l S ok m Φ e' s' := by rw [he, h]
attribute [seval] al0 al2 alZ al1
open Go.Proofs
namespace Tk
def jx.l (b:jx):List AV:=[iv b.min,iv b.max]
def jx.av (b:jx):AV:= .agg b.l
def aG.l (y:aG):List AV:=[iv y.number.min,iv y.number.max,iv y.hour.min,iv y.hour.max]
def aG.av (y:aG):AV:= .agg y.l
def Seen.l (s:Seen):List AV:=[iv s.hour,iv s.next.min,iv s.next.max]
def Seen.av (s:Seen):AV:= .agg s.l
def bu (xs:List Int):AV:= .sl xs.length (xs.map iv) .shut
def yp (ls:List (List Int)):AV:= .sl ls.length (ls.map bu) .shut
def bk (xs:List aG):AV:= .sl xs.length (xs.flatMap aG.l) .shut
def ej (xs:List Seen):AV:= .sl xs.length (xs.flatMap Seen.l) .shut
def ai.l (x:ai):List AV:=[iv x.first,iv x.hours,iv x.am,ej x.seen,bk x.pieces,bk x.aB]
def ai.av (x:ai):AV:= .agg x.l
theorem aG.len(b:aG):b.l.length=4:=rfl
theorem Seen.len(b:Seen):b.l.length=3:=rfl
end Tk
section
variable {i:Nat}
theorem h_{xs:List Int}{x:Int}(h:xs[i]?=some x):AV.shift i (.rp (xs.map iv))=some (.rp (iv x::(xs.drop (i+1)).map iv)):=by have:=abT (f:=iv) h;rwa [Xs]at this
theorem abQ{xs:List (List Int)}{x:List Int}(h:xs[i]?=some x):AV.shift i (.rp (xs.map bu))=some (.rp (bu x::(xs.drop (i+1)).map bu)):=by have:=abT (f:=bu) h;rwa [Xs]at this
theorem GG{xs:List aG}{x:aG}(h:xs[i]?=some x):AV.shift (i* 4) (.rp (xs.flatMap aG.l))=some (.rp (iv x.number.min::iv x.number.max::iv x.hour.min::iv x.hour.max::(xs.drop (i+1)).flatMap aG.l)):=abS aG.len h
theorem abR{xs:List Seen}{x:Seen}(h:xs[i]?=some x):AV.shift (i* 3) (.rp (xs.flatMap Seen.l))=some (.rp (iv x.hour::iv x.next.min::iv x.next.max::(xs.drop (i+1)).flatMap Seen.l)):=abS Seen.len h
end
theorem xM(n:Nat)(xs:List Int):Lt n (bu xs)=True:=by simp[bu,uC,eK]
theorem aak(n:Nat)(xs:List (List Int)):Lt n (yp xs)=True:=by
 simp only[yp,uC,Th,eq_iff_iff,iff_true]
 rintro a ⟨b,_,rfl⟩
 rw[xM];trivial
theorem F0(n:Nat)(xs:List aG):Lt n (bk xs)=True:=by
 simp only[bk,uC,S4,eq_iff_iff,iff_true]
 rintro a ⟨b,_,h⟩
 simp only[aG.l,SK,SU,or_false]at h;rcases h with rfl|rfl|rfl|rfl<;>exact .val _
theorem aal(n:Nat)(xs:List Seen):Lt n (ej xs)=True:=by
 simp only[ej,uC,S4,eq_iff_iff,iff_true]
 rintro a ⟨b,_,h⟩
 simp only[Seen.l,SK,SU,or_false]at h;rcases h with rfl|rfl|rfl<;>exact .val _
theorem Lz(n:Nat)(x:ai):∀a∈x.l,Lt n a:=by
 intro a ha;simp only[ai.l,SK,SU,or_false]at ha;rcases ha with rfl|rfl|rfl|rfl|rfl|rfl
 ·exact .val _
 ·exact .val _
 ·exact .val _
 ·rw[aal];trivial
 ·rw[F0];trivial
 ·rw[F0];trivial
theorem F1(n:Nat)(x:ai):Lt n x.av=True:=by simp only[ai.av,qp,eq_iff_iff,iff_true];exact Lz n x
open Go.Conc Go.Proofs Go.Gg.Tk
namespace Tk
structure jz (h:List Int):Prop where
 len:h.length=4
 lo:∀a∈h,0<=a
 hi:∀a∈h,a<=1000
 span:h.getD 3 0<=h.getD 0 0+9
theorem jz.out{h:List Int}(k:jz h):∃a b c d,h=[a,b,c,d]/\(0<=a/\a<=1000)/\(0<=b/\b<=1000)/\(0<=c/\c<=1000)/\(0<=d/\d<=1000)/\d<=a+9:=by
 match h,k with
 |[a,b,c,d],k=>exact⟨a,b,c,d,rfl,⟨k.lo a (by simp),k.hi a (by simp)⟩,⟨k.lo b (by simp),k.hi b (by simp)⟩,⟨k.lo c (by simp),k.hi c (by simp)⟩,⟨k.lo d (by simp),k.hi d (by simp)⟩,by simpa using k.span⟩
theorem ah3{h:List Int}{y:aG}{n:Nat}(hn:(h.getD 3 0-h.getD 0 0).toNat<=n):lD h y n=false:=by
 unfold lD;rw[show decide (h.getD 0 0+(n:Int)<h.getD 3 0)=false from decide_eq_false (by omega)];rfl
theorem ah4{h:List Int}{y:aG}(hs:h.getD 3 0<=h.getD 0 0+9):bZ h y=jB (lD h y) (h.getD 3 0-h.getD 0 0).toNat:=by
 apply Nat.eq_of_testBit_eq;intro i;unfold bZ;rw[A6,A6];by_cases hi:i<(h.getD 3 0-h.getD 0 0).toNat
 ·have h9:i<9:=by omega
  rw[decide_eq_true hi,decide_eq_true h9]
 ·rw[ah3 (by omega)];simp
theorem Pm(h:List Int)(y:aG):bZ h y<512:=D2 (n:=9)
end Tk
theorem vf{α:Type}{xs:List α}{i:Nat}{x:α}(h:xs[i]?=some x):xs.drop i=x::xs.drop (i+1):=by
 obtain⟨h1,h2⟩:=SM.1 h;rw[TR h1,h2]
section
variable {lv:Bool}{H:List aa}{k kp:AV->List aa->Prop}
theorem IK{b:jx}{n:Int}(hk:k (bv (kM b n)) H):bi lv SD 88 H [b.av,iv n] k kp:=by
 refine bI (rs:=[.tmp 4]) (nt:=15) Tryz.f88 λhH hA=> ?_;simp only[bp,SS,jx.av,jx.l];refine ak ?_;refine ak ?_;refine w7 (λh=> ?_) (λh=> ?_)
 ·(try simp only[seval]);refine a_ ?_;exact lB hH (by simpa[kM,h]using hk)
 ·(try simp only[seval]);refine a_ ?_;exact lB hH (by simpa[kM,h]using hk)
theorem Pg{h:List Int}{n:Int}(h4:h.length=4)(hk:k (iv (ju h n)) H):bi lv SD 90 H [.agg (h.map iv),iv n] k kp:=by
 refine bI (rs:=[.tmp 4]) (nt:=24) Tryz.f90 λhH hA=> ?_;simp only[bp,SS];have p7:(h.map iv).length=4:=by simp[h4]
 refine ak ?_;refine ak ?_;refine cN ?_;refine wM 3 (λi:Nat=>[(6,iv i)]) (λ_=>_) (λi=>ju h n=fJ i (h.drop i) n) rfl (λcm dF i cw hi R hR=> ?_);refine ak ?_;refine aC ?_;refine⟨λhc=> ?_,λhc=> ?_⟩
 ·
  have pX:i<3:=by omega
  obtain⟨a,ha⟩:=cG (xs:=h) (i:=i) (by omega);obtain⟨b,hb⟩:=cG (xs:=h) (i:=i+1) (by omega);have e4:(0<=(i:Int)/\(i:Int)<4)=True:=by simp;omega
  have OW:(0<=(i:Int)+1/\(i:Int)+1<4)=True:=by simp;omega
  have hw:SE.wrap ((i:Int)+1)=(i:Int)+1:=bD _ (by omega);have pi:((i:Int)+1).toNat=i+1:=by omega
  have lj:fJ i (h.drop i) n=if a<=n/\n<b then(i:Int)else fJ (i+1) (h.drop (i+1)) n:=by
   rw[vf ha,vf hb];simp only[fJ]
  refine aP ?_;refine ak ?_;refine aj ?_;simp only[seval,e4,OW,hw,pi,j7 ha,j7 hb];refine w7 (λh2=> ?_) (λh2=> ?_)
  ·(try simp only[seval,e4,OW,hw,pi,j7 ha,j7 hb]);refine aC ?_;refine⟨λh3=> ?_,λh3=> ?_⟩
   ·refine ak ?_;refine a_ ?_;rw[hi,lj,if_pos ⟨of_decide_eq_true h2,h3⟩]at hk;exact lB hH hk
   ·refine aP ?_;refine aj ?_;simp only[seval,hw];refine hR _ ⟨by omega, ?_,dR⟩;rw[hi,lj,if_neg (λq=>h3 q.2)]
  ·(try simp only[seval]);refine aC ?_;refine aP ?_;refine aj ?_;simp only[seval,hw];refine hR _ ⟨by omega, ?_,dR⟩;rw[hi,lj,if_neg (λq=>by simp at h2;omega)]
 ·
  have:i=3:=by omega
  subst this;refine cq ?_;refine ak ?_;refine a_ ?_;have hm:fJ 3 (h.drop 3) n= -1:=by
   match h,h4 with
   |[a,b,c,d],_=>rfl
  rw[hi,hm]at hk;exact lB hH hk
theorem w5{m n:Nat}(hm:m<65536)(hk:k (bv (m.testBit n)) H):bi lv SD 67 H [wv m,iv n] k kp:=by
 refine bI (rs:=[.tmp 4]) (nt:=10) Tryz.f67 λhH hA=> ?_;simp only[bp,SS];refine ak ?_;refine aj ?_;simp only[seval,AZ,adK];refine a_ ?_;refine bY ?_;rw[aiS hm];exact hk
theorem tR{m n:Nat}(hm:m<65536)(hn:n<16)(hk:k (wv (m|||2^n)) H):bi lv SD 68 H [wv m,iv n] k kp:=by
 refine bI (rs:=[.tmp 4]) (nt:=9) Tryz.f68 λhH hA=> ?_;simp only[bp,SS];refine ak ?_;refine aj ?_;simp only[seval,adV,AY];refine a_ ?_;refine bY ?_;rw[ara hm hn];exact hk
theorem Ef{h:List Int}{y:aG}(hh:jz h)(hk:k (wv (bZ h y)) H):bi lv SD 65 H [.agg (h.map iv),y.av] k kp:=by
 refine bI (rs:=[.tmp 4]) (nt:=34) Tryz.f65 λhH hA=> ?_;simp only[bp,SS,aG.av,aG.l];obtain⟨a,b,c,d,rfl,ha,hb,hc,hd,hs⟩:=hh.out;have o1:bZ [a,b,c,d] y=jB (lD [a,b,c,d] y) (d-a).toNat:=ah4 hs;have hz:wv (jB (lD [a,b,c,d] y) 0)=wv 0:=rfl;refine ak ?_;refine ak ?_;refine ak ?_;refine cN ?_;refine gM (d-a).toNat (λi:Nat=>[(6,iv (a+i)),(5,wv (jB (lD [a,b,c,d] y) i))]) (λ_=>_) (λi=>True) (λ_ _=>rfl) (by rw[hz];simp only[seval];simp[bB,Wk.refl];exact Wk.refl _) rfl (λ_ _ _=>rfl) trivial (λcm dF i cw hi R hR=> ?_);refine ak ?_;refine aC ?_;have cP:jB (lD [a,b,c,d] y) i<65536:=Ta D2 (Ur (WH (by omega) (show i<=16 by omega)) (by decide));refine⟨λhc=> ?_,λhc=> ?_⟩
 ·
  have hlt:i<(d-a).toNat:=by omega
  have hw:SE.wrap (a+(i:Int)+1)=a+((i+1:Nat):Int):=by rw[bD _ (by omega)];push_cast;omega
  have gH:SE.wrap (a+(i:Int)-a)=(i:Int):=by rw[bD _ (by omega)];omega
  have EH:lD [a,b,c,d] y i=(kM y.number (a+i)&&kM y.hour (ju [a,b,c,d] (a+i))):=by
   unfold lD;rw[show decide ([a,b,c,d].getD 0 0+(i:Int)<[a,b,c,d].getD 3 0)=true from decide_eq_true (show a+(i:Int)<d by omega),U0];rfl
  refine aP ?_;refine cN ?_;refine eS 12 ?_;simp only[seval];refine iH (bv (kM y.number (a+i))) (bT (IK (b:=y.number) ⟨rfl,rfl⟩)) ?_;(try simp only[seval]);refine w7 (λh2=> ?_) (λh2=> ?_)
  ·(try simp only[seval]);refine iH (iv (ju [a,b,c,d] (a+i))) (bT (Pg (h:=[a,b,c,d]) rfl ⟨rfl,rfl⟩)) ?_;(try simp only[seval]);refine iH (bv (kM y.hour (ju [a,b,c,d] (a+i)))) (bT (IK (b:=y.hour) ⟨rfl,rfl⟩)) ?_;(try simp only[seval]);refine aC ?_;rw[h2,U0]at EH;refine⟨λh3=> ?_,λh3=> ?_⟩
   ·refine aj ?_;simp only[seval,gH];refine aL ((tR cP (show i<16 by omega) ?_));(try simp only[seval]);refine aj ?_;simp only[seval,hw];refine hR _ ⟨by omega,trivial, ?_⟩;rw[show jB (lD [a,b,c,d] y) (i+1)=jB (lD [a,b,c,d] y) i|||2^i from by rw[jB,EH,h3];rfl];exact dR
   ·refine aP ?_;refine aj ?_;simp only[seval,hw];refine hR _ ⟨by omega,trivial, ?_⟩;rw[show jB (lD [a,b,c,d] y) (i+1)=jB (lD [a,b,c,d] y) i from by rw[jB,EH,h3];rfl];exact dR
  ·(try simp only[seval]);refine aC ?_;refine aP ?_;refine aj ?_;simp only[seval,hw];refine hR _ ⟨by omega,trivial, ?_⟩;rw[show jB (lD [a,b,c,d] y) (i+1)=jB (lD [a,b,c,d] y) i from by rw[jB,EH,show kM y.number (a+i)=false by simpa using h2];rfl];exact dR
 ·have:i=(d-a).toNat:=by omega
  subst this;refine cq ?_;refine ak ?_;refine a_ ?_;rw[o1]at hk;exact lB hH hk
end
open Go.Conc Go.Proofs Go.Gg.Tk
namespace Tk
structure uQ (b:jx)(hi:Int):Prop where
 min:0<=b.min
 le:b.min<=b.max
 max:b.max<=hi
structure Hr (x:ai)(y:aG):Prop where
 number:uQ y.number 99
 hour:uQ y.hour (x.hours-1)
structure ai.Ok (x:ai):Prop where
 first:0<=x.first/\x.first<=90
 hours:1<=x.hours/\x.hours<=3
 am:1<=x.am/\x.am<=3
 Ac:x.seen.length<=3
 dI:x.pieces.length<=4
 fD:x.aB.length<=3
 seen:∀s∈x.seen,(0<=s.hour/\s.hour<=x.hours)/\uQ s.next 99
 piece:∀y∈x.pieces,Hr x y
 stub:∀y∈x.aB,Hr x y
def td (hour:Nat)(n:Int)(s:Seen):Bool:= !decide (s.hour=hour)||kM s.next n
theorem abw(x:ai)(hour:Nat)(n:Int):rM x hour n=x.seen.all (td hour n):=rfl
end Tk
theorem ey{H L:List aa}{i:Nat}{x:aa}(h:H[i]?=some x):(H++L)[i]?=some x:=by rw[SY (SM.1 h).1];exact h
theorem aS(Hs L:List aa)(i:Nat):(Hs++L)[Hs.length+i]?=L[i]?:=by rw[Tg (by omega)];congr 1;omega
theorem de(Hs L:List aa)(i:Nat)(y:aa):(Hs++L).set (Hs.length+i) y=Hs++L.set i y:=by rw[Uy _ _ (by omega)];congr 2;omega
section
variable {lv:Bool}{H:List aa}{k kp:AV->List aa->Prop}
theorem Pf{x:ai}{h:List Int}{hour ir ih:Nat}{n:Int}(hx:x.Ok)(h4:h.length=4)(hn:h[hour]?=some n)(hr:H[ir]?=some (.cells x.l 76))(hi:H[ih]?=some (.cells (h.map iv) 83))(hk:k (bv (rM x hour n)) H):bi lv SD 87 H [iv hour, .op ir 0, .op ih 0] k kp:=by
 refine bI (rs:=[.tmp 4]) (nt:=29) Tryz.f87 λhH hA=> ?_;simp only[bp,SS];have ox:hour<4:=by have:=eU hn;omega
 have b4:(0<=(hour:Int)/\(hour:Int)<4)=True:=by simp;omega
 have hlen:=hx.Ac;have xz:∀L:List aa,(H++L)[ir]?=some (.cells x.l 76):=λL=>ey hr;have cF:∀L:List aa,(H++L)[ih]?=some (.cells (h.map iv) 83):=λL=>ey hi;have bQ:x.l=[iv x.first,iv x.hours,iv x.am,ej x.seen,bk x.pieces,bk x.aB]:=rfl;refine ak ?_;refine aj ?_;simp only[seval,hr,bQ,ej];refine cN ?_;refine wM x.seen.length (λi:Nat=>[(11,iv i)]) (λ_=>H) (λi=>x.seen.all (td hour n)=(x.seen.drop i).all (td hour n)) rfl (λcm dF i cw hI R hR=> ?_);refine ak ?_;refine aC ?_;refine⟨λhc=> ?_,λhc=> ?_⟩
 ·
  have bE:i<x.seen.length:=by omega
  obtain⟨s,hs⟩:=cG bE;have lj:x.seen.all (td hour n)=(td hour n s&&(x.seen.drop (i+1)).all (td hour n)):=by rw[hI,vf hs];rfl
  have hw:SE.wrap ((i:Int)+1)=((i+1:Nat):Int):=by rw[bD _ (by omega)];rfl
  refine aP ?_;refine aj ?_;simp only[seval,abR hs,jQ bE];refine eS 13 ?_;simp only[seval,cF,b4,j7 hn];refine w7 (λh2=> ?_) (λh2=> ?_)
  ·(try simp only[seval,cF,b4,j7 hn]);refine iH (bv (kM s.next n)) (bT (IK (b:=s.next) ⟨rfl,rfl⟩)) ?_;(try simp only[seval]);refine aC ?_;have hp:td hour n s=kM s.next n:=(by unfold td;rw[decide_eq_true (show s.hour=(hour:Int) by simpa using h2)];rfl);rw[hp]at lj;refine⟨λh3=> ?_,λh3=> ?_⟩
   ·refine ak ?_;refine a_ ?_;rw[abw,lj,h3]at hk;exact lB hH hk
   ·refine aP ?_;refine aj ?_;simp only[seval,hw];refine hR _ ⟨bE, ?_,(abn cm)⟩;rw[lj,h3];rfl
  ·(try simp only[seval]);refine aC ?_;refine aP ?_;have hp:td hour n s=true:=(by unfold td;rw[decide_eq_false (show ¬s.hour=(hour:Int) by simpa using h2)];rfl);rw[hp]at lj;refine aj ?_;simp only[seval,hw];refine hR _ ⟨bE, ?_,(abn cm)⟩;rw[lj];rfl
 ·
  have:i=x.seen.length:=by omega
  subst this;refine cq ?_;refine ak ?_;refine a_ ?_;rw[abw,hI,List.drop_length]at hk;exact bY hk
end
end Go.Gg
