/- A part of the proof. -/
import Derived.Test.YtkanpclgnhdbiaaGreatDoorTicketAllCard0
import Derived.Test.YtkanpclgnhdbiaaGreatDoorProg
import Derived.KernelRfl
set_option linter.all false
set_option maxRecDepth 4000
set_option maxHeartbeats 4000000
open Array renaming all_eq_true_iff_forall_mem->VM,ext'->WT,getD_eq_getD_getElem?->Ti,getElem?_append_left->Ze,getElem?_eq_getElem->Tn,getElem?_eq_none->ZA,getElem?_eq_some_iff->T5,getElem?_modify->Xn,getElem?_setIfInBounds_ne->T6,getElem?_setIfInBounds_self_of_lt->Ug,getElem_mem->YV,mem_iff_getElem?->ZF,mem_of_getElem?->X6,range->XK,replicate->UT,toList_map->W2
open BitVec renaming ofInt->Vj,toNat_or->ak_
open Bool renaming and_eq_true->Uh,eq_iff_iff->Vh,false_and->Wj,false_eq_true->UD,false_or->Y_,not_eq_true'->U0,not_true->af',or_eq_true->X_,true_and->Vt
open Classical renaming byContradiction->Uz
open ForInStep renaming yield->Z0
open Go renaming BinOp->Xf,Call->Ys,CallKind->Yh,Code->U_,Deferred->Yd,Field->ZY,Frame->VR,FrameMode->Wo,Func->ZD,FuncId->UW,IntKind->U3,Loop->ax1,LoopState->axk,Oper->Vo,Operand->Ur,Program->Tl,ResultVar->ac',TypeInfo->Xp,Value->Uf,World->Uu
open Go.Act renaming put->Y8
open Go.BinOp renaming eql->YI,neq->WZ
open Go.Call renaming operands->W7
open Go.CallKind renaming deferred->ZM,early->Wl,normal->Z9
open Go.Deferred renaming ofValue->Wi
open Go.Frame renaming catches->aw7,round->Yc
open Go.FrameMode renaming returning->Zr
open Go.GStep renaming after->U8
open Go.Instr renaming beginRound->YH,checkKey->Wr,endLoop->au',endRound->X8,enterLoop->XZ,findAsking->YG,findKey->W6,getLoop->XJ,sameBits->XC,takeDeferred->Z7
open Go.IntKind renaming bits->ax_,i64->Tg,signed->ax9,u16->Uc,u32->axG,u64->UE,wrap->Yf
open Go.LoopState renaming busy->ax0
open Go.Next renaming value->X7
open Go.Op renaming equal->XP,equalIn->WN,operands->Uy
open Go.Operand renaming tmp->ax7
open Go.Proofs.Tryz renaming f77->YN,f97->ax5,prog->S_
open Go.Region renaming binds->Zq,linearise->ad_,schedule->W4,wanted->Up
open Go.Region.linearise renaming go->VJ
open Go.Result.ok renaming inj->axW
open Go.Sem renaming runT->WW,runT_eq->UF
open Go.Value renaming agg->UC,bool->Yj,cells->axi,chan->YQ,int->Th,map->am_,nilFunc->ZU,slice->UO
open Go.stepG renaming exec->Vg
open Int renaming toNat_natCast->WU
open List renaming all_cons->aw3,all_eq_true->UB,any_cons->ZT,any_eq_true->U5,append_assoc->Te,append_nil->To,cons_append->Wv,contains_eq_mem->Vw,countP_le_length->Z5,drop_drop->axL,drop_eq_getElem_cons->UY,drop_eq_nil_of_le->U2,drop_zero->YA,ext_getElem?->Zo,filter_congr->Wm,filter_cons_of_neg->XX,filter_cons_of_pos->XW,foldl_cons->VO,foldl_nil->axa,forIn_cons->X4,getD_eq_getElem?_getD->Tf,getElem?_append_left->T4,getElem?_append_right->Ud,getElem?_cons_succ->VP,getElem?_eq_getElem->Tw,getElem?_eq_none->Vy,getElem?_eq_some_iff->Tq,getElem?_map->Ut,getElem?_set_ne->U6,getElem?_set_self->Yb,getElem?_take->Vm,getLastD_cons->al_,length_append->Tt,length_drop->Vr,length_map->Ue,length_set->UM,length_singleton->UJ,length_take->Ux,mapM_cons->Vb,mapM_nil->VH,mapM_toArray->Y3,map_congr_left->WR,map_cons->Wd,map_drop->axB,map_map->XN,map_take->Xd,mem_append->Tv,mem_append_left->Ul,mem_append_right->T_,mem_cons->Tm,mem_cons_of_mem->Uj,mem_cons_self->UH,mem_eraseDups->abM,mem_filter->Vl,mem_filterMap->Xc,mem_flatMap->T9,mem_map->Uo,mem_of_getElem?->T8,mem_range->UN,mem_range'->Y2,mem_toArray->UR,nil_append->VK,nodup_cons->Xe,nodup_nil->XM,not_mem_nil->T7,range->T1,range'->Vd,range'_append_1->aa_,range'_succ->W9,range_eq_range'->WE,replicate->UP,replicate_succ->Xx,reverse_nil->Y0,set_append_left->VX,set_append_right->Va,set_eq_take_append_cons_drop->YO,singleton_append->Z4,take_append_drop->Ww,take_of_length_le->Tx,take_succ_cons->Xb,take_zero->Z'
open Nat renaming add_mul->Wu,add_zero->VA,le_refl->Ts,le_trans->UK,lt_of_le_of_lt->ag_,lt_of_lt_of_le->Uk,lt_trans->Xr,lt_trichotomy->YZ,min_eq_left->Xz,mod_lt->ax3,mul_le_mul_right->UI,mul_one->YE,or_lt_two_pow->XL,pow_le_pow_right->VY,pow_lt_pow_right->Ye,reduceAdd->Tu,sub_self->Ws,sub_zero->aw',testBit_or->Yq,testBit_two_pow->W8,zero_add->Xv,zero_le->YX
open Option renaming bind_eq_some_iff->Um,getD_some->Ua,map_eq_some_iff->Uv,map_some->VS,some->Tp
open Option.some renaming injEq->Us
open Std.Legacy.Range renaming forIn_eq_forIn_range'->Xy,size->Yw
namespace Go.Gg
open Go.Conc
structure Kl (k:AV->Prop):Type where
 n:Nat
structure Kk (X:Bool->Prop)(Z:Prop):Type where
 n:Nat
def QG (a:AV)(X:Bool->Prop)(Z:Prop)(_t:Kk X Z):Prop:=(∃b,a=.val (.bool b)/\X b)\/(a=.val undef/\Z)
def ar9(b:Bool)(X:Bool->Prop)(Z:Prop)(t:Kk X Z):QG (.val (.bool b)) X Z t=X b:=by
 unfold QG;refine propext ⟨λh=> ?_,λh=> .inl ⟨b,rfl,h⟩⟩;rcases h with⟨b',e,h⟩|⟨e,_⟩
 ·cases e;exact h
 ·cases e
def asa(X:Bool->Prop)(Z:Prop)(t:Kk X Z):QG (.val undef) X Z t=Z:=by
 unfold QG;refine propext ⟨λh=> ?_,λh=> .inr ⟨rfl,h⟩⟩;rcases h with⟨b',e,_⟩|⟨_,h⟩
 ·cases e
 ·exact h
def Q2 (lv:Bool)(P:Tl)(f:AV)(H:SA)(aJ:SC)(k:SR)(_t:Kl k):Prop:=∃av,ju lv P f H aJ (λb H'=>b=av/\H'=H) (λ_ _=>False)/\k av
def agl (lv:Bool)(P:Tl)(f:AV)(name:String)(H:SA)(aJ:SC)(k:SR)(_t:Kl k):Prop:=∃av,Gp lv P f name H aJ (λb H'=>b=av/\H'=H) (λ_ _=>False)/\k av
def fE{lv:Bool}{P:Tl}{f:AV}{H:SA}{aJ:SC}{k:SR}{t:Kl k}(av:AV)(h:ju lv P f H aJ (λb H'=>b=av/\H'=H) (λ_ _=>False))(hk:k av):Q2 lv P f H aJ k t:=⟨av,h,hk⟩
section
variable (lv:Bool)(P:Tl)
def AQ (s:AS)(o:Vo)(k:SR):Prop:=match o.op with
 |.call c=>match c.callee with
  |.value x=>ao (s.ev x) λf=>ao (fG s c.args.toList) λaJ=>Q2 lv P f s.H aJ k ⟨0⟩
  |.invoke x name=>ao (s.ev x) λf=>ao (fG s c.args.toList) λaJ=>agl lv P f name s.H aJ k ⟨0⟩
  |.builtin .append=>match c.args.toList,c.argTypes.toList with
   |[x,y],[t,t']=>ao (jM P t t') λ(_,sz,_)=>ao (s.ev x) λa=>ao (s.ev y) λb=>a.wY λn l e=>e=.exact/\ao (s.src sz b) λ(m,l')=>l.length=n* sz/\l'.length=m* sz/\n+m<=2^30/\k (.sl (n+m) (l++l') .shut)
   |_,_=>False
  |_=>lW P s o k
 |_=>lW P s o k
def nI (all:SK):List Vo->AS->(SV)->Prop
 |[],s,K=>K s
 |o::rest,s,K=>match o.guard with
  |none=>AQ lv P s o λav=>nI all rest (s.put o.dst av) K
  |some (j,cw)=>ao ((all[j]?).bind (·.dst)) λd=>ao (look s.T d) λa=>QG a (λb=>rL b cw (AQ lv P ⟨(d,.val (.bool cw))::s.T,s.H⟩ o λav=>nI all rest ((⟨(d,.val (.bool cw))::s.T,s.H⟩:AS).put o.dst av) K) (nI all rest ((⟨(d,.val (.bool !cw))::s.T,s.H⟩:AS).put o.dst (.val undef)) K) ⟨0⟩) (nI all rest (s.put o.dst (.val undef)) K) ⟨0⟩
end
section
variable {lv:Bool}{P:Tl}{r:SL}{o:Vo}{s:AS}
def aeo{a:Act}{E:Env}{V:View}{av:AV}{N:S4}{Q:SJ}(h1:∀E' V' v,E.Le E'->V'.role=V.role->V'.deaf=V.deaf->Conc E' V' s.H->au E' av v->N (a.put o.dst v) V'):
  (∀nx V',Nx lv P (iA E V (λb H'=>b=av/\H'=s.H) (λ_ _=>False)) nx V'->nb lv P r o a N Q nx V')/\(∀v V',iA E V (λb H'=>b=av/\H'=s.H) (λ_ _=>False) (.panic [{v,recovered:=false}]) V'->Q (.panic [{v,recovered:=false}]) a V'):=by
 have hv:∀v V',iA E V (λb H'=>b=av/\H'=s.H) (λ_ _=>False) (.ret v) V'->N (a.put o.dst v) V':=λv V' ⟨b,E',H',hle,cy,fz,bx,bw,e1,e2⟩=>by
  subst e1 e2;exact h1 E' V' v hle cy fz bw bx
 have hp:∀ch V',iA E V (λb H'=>b=av/\H'=s.H) (λ_ _=>False) (.panic ch) V'->Q (.panic ch) a V':=λch V' ⟨pv,v,E',H',fy,hle,cy,fz,bx,bw,hk⟩=>hk.elim;refine⟨λnx V' hn=> ?_,λv V' h=>hp _ _ h⟩;cases nx with
 |value v=>exact hv _ _ hn
 |skip=>exact hv _ _ hn
 |enter f args=>
  refine Body.mono (R':=fun
   |.ret v,V'=>N (a.put o.dst v) V'
   |.panic ch,V'=>Q (.panic ch) a V') hn λot aV h=> ?_
  cases ot with
  |ret v=>exact hv _ _ h
  |panic ch=>exact hp _ _ h
 |round l f tmps aJ b=>
  refine nK.mono (R':=fun
   |.ret v,V'=>N (a.put o.dst v) V'
   |.panic ch,V'=>Q (.panic ch) a V') hn λot aV h=> ?_
  cases ot with
  |ret v=>exact hv _ _ h
  |panic ch=>exact hp _ _ h
 |_=>exact hn.elim
def arC{c:Ys}{x y:Ur}{t t' elem:TypeId}{sz n m:Nat}{z:Uf}{l l':SC}{av:AV}(ho:o.op=.call c)(bi:c.callee=.builtin .append)(cS:c.args=#[x,y]) (dz:c.argTypes=#[t,t']) (ht:jM P t t'=some (elem,sz,z))
  (hx:s.ev x=some (.sl n l .exact)) (hy:s.ev y=some av) (hs:s.src sz av=some (m,l')) (hl:l.length=n* sz) (fb:l'.length=m* sz) (hb:n+m<=2^30):dL lv P r o s (.sl (n+m) (l++l') .shut):=by
 intro E V a N Q hc aH bI hN;refine⟨bI,?_⟩;have dJ:=au.ev aH hx;have ji:=au.ev aH hy;generalize kI:a.eval x=vx at dJ;generalize sP:a.eval y=vy at ji;unfold execOp;rw[ho];dsimp only;unfold resolve;rw[bi];dsimp only;refine aA (ay ?_);unfold invoke builtin;dsimp only;refine aA ?_;have oh:c.args.map a.eval=#[vx,vy]:=by rw[cS];simp[kI,sP]
 rw[oh,dz];obtain⟨base,cap,rfl⟩:∃base cap,vx=.slice base n cap:=by
  cases dJ with
  |sl b o cap f eo he q1 q2=>exact⟨_,_,rfl⟩
  |nil he=>exact⟨_,_,rfl⟩
 have gz:cap=n:=by
  cases dJ with
  |sl b o cap f eo he q1 q2=>exact he
  |nil he=>rfl
 subst gz;have uy:(l++l').length=(cap+m)* sz:=by rw[Tt,hl,fb,Wu]
 by_cases hm:m=0
 ·subst hm;have sD:l'=[]:=by simpa using fb
  subst sD;refine Jx hc ht ji hs fb (Ts _) ?_;refine ay (hN E V _ (Env.Le.refl E) rfl rfl hc ?_);rw[VA,To];exact ff _ _ _ _ _ dJ
 ·refine Jw hc ht dJ ji hs hl fb hb (by omega) λrr cs cap' hf bx hle aZ=> ?_;obtain⟨bw,sE⟩:=hc.afA (el:=elem) hf aZ hle;have v4:(cap+m)* sz<=cs.size:=by rw[aZ];exact UI _ hle
  refine aU.ghost (yV (f:=(0,0)) (cs:=cs) (el:=elem) (p:=(·<(cap+m)* sz)) (by simp[View.upd]) (λo _=>hf.2 o)) ?_;have qX:=F3 (n:=s.H.length) (m:=s.H.length) (Ts _) (by simp[Env.tok,hc.n]) sE hc.n;refine ay (hN _ _ _ qX rfl rfl (bw.trim hc.aq) (K6 (I:=(V.laid rr cs elem (·<(cap+m)* sz)).ai) (e:=.shut) (sz:=sz) (cs:=cs) rfl (bx.mono qX) uy v4 (λo h=>IK (by simpa using h)) hle trivial))
def AQ.sound{k:SR}(h:AQ lv P s o k):∃av,dL lv P r o s av/\k av:=by
 unfold AQ at h;split at h
 ·rename_i c ho;split at h
  ·rename_i x bi;obtain⟨f,h1,hA⟩:=h.out;obtain⟨aJ,h2,hB⟩:=hA.out;obtain⟨av,h3,h4⟩:=hB;refine⟨av,λE V a N Q hc aH bI hN=> ?_,h4⟩;have sN:=aeo (lv:=lv) (P:=P) (r:=r) (o:=o) (Q:=Q) hN;refine⟨bI,?_⟩;unfold execOp;rw[ho];dsimp only;unfold resolve;rw[bi];dsimp only;have e:c.args.map a.eval=(c.args.toList.map a.eval).toArray:=(by apply WT;simp);rw[e];exact(h3 E V (a.eval x) _ hc (au.ev aH h1) (A2 aH h2)).mono (λnx V' h=>sN.1 nx V' h) (λv V' h=>sN.2 v V' h)
  ·rename_i x name bi;obtain⟨f,h1,hA⟩:=h.out;obtain⟨aJ,h2,hB⟩:=hA.out;obtain⟨av,h3,h4⟩:=hB;refine⟨av,λE V a N Q hc aH bI hN=> ?_,h4⟩;have sN:=aeo (lv:=lv) (P:=P) (r:=r) (o:=o) (Q:=Q) hN;refine⟨bI,?_⟩;unfold execOp;rw[ho];dsimp only;unfold resolve;rw[bi];dsimp only;refine aA (ay ?_);have e:c.args.map a.eval=(c.args.toList.map a.eval).toArray:=(by apply WT;simp);rw[e];exact(h3 E V (a.eval x) _ hc (au.ev aH h1) (A2 aH h2)).mono (λnx V' h=>sN.1 nx V' h) (λv V' h=>sN.2 v V' h)
  ·rename_i bi;split at h
   ·rename_i x y t t' ha ht;obtain⟨⟨elem,sz,z⟩,h1,hA⟩:=h.out;obtain⟨a,h2,hB⟩:=hA.out;obtain⟨b,h3,hC⟩:=hB.out;obtain⟨n,l,e,e1,e0,hD⟩:=Rh hC;subst e1 e0;obtain⟨⟨m,l'⟩,h4,h5,h6,h7,h8⟩:=hD.out;exact⟨_,arC ho bi (nO ha) (tw ht) h1 h2 h3 h4 h5 h6 h7,h8⟩
   ·exact h.elim
  ·exact h.sound
 ·exact h.sound
end
section
variable {lv:Bool}{P:Tl}{o:Vo}{T T':SH}{H:SA}{k:SR}
def Dw:∀(l:List Ur),(∀x∈l,AS.ev ⟨T,H⟩ x=AS.ev ⟨T',H⟩ x)->fG ⟨T,H⟩ l=fG ⟨T',H⟩ l
 |[],_=>rfl
 |x::l,h=>by simp only[fG,h x (UH ..),Dw l λy hy=>h y (Uj _ hy)]
def Lu:∀(l:List (Nat×Ur)),(∀x∈l,AS.ev ⟨T,H⟩ x.2=AS.ev ⟨T',H⟩ x.2)->kA ⟨T,H⟩ l=kA ⟨T',H⟩ l
 |[],_=>rfl
 |x::l,h=>by simp only[kA,h x (UH ..),Lu l λy hy=>h y (Uj _ hy)]
def mapM_congr:∀(l:List Ur),(∀x∈l,AS.ev ⟨T,H⟩ x=AS.ev ⟨T',H⟩ x)->l.mapM (AS.ev ⟨T,H⟩)=l.mapM (AS.ev ⟨T',H⟩)
 |[],_=>rfl
 |x::l,h=>by simp only[Vb,h x (UH ..),mapM_congr l λy hy=>h y (Uj _ hy)]
def KN(x:Option Ur)(h:∀y,x=some y->AS.ev ⟨T,H⟩ y=AS.ev ⟨T',H⟩ y):AS.jw ⟨T,H⟩ x=AS.jw ⟨T',H⟩ x:=by
 cases x with
 |none=>rfl
 |some y=>simp only[AS.jw,h y rfl]
def agu{op:Xf}{t:TypeId}{y:Ur}{a:AV}(h:AS.ev ⟨T,H⟩ y=AS.ev ⟨T',H⟩ y):jc P ⟨T,H⟩ op t y a k=jc P ⟨T',H⟩ op t y a k:=by
 unfold jc;split<;>first|rfl|rw[h]
def lW.congr(h:∀x∈o.op.operands,AS.ev ⟨T,H⟩ x=AS.ev ⟨T',H⟩ x)(ha:lW P ⟨T,H⟩ o k):lW P ⟨T',H⟩ o k:=by
 unfold lW at ha⊢;generalize o.op=op at h ha⊢;cases op with
 |call c=>
  have cS:∀x∈c.args,AS.ev ⟨T,H⟩ x=AS.ev ⟨T',H⟩ x:=λx hx=>h x (by simp[Uy,W7,hx]);dsimp only at ha⊢;split at ha
  ·obtain⟨x,h1,hA⟩:=ha.out;rw[h1,ao];obtain⟨t,h2,hB⟩:=hA.out;rw[h2,ao];rw[<- cS x (X6 h1)];obtain⟨a,h3,hC⟩:=hB.out;rw[h3,ao];exact hC
  ·split at ha
   ·rename_i x y MB;have:=nO MB;rw[this]at cS;rw[<- cS x (by simp),<- cS y (by simp)];exact ha
   ·exact ha.elim
  ·split at ha
   ·rename_i x y MB;have:=nO MB;rw[this]at cS;rw[<- cS x (by simp),<- cS y (by simp)];exact ha
   ·exact ha.elim
  ·exact ha.elim
 |build t parts=>
  dsimp only at ha⊢;rw[<- Lu parts.toList λx hx=>h x.2 (by simp only[Uy,UR,Uo];exact⟨x,hx,rfl⟩)];exact ha
 |buildSlice t n parts=>
  dsimp only at ha⊢;rw[<- Lu parts.toList λx hx=>h x.2 (by simp only[Uy,UR,Uo];exact⟨x,hx,rfl⟩)];exact ha
 |makeFunc f first cZ=>
  dsimp only at ha⊢;rw[<- mapM_congr first.toList λx hx=>h x (by simp[Uy];exact .inl (by simpa using hx)),<- mapM_congr cZ.toList λx hx=>h x (by simp[Uy];exact .inr (by simpa using hx))];exact ha
 |slice t x lo hi mx=>
  dsimp only at ha⊢;rw[<- h x (by simp[Uy]),<- KN lo λy hy=>h y (by simp[Uy,hy]),<- KN hi λy hy=>h y (by simp[Uy,hy]),<- KN mx λy hy=>h y (by simp[Uy,hy])];exact ha
 |pick c a b=>dsimp only at ha⊢;rw[<- h c (by simp[Uy]),<- h a (by simp[Uy]),<- h b (by simp[Uy])];exact ha
 |binOp op t a b u=>
  dsimp only at ha⊢;rw[<- h a (by simp[Uy])];obtain⟨x,h1,hA⟩:=ha.out;rw[h1,ao];rw[<- agu (h b (by simp[Uy]))];exact hA
 |indexAddr t a b=>dsimp only at ha⊢;rw[<- h a (by simp[Uy]),<- h b (by simp[Uy])];exact ha
 |index t a b=>dsimp only at ha⊢;rw[<- h a (by simp[Uy]),<- h b (by simp[Uy])];exact ha
 |move x=>dsimp only at ha⊢;rw[<- h x (by simp[Uy])];exact ha
 |assign x=>dsimp only at ha⊢;rw[<- h x (by simp[Uy])];exact ha
 |unOp op t x=>cases op<;>dsimp only at ha⊢<;>first|exact ha.elim|(rw[<- h x (by simp[Uy])];exact ha)
 |convert a b x=>dsimp only at ha⊢;rw[<- h x (by simp[Uy])];exact ha
 |lookup t m x ok=>dsimp only at ha⊢;rw[<- h m (by simp[Uy]),<- h x (by simp[Uy])];exact ha
 |extract x i=>dsimp only at ha⊢;rw[<- h x (by simp[Uy])];exact ha
 |nilCheck x=>dsimp only at ha⊢;rw[<- h x (by simp[Uy])];exact ha
 |makeInterface t x=>dsimp only at ha⊢;rw[<- h x (by simp[Uy])];exact ha
 |typeAssert x a b c=>dsimp only at ha⊢;rw[<- h x (by simp[Uy])];exact ha
 |fieldAddr t x f=>dsimp only at ha⊢;rw[<- h x (by simp[Uy])];exact ha
 |field t x f=>dsimp only at ha⊢;rw[<- h x (by simp[Uy])];exact ha
 |load t x=>dsimp only at ha⊢;rw[<- h x (by simp[Uy])];exact ha
 |entry x=>dsimp only at ha⊢;rw[<- h x (by simp[Uy])];exact ha
 |_=>exact ha.elim
def atA(sz:Nat)(a:AV):AS.src ⟨T,H⟩ sz a=AS.src ⟨T',H⟩ sz a:=by cases a<;>rfl
def AQ.congr(h:∀x∈o.op.operands,AS.ev ⟨T,H⟩ x=AS.ev ⟨T',H⟩ x)(ha:AQ lv P ⟨T,H⟩ o k):AQ lv P ⟨T',H⟩ o k:=by
 unfold AQ at ha⊢;split at ha
 ·rename_i c ho;have cS:∀x∈c.args.toList,AS.ev ⟨T,H⟩ x=AS.ev ⟨T',H⟩ x:=λx hx=>h x (by rw[ho];simp[Uy,W7];exact .inr (by simpa using hx));split at ha
  ·rename_i x bi;rw[<- h x (by rw[ho];simp[Uy,W7,bi]),<- Dw _ cS];exact ha
  ·rename_i x name bi;rw[<- h x (by rw[ho];simp[Uy,W7,bi]),<- Dw _ cS];exact ha
  ·split at ha
   ·rename_i x y t t' hx ht;rw[hx]at cS;rw[<- cS x (by simp),<- cS y (by simp)];simp only[atA (T:=T) (T':=T')]at ha;exact ha
   ·exact ha.elim
  ·exact lW.congr h ha
 ·exact lW.congr h ha
end
def dc (ops:SK)(j:Nat):Option Nat:=(ops[j]?).bind (·.dst)
inductive Reach (ops:Array Vo):Nat->Nat->Prop
 |Lj {i j:Nat} {o:Vo} (ho:ops[i]?=some o) (hj:j∈cX o):Reach ops i j
 |more {i k j:Nat} {o:Vo} (ho:ops[i]?=some o) (hk:k∈cX o) (h:Reach ops k j):Reach ops i j
def vg (acc:List (SE))(o:Vo):List (SE):=acc++[(cX o++(cX o).flatMap λj=>acc.getD j []).eraseDups]
def KW (ops:SK):List (SE):=ops.toList.foldl vg []
def R9(ops:SK):∀(l:List Vo)(acc:List (SE))(i:Nat),acc.length=i->(∀k o,l[k]?=some o->ops[i+k]?=some o)->(∀a,a<acc.length->∀j∈acc.getD a [],Reach ops a j)->
  ∀a,∀j∈(l.foldl vg acc).getD a [],Reach ops a j
 |[],acc,i,_,_,h,a,j,hj=>by
  simp only[axa]at hj;by_cases ha:a<acc.length
  ·exact h a ha j hj
  ·rw[Tf,Vy (by omega)]at hj;simp at hj
 |o::l,acc,i,hi,ho,h,a,j,hj=>by
  rw[VO]at hj;refine R9 ops l (vg acc o) (i+1) (by simp[vg,hi]) (λk o' hk=>by have:=ho (k+1) o' (by simpa using hk);rwa[show i+(k+1)=i+1+k by omega]at this) (λa ha j hj=> ?_) a j hj;have Ia:ops[i]?=some o:=by have:=ho 0 o rfl;simpa using this
  have sx:∀a,a<acc.length->(vg acc o).getD a []=acc.getD a []:=λa ha=>by
   simp[vg,Tf,T4 ha]
  by_cases gL:a<acc.length
  ·rw[sx a gL]at hj;exact h a gL j hj
  ·have hae:a=acc.length:=(by simp[vg]at ha;omega);subst hae;have e:(vg acc o).getD acc.length []=(cX o++(cX o).flatMap λj=>acc.getD j []).eraseDups:=by
    simp[vg,Tf]
   rw[e,abM,Tv]at hj;rw[hi];rcases hj with hj|hj
   ·exact .Lj Ia hj
   ·obtain⟨k,hk,hj⟩:=T9.1 hj;have Et:k<acc.length:=by
     apply Uz;intro hn;rw[Tf,Vy (by omega)]at hj;simp at hj
    exact .more Ia hk (h k Et j hj)
def AY (nt p:Nat)(ops:SK):Bool:=
 let cl:=KW ops;decide (p<=ops.size)&&
 (T1 ops.size).all (λi=>match ops[i]?with
  |some o=>o.dst.all (·<nt)&& !mQ o.op&&(cX o).all (·<i)&&
   (if i<p then
    (T1 i).all (λj=>match o.dst,dc ops j with
     |some d,some d'=>d !=d'
     |_,_=>true)&&
    (o.op.operands.toList.all λx=>match x with
     |.tmp t=>(T1 p).all λj=>dc ops j !=some t||(cX o).contains j
     |_=>true)&&
    (match o.guard with
     |some (j,_)=>(cX o).contains j
     |none=>true)
   else(T1 i).all λj=>(cl.getD i []).contains j)
  |none=>true)
structure Az (nt p:Nat)(ops:Array Vo):Prop where
 le:p<=ops.size
 dst:∀(i:Nat) o d,ops[i]?=some o->o.dst=some d->d<nt
 w_:∀(i:Nat) o,ops[i]?=some o->mQ o.op=false
 low:∀(i:Nat) o,ops[i]?=some o->∀j∈cX o,j<i
 d_:∀(i j:Nat) o d,j<i->i<p->ops[i]?=some o->o.dst=some d->dc ops j≠some d
 Pj:∀(i:Nat) o t j,i<p->ops[i]?=some o-> .tmp t∈o.op.operands->j<p->dc ops j=some t->j∈cX o
 DN:∀(i:Nat) o j w,i<p->ops[i]?=some o->o.guard=some (j,w)->j∈cX o
 suf:∀(i j:Nat),p<=i->i<ops.size->j<i->Reach ops i j
def AY.out{nt p:Nat}{ops:SK}(h:AY nt p ops=true):Az nt p ops:=by
 unfold AY at h;simp only[Uh,decide_eq_true_eq]at h;obtain⟨hle,h⟩:=h;have key:∀(i:Nat) o,ops[i]?=some o->(o.dst.all (·<nt)=true/\mQ o.op=false/\(∀j∈cX o,j<i))/\
   (if i<p then
    (T1 i).all (λj=>match o.dst,dc ops j with
     |some d,some d'=>d !=d'
     |_,_=>true)&&
    (o.op.operands.toList.all λx=>match x with
     |.tmp t=>(T1 p).all λj=>dc ops j !=some t||(cX o).contains j
     |_=>true)&&
    (match o.guard with
     |some (j,_)=>(cX o).contains j
     |none=>true)
   else(T1 i).all λj=>((KW ops).getD i []).contains j)=true:=λi o ho=>by
  have hi:i<ops.size:=(T5.1 ho).1;have:=UB.1 h i (by simpa using hi);rw[ho]at this;simp only[Uh,UB,U0,decide_eq_true_eq]at this;exact⟨⟨this.1.1.1,this.1.1.2,this.1.2⟩,by simpa only[Uh,UB]using this.2⟩
 refine⟨hle,λi o d ho hd=> ?_,λi o ho=>(key i o ho).1.2.1,λi o ho=>(key i o ho).1.2.2,λi j o d hj hp ho hd e=> ?_,λi o t j hp ho ht hj e=> ?_,λi o j w hp ho hg=> ?_,λi j hp hi hj=> ?_⟩
 ·have:=(key i o ho).1.1;rw[hd]at this;simpa using this
 ·have:=(key i o ho).2;rw[if_pos hp]at this;simp only[Uh,UB]at this;have:=this.1.1 j (by simpa using hj);rw[hd,e]at this;simp at this
 ·have:=(key i o ho).2;rw[if_pos hp]at this;simp only[Uh,UB]at this;have:=this.1.2 (.tmp t) (by simpa using ht);simp only[UB]at this;have:=this j (by simpa using hj);rw[e]at this;simpa using this
 ·have:=(key i o ho).2;rw[if_pos hp]at this;simp only[Uh]at this;have:=this.2;rw[hg]at this;simpa using this
 ·have:=(key i ops[i] (Tn hi)).2;rw[if_neg (by omega)]at this;simp only[UB]at this;have:=this j (by simpa using hj);refine R9 ops ops.toList [] 0 rfl (λk o hk=>by simpa using hk) (by simp) i j ?_;simpa[KW]using this
def aaR{α β:Type}{f g:α->Option β}:∀{l:List α},(∀x∈l,f x=g x)->l.filterMap f=l.filterMap g
 |[],_=>rfl
 |x::l,h=>by
  have ih:=aaR (l:=l) λy hy=>h y (Uj _ hy);simp only[List.filterMap_cons,h x (UH ..),ih]
def ly (ops:SK)(f:Nat->AV)(o:Vo):List (Nat×AV):=(cX o).filterMap λj=>(dc ops j).map λd=>(d,f j)
def wM (lv:Bool)(P:Tl)(r:SL)(ops:SK)(T0:SH)(H:SA)(f:Nat->AV)(i:Nat)(o:Vo):Prop:=
 match o.guard with
 |none=>dL lv P r o ⟨ly ops f o++T0,H⟩ (f i)
 |some (j,cw)=>∃d,dc ops j=some d/\((∃b,look (ly ops f o++T0) d=some (.val (.bool b))/\(b=cw->dL lv P r o ⟨ly ops f o++T0,H⟩ (f i))/\(b= !cw->f i=.val undef))\/(look (ly ops f o++T0) d=some (.val undef)/\f i=.val undef))
def wu(l m:SH)(t:Nat):look (l++m) t=(look l t).or (look m t):=by
 induction l with
 |nil=>rfl
 |cons x l ih=>
  obtain⟨k,a⟩:=x;simp only[Wv,look];split
  ·rfl
  ·exact ih
def po{l:SH}{t:Nat}{a:AV}(h:look l t=some a):(t,a)∈l:=by
 induction l with
 |nil=>cases h
 |cons x l ih=>
  obtain⟨k,b⟩:=x;simp only[look]at h;split at h
  ·rename_i e;subst e;cases h;exact UH ..
  ·exact Uj _ (ih h)
def OZ{l:SH}{t:Nat}(h:∀p∈l,p.1≠t):look l t=none:=by
 induction l with
 |nil=>rfl
 |cons x l ih=>
  obtain⟨k,b⟩:=x;simp only[look];rw[if_neg (h _ (UH ..))];exact ih λp hp=>h p (Uj _ hp)
def apN{l:SH}{q:Nat->Bool}{t:Nat}:look (l.filter λp=>q p.1) t=if q t then look l t else none:=by
 induction l with
 |nil=>simp[look]
 |cons x l ih=>
  obtain⟨k,b⟩:=x;by_cases hk:q k=true
  ·rw[XW (by simpa using hk)];simp only[look];by_cases e:k=t
   ·subst e;simp[hk]
   ·simp[e,ih]
  ·rw[XX (by simpa using hk),ih];simp only[look];by_cases e:k=t
   ·subst e;simp[hk]
   ·simp[e]
section
variable {ops:SK}{f:Nat->AV}{p:Nat}
def apL{o:Vo}{j t:Nat}(hj:j∈cX o)(ht:dc ops j=some t)(zw:∀j'∈cX o,dc ops j'=some t->j'=j):look (ly ops f o) t=some (f j):=by
 cases e:look (ly ops f o) t with
 |none=>
  exfalso;have hm:(t,f j)∈ly ops f o:=Xc.2 ⟨j,hj,by rw[ht];rfl⟩;have:∀(l:SH),(t,f j)∈l->look l t≠none:=by
   intro l;induction l with
   |nil=>intro h;cases h
   |cons x l ih=>
    intro h;obtain⟨k,b⟩:=x;simp only[look];split
    ·simp
    ·rename_i aF;rcases Tm.1 h with h|h
     ·cases h;exact absurd rfl aF
     ·exact ih h
  exact this _ hm e
 |some a=>
  obtain⟨j',iT,e'⟩:=Xc.1 (po e);obtain⟨d,hd,e'⟩:=Uv.1 e';cases e';rw[zw j' iT hd]
def apM{o:Vo}{t:Nat}(h:∀j∈cX o,dc ops j≠some t):look (ly ops f o) t=none:=by
 refine OZ λx hx e=> ?_;obtain⟨j,hj,e'⟩:=Xc.1 hx;obtain⟨d,hd,e'⟩:=Uv.1 e';cases e';exact h j hj (by rw[hd];exact congrArg some e)
end
section
variable {lv:Bool}{P:Tl}{r:SL}{s:AS}{ops:SK}{nt p:Nat}
def vd (s:AS)(ops:SK)(p:Nat):List (Nat×AV):=s.T.filter λx=>(T1 p).all λj=>dc ops j !=some x.1
def IT(t:Nat):look (vd s ops p) t=if(T1 p).all (λj=>dc ops j !=some t)then look s.T t else none:=apN (q:=λt=>(T1 p).all λj=>dc ops j !=some t)
structure pD (s:AS)(ops:Array Vo)(fs:SC)(s':AS):Prop where
 H:s'.H=s.H
 new:∀j t,j<fs.length->dc ops j=some t->look s'.T t=fs[j]?
 old:∀t,(∀j,j<fs.length->dc ops j≠some t)->look s'.T t=look s.T t
def pD.put(aq:Az nt p ops){fs:SC}{s':AS}(h:pD s ops fs s')(hp:fs.length<p){o:Vo}(ho:ops[fs.length]?=some o)(av:AV):pD s ops (fs++[av]) (s'.put o.dst av):=by
 have hd:dc ops fs.length=o.dst:=by simp[dc,ho]
 refine⟨by rw[fK];exact h.H,λj t hj ht=> ?_,λt ht=> ?_⟩
 ·simp only[Tt,UJ]at hj;by_cases Nh:j=fs.length
  ·subst Nh;rw[hd]at ht;rw[ht];simp[AS.put,look]
  ·have iT:j<fs.length:=(by omega);rw[T4 iT,<- h.new j t iT ht];cases ug:o.dst with
   |none=>rfl
   |some d=>
    have aF:d≠t:=λe=>aq.d_ fs.length j o d iT hp ho ug (by rw[e];exact ht);simp[AS.put,look,aF]
 ·have hold:=h.old t λj hj=>ht j (by simp;omega);rw[<- hold];cases ug:o.dst with
  |none=>rfl
  |some d=>
   have aF:d≠t:=λe=>ht fs.length (by simp) (by rw[hd,ug,e]);simp[AS.put,look,aF]
def pD.sU{fs:SC}{s':AS}(h:pD s ops fs s'){d:Nat}{a:AV}(hd:look s'.T d=some a):pD s ops fs ⟨(d,a)::s'.T,s'.H⟩:=by
 have e:∀t,look ((d,a)::s'.T) t=look s'.T t:=λt=>by
  simp only[look];split
  ·rename_i e;subst e;exact hd.symm
  ·rfl
 exact⟨h.H,λj t hj ht=>by rw[e];exact h.new j t hj ht,λt ht=>by rw[e];exact h.old t ht⟩
def pD.seen(aq:Az nt p ops){fs gs:SC}{s':AS}(h:pD s ops fs s')(hp:fs.length<p){o:Vo}(ho:ops[fs.length]?=some o){t:Nat}(ht:∀j,j<p->dc ops j=some t->j∈cX o):
  look (ly ops (λj=>(fs++gs).getD j (.val undef)) o++vd s ops p) t=look s'.T t:=by
 have iO:=aq.low fs.length o ho;have aol:∀j j',j<p->j'<p->dc ops j=some t->dc ops j'=some t->j'=j:=λj j' hj iT e e'=>by
  have get:∀i,i<p->∃o,ops[i]?=some o:=λi hi=>⟨_,Tn (Uk hi aq.le)⟩;rcases YZ j j' with hlt|hlt|hlt
  ·obtain⟨o',bt⟩:=get j' iT;exact absurd e (aq.d_ j' j o' t hlt iT bt (by simpa[dc,bt]using e'))
  ·exact hlt.symm
  ·obtain⟨o',bt⟩:=get j hj;exact absurd e' (aq.d_ j j' o' t hlt hj bt (by simpa[dc,bt]using e))
 rw[wu];by_cases hex:∃j,j<p/\dc ops j=some t
 ·obtain⟨j,hj,xD⟩:=hex;have iN:=ht j hj xD;have dW:=iO j iN;rw[apL iN xD λj' iT e=>aol j j' hj (Xr (iO j' iT) hp) xD e];rw[h.new j t dW xD];simp[Tf,T4 dW,Tw dW]
 ·have fS:∀j,j<p->dc ops j≠some t:=λj hj e=>hex ⟨j,hj,e⟩;rw[apM λj hj=>fS j (Xr (iO j hj) hp),Option.none_or,IT,if_pos (by simp only[UB];intro j hj;simpa using fS j (by simpa using hj))];exact(h.old t λj hj=>fS j (by omega)).symm
def Jq(aq:Az nt p ops){K:SV}:∀(n:Nat)(fs:SC)(s':AS),fs.length+n=p->pD s ops fs s'->nI lv P ops ((ops.toList.take p).drop fs.length) s' K->
  ∃gs,(fs++gs).length=p/\(∀i o,fs.length<=i->i<p->ops[i]?=some o->wM lv P r ops (vd s ops p) s.H (λj=>(fs++gs).getD j (.val undef)) i o)/\∃dA,pD s ops (fs++gs) dA/\K dA
 |0,fs,s',hn,hr,h=>by
  have:(ops.toList.take p).drop fs.length=[]:=by
   apply U2;simp;omega
  rw[this]at h;exact⟨[],by simp;omega,λi o h1 h2=>absurd h2 (by omega),s',by simpa using hr,h⟩
 |n+1,fs,s',hn,hr,h=>by
  have hp:fs.length<p:=by omega
  have aZ:fs.length<ops.size:=Uk hp aq.le;have ho:ops[fs.length]?=some ops[fs.length]:=Tn aZ;generalize BG:ops[fs.length]=o at ho;have hd:(ops.toList.take p).drop fs.length=o::(ops.toList.take p).drop (fs.length+1):=by
   rw[UY (by simp;omega)];simp[BG]
  rw[hd]at h;have anx:∀t,ax7 t∈o.op.operands->∀j,j<p->dc ops j=some t->j∈cX o:=λt ht j hj e=>aq.Pj fs.length o t j hp ho ht hj e;have cq:∀(s1:AS)(gs:SC),pD s ops fs s1->∀x∈o.op.operands,AS.ev s1 x=AS.ev ⟨ly ops (λj=>(fs++gs).getD j (.val undef)) o++vd s ops p,s.H⟩ x:=λs1 gs EJ x hx=>by
   cases x with
   |tmp t=>exact(EJ.seen aq hp ho (anx t hx)).symm
   |_=>rfl
  have go:∀(s1:AS),pD s ops fs s1->(AQ lv P s1 o λav=>nI lv P ops ((ops.toList.take p).drop (fs.length+1)) (s1.put o.dst av) K)->
    ∃av gs,(fs++av::gs).length=p/\dL lv P r o ⟨ly ops (λj=>(fs++av::gs).getD j (.val undef)) o++vd s ops p,s.H⟩ av/\(∀i o,fs.length+1<=i->i<p->ops[i]?=some o->wM lv P r ops (vd s ops p) s.H (λj=>(fs++av::gs).getD j (.val undef)) i o)/\∃dA,pD s ops (fs++av::gs) dA/\K dA:=λs1 EJ h1=>by
   obtain⟨av0,_,_⟩:=h1.sound (r:=r);have ep:s1=⟨s1.T,s.H⟩:=(by rw[<- EJ.H]);rw[ep]at h1;have h2:=AQ.congr (T':=ly ops (λj=>(fs++[]).getD j (.val undef)) o++vd s ops p) (λx hx=>by rw[<- ep];exact cq s1 [] EJ x hx) h1;obtain⟨av,hq,h3⟩:=h2.sound (r:=r);obtain⟨gs,g1,g2,dA,g3,g4⟩:=Jq aq n (fs++[av]) (s1.put o.dst av) (by simp;omega) (EJ.put aq hp ho av) (by rw[<- ep]at h3;simpa using h3);have e:fs++[av]++gs=fs++av::gs:=(by simp);rw[e]at g1 g2 g3;refine⟨av,gs,g1,?_,λi o hi=>g2 i o (by simpa using hi),dA,g3,g4⟩;have ed:ly ops (λj=>(fs++av::gs).getD j (.val undef)) o=ly ops (λj=>(fs++[]).getD j (.val undef)) o:=by
    unfold ly;apply aaR;intro j hj;have dW:=aq.low fs.length o ho j hj;simp[Tf,T4 dW]
   rw[ed];exact hq
  simp only[nI]at h;split at h
  ·rename_i hg;obtain⟨av,gs,g1,g2,g3,g4⟩:=go s' hr h;refine⟨av::gs,g1,λi o' hi o0 bt=> ?_,g4⟩;by_cases dK:i=fs.length
   ·subst dK;rw[ho]at bt;cases bt;unfold wM;rw[hg];simpa[Tf]using g2
   ·exact g3 i o' (by omega) o0 bt
  ·rename_i j cw hg;obtain⟨d,gM,hA⟩:=h.out;obtain⟨a,fC,hB⟩:=hA.out;have iN:=aq.DN fs.length o j cw hp ho hg;have dW:=aq.low fs.length o ho j iN;have NR:∀gs,look (ly ops (λj=>(fs++gs).getD j (.val undef)) o++vd s ops p) d=some a:=λgs=>by
    rw[hr.seen aq hp ho λj' iT e=> ?_]
    ·exact fC
    ·have get:∀i,i<p->∃o,ops[i]?=some o:=λi hi=>⟨_,Tn (Uk hi aq.le)⟩;rcases YZ j j' with hlt|hlt|hlt
     ·obtain⟨o',bt⟩:=get j' iT;exact absurd gM (aq.d_ j' j o' d hlt iT bt (by simpa[dc,bt]using e))
     ·rw[<- hlt];exact iN
     ·obtain⟨o',bt⟩:=get j (by omega);exact absurd e (aq.d_ j j' o' d hlt (by omega) bt (by simpa[dc,bt]using gM))
   rcases hB with⟨b,e1,hC,hD⟩|⟨e1,hZ⟩
   rotate_left
   ·subst e1;obtain⟨gs,g1,g2,dA,g3,g4⟩:=Jq aq n (fs++[.val undef]) _ (by simp;omega) (hr.put aq hp ho (.val undef)) (by simpa using hZ);have e:fs++[.val undef]++gs=fs++ .val undef::gs:=(by simp);rw[e]at g1 g2 g3;refine⟨.val undef::gs,g1,λi o' hi o0 bt=> ?_,dA,g3,g4⟩;by_cases dK:i=fs.length
    ·subst dK;rw[ho]at bt;cases bt;unfold wM;rw[hg];exact⟨d,gM,.inr ⟨NR _,by simp[Tf]⟩⟩
    ·exact g2 i o' (by simp;omega) o0 bt
   subst e1;by_cases hb:b=cw
   ·subst hb;obtain⟨av,gs,g1,g2,g3,g4⟩:=go _ (hr.sU fC) (hC rfl);refine⟨av::gs,g1,λi o' hi o0 bt=> ?_,g4⟩;by_cases dK:i=fs.length
    ·subst dK;rw[ho]at bt;cases bt;unfold wM;rw[hg];refine⟨d,gM,.inl ⟨b,NR _,λ_=>by simpa[Tf]using g2,λe=>by cases b<;>cases e⟩⟩
    ·exact g3 i o' (by omega) o0 bt
   ·have dO:b= !cw:=(by cases b<;>cases cw<;>simp_all);subst dO;have h3:=hD rfl;obtain⟨gs,g1,g2,dA,g3,g4⟩:=Jq aq n (fs++[.val undef]) _ (by simp;omega) ((hr.sU fC).put aq hp ho (.val undef)) (by simpa using h3);have e:fs++[.val undef]++gs=fs++ .val undef::gs:=(by simp);rw[e]at g1 g2 g3;refine⟨.val undef::gs,g1,λi o' hi o0 bt=> ?_,dA,g3,g4⟩;by_cases dK:i=fs.length
    ·subst dK;rw[ho]at bt;cases bt;unfold wM;rw[hg];exact⟨d,gM,.inl ⟨!cw,NR _,λe=>absurd e hb,λ_=>by simp[Tf]⟩⟩
    ·exact g2 i o' (by simp;omega) o0 bt
structure Ke (E:Env)(V:View)(ops:Array Vo)(T0:List (Nat×AV))(H:SA)(f:Nat->AV)(X:SE)(a:Act)(nt:Nat):Prop where
 bB:Conc E V H
 base:cC E T0 a.tmps
 done:∀i∈X,∀d,dc ops i=some d->au E (f i) (a.tmps.getD d undef)
 size:a.tmps.size=nt
def Cj{X:SE}(hX:∀i∈X,∀o,ops[i]?=some o->∀j∈cX o,j∈X){i j:Nat}(h:Reach ops i j):(∀o,ops[i]?=some o->∀k∈cX o,k∈X)->j∈X:=by
 induction h with
 |Lj ho hj=>intro hd;exact hd _ ho _ hj
 |more ho hk _ ih=>intro hd;exact ih (hX _ (hd _ ho _ hk))
def asW(aq:Az nt p ops){X l:SE}(hs:my ops X l):∀q,p<=q->q<=ops.size->(∀i,i∈X<->i<q)->(∀i∈X,∀o,ops[i]?=some o->∀j∈cX o,j∈X)->l=Vd q (ops.size-q):=by
 induction hs with
 |nil X h=>
  intro q hp hq hX _;have:ops.size<=q:=by
   apply Uz;intro hn;have:=(hX q).1 (h q (by omega));omega
  have:ops.size-q=0:=by omega
  rw[this];rfl
 |cons o ho hn hd _ ih=>
  rename_i X i l _;intro q hp hq hX hc;have hi:i<ops.size:=(T5.1 ho).1;have hiq:q<=i:=by
   apply Uz;intro h;exact hn ((hX i).2 (by omega))
  have hqi:i=q:=by
   apply Uz;intro aF;have:=Cj hc (aq.suf i q (by omega) hi (by omega)) (λo' bt k hk=>by rw[ho]at bt;cases bt;exact hd k hk);have:=(hX q).1 this;omega
  subst hqi;have e:ops.size-i=(ops.size-(i+1))+1:=by omega
  rw[e,W9];congr 1;refine ih (i+1) (by omega) (by omega) (λk=> ?_) (λk hk o' bt j hj=> ?_)
  ·simp only[Tm,hX];omega
  ·rcases Tm.1 hk with rfl|hk
   ·rw[ho]at bt;cases bt;exact Uj _ (hd j hj)
   ·exact Uj _ (hc k hk o' bt j hj)
def ajl{T0:SH}{H:SA}{f:Nat->AV}(aq:Az nt p ops)(amm:∀j,j<p->∀d,dc ops j=some d->look T0 d=none)(az:∀(i:Nat) o,i<p->ops[i]?=some o->wM lv P r ops T0 H f i o){X l:SE}(hs:my ops X l):
  (∀i∈X,i<p)->(∀i∈X,∀o,ops[i]?=some o->∀j∈cX o,j∈X)->∀(E:Env)(V:View)(a:Act)(Q:SJ),Ke E V ops T0 H f X a nt->
   (∀E' V' a' X',Kept E E' V V' a a'->Ke E' V' ops T0 H f X' a' nt->(∀i,i<p->i∈X')->dD lv P r ops Q (Vd p (ops.size-p)) a' V')->dD lv P r ops Q l a V:=by
 have full:∀X:SE,(∀i∈X,i<p)->(∀i,i<p->i∈X)->∀i,i∈X<->i<p:=λX h1 h2 i=>⟨h1 i,h2 i⟩;induction hs with
 |nil X h=>
  intro hX hc E V a Q aj hQ;have fU:p=ops.size:=by
   apply Uz;intro aF;have:=hX p (h p (by have:=aq.le;omega));omega
  have:=hQ E V a X (Kept.refl E V a) aj (λi hi=>h i (by omega));rw[fU,Ws]at this;exact this
 |cons o ho hn hd mc ih=>
  rename_i X i l;intro hX hc E V a Q aj hQ;have hi:i<ops.size:=(T5.1 ho).1;by_cases o0:i<p
  ·simp only[dD,ho];have oU:∀k∈i::X,k<p:=λk hk=>(Tm.1 hk).elim (λe=>by rw[e];exact o0) (hX k);have bw:∀k∈i::X,∀o',ops[k]?=some o'->∀j∈cX o',j∈i::X:=λk hk o' bt j hj=>by
    rcases Tm.1 hk with rfl|hk
    ·rw[ho]at bt;cases bt;exact Uj _ (hd j hj)
    ·exact Uj _ (hc k hk o' bt j hj)
   have tok:cC E (ly ops f o++T0) a.tmps:=by
    intro t av e;rw[wu]at e;cases hl:look (ly ops f o) t with
    |none=>rw[hl]at e;exact aj.base t av e
    |some x=>
     rw[hl]at e;cases e;obtain⟨j,hj,e⟩:=Xc.1 (po hl);obtain⟨d,cH,e⟩:=Uv.1 e;cases e;obtain⟨oj,kV,jB⟩:=Um.1 cH;exact⟨by rw[aj.size];exact aq.dst j oj _ kV jB,aj.done j (hd j hj) _ cH⟩
   have ug:dc ops i=o.dst:=(by simp[dc,ho]);have put:∀{E' V'}(v:Uf),E.Le E'->Conc E' V' H->au E' (f i) v->Ke E' V' ops T0 H f (i::X) (a.put o.dst v) nt:=λ{E' V'} v hle bZ hv=>by
    cases dF:o.dst with
    |none=>
     refine⟨bZ,aj.base.mono hle,λk hk d eV=> ?_,aj.size⟩;rcases Tm.1 hk with rfl|hk
     ·rw[ug,dF]at eV;cases eV
     ·exact(aj.done k hk d eV).mono hle
    |some d0=>
     have hlt:d0<a.tmps.size:=(by rw[aj.size];exact aq.dst i o d0 ho dF);refine⟨bZ,λt av e=> ?_,λk hk d eV=> ?_,by simp[Y8,aj.size]⟩
     ·have aF:d0≠t:=λe'=>(by rw[<- e',amm i o0 d0 (by rw[ug,dF])]at e;cases e);have:=aj.base.mono hle t av e;exact⟨by simpa[Y8]using this.1,by simpa[Y8,Ti,T6 aF]using this.2⟩
     ·by_cases sC:k=i
      ·subst sC;rw[ug,dF]at eV;cases eV;simpa[Y8,Ti,Ug hlt]using hv
      ·have aI:k∈X:=(Tm.1 hk).resolve_left sC;have aF:d0≠d:=λe'=>by
        subst e';have hkp:=hX k aI;have get:∀i,i<p->∃o,ops[i]?=some o:=λi hi=>⟨_,Tn (Uk hi aq.le)⟩;rcases YZ k i with hlt|hlt|hlt
        ·exact aq.d_ i k o d0 hlt o0 ho dF eV
        ·exact sC hlt
        ·obtain⟨o',bt⟩:=get k hkp;exact aq.d_ k i o' d0 hlt hkp bt (by simpa[dc,bt]using eV) (by rw[ug,dF])
       have:=(aj.done k aI d eV).mono hle;simpa[Y8,Ti,T6 aF]using this
   have go:dL lv P r o ⟨ly ops f o++T0,H⟩ (f i)->yu lv P r o a V (dD lv P r ops Q l) Q:=λhq=>
    hq E V a _ Q aj.bB tok (.inr (aq.w_ i o ho)) λE' V' v hle cy fz bZ hv=>
     ih oU bw E' V' (a.put o.dst v) Q (put v hle bZ hv) λbY aV cD nc hk dw eT=>
      hQ bY aV cD nc ⟨hle.trans hk.le,hk.size.trans (eF _ _ _),hk.defers.trans (put_defers _ _ _),hk.role.trans cy,hk.deaf.trans fz⟩ dw eT
   have Bt:=az i o o0 ho;unfold wM at Bt;split at Bt
   ·rename_i En;have hw:Up o (yielded ops a.tmps)=true:=(by unfold Up;rw[En]);rw[if_pos hw];exact .inl (go Bt)
   ·rename_i j cw En;obtain⟨d,gM,Bt⟩:=Bt;rcases Bt with⟨b,bU,h1,h2⟩|⟨bU,hu⟩
    rotate_left
    ·obtain⟨hlt,hv⟩:=tok d _ bU;have hy:yielded ops a.tmps j≠some cw:=by
      obtain⟨oj,kV,jB⟩:=Um.1 gM;generalize hx:a.tmps.getD d undef=x at hv;cases hv;rw[Ti,Tn hlt]at hx;simp only[Ua]at hx;simp[yielded,kV,jB,Tn hlt,hx,undef]
     have hw:¬Up o (yielded ops a.tmps)=true:=by
      unfold Up;rw[En];intro h;exact hy (by simpa using h)
     rw[if_neg hw];exact ih oU bw E V (a.put o.dst undef) Q (put undef (Env.Le.refl E) aj.bB (by rw[hu];exact .val _)) λbY aV cD nc hk dw eT=>
      hQ bY aV cD nc ⟨hk.le,hk.size.trans (eF _ _ _),hk.defers.trans (put_defers _ _ _),hk.role,hk.deaf⟩ dw eT
    obtain⟨hlt,hv⟩:=tok d _ bU;have hy:yielded ops a.tmps j=some b:=by
     obtain⟨oj,kV,jB⟩:=Um.1 gM;generalize hx:a.tmps.getD d undef=x at hv;cases hv;rw[Ti,Tn hlt]at hx;simp only[Ua]at hx;simp[yielded,kV,jB,Tn hlt,hx]
    by_cases hb:b=cw
    ·have hw:Up o (yielded ops a.tmps)=true:=(by unfold Up;rw[En];simp[hy,hb]);rw[if_pos hw];exact .inl (go (h1 hb))
    ·have hw:¬Up o (yielded ops a.tmps)=true:=(by unfold Up;rw[En];simp[hy,hb]);rw[if_neg hw];have hu:=h2 (by cases b<;>cases cw<;>simp_all);exact ih oU bw E V (a.put o.dst undef) Q (put undef (Env.Le.refl E) aj.bB (by rw[hu];exact .val _)) λbY aV cD nc hk dw eT=>
      hQ bY aV cD nc ⟨hk.le,hk.size.trans (eF _ _ _),hk.defers.trans (put_defers _ _ _),hk.role,hk.deaf⟩ dw eT
  ·have eT:∀k,k<p->k∈X:=λk hk=>Cj hc (aq.suf i k (by omega) hi (by omega)) (λo' bt j hj=>by rw[ho]at bt;cases bt;exact hd j hj);have hl:=asW aq (.cons o ho hn hd mc) p (Ts _) aq.le (full X hX eT) hc;rw[hl];exact hQ E V a X (Kept.refl E V a) aj eT
def ahQ{id:Nat}{Φ:SI}(hm:P.follows .mixedOrders=true)(p:Nat)(aq:AY nt p ops=true)(h:nI lv P ops (ops.toList.take p) s (λs'=>iS lv P ops (ops.toList.drop p) s' (Φ .normal) (λpv s=>Φ (.panic pv) s))):aS lv P r nt (.region id ops true) s Φ:=by
 intro E V a Q aj hQ;have aq:=AY.out aq;obtain⟨gs,g1,g2,dA,g3,g4⟩:=Jq (lv:=lv) (r:=r) aq p [] s (by simp) ⟨rfl,by simp,by simp⟩ (by simpa using h);simp only[VK]at g1 g2 g3;refine QI λt=> ?_;rw[show W4 (P.follows .mixedOrders) ops t=VJ .any ops ops.size t (UT ops.size false) [] by unfold W4;rw[hm];simp[ad_]];have hs:=adf (ops:=ops) (λi o ho j hj=>aq.low i o ho j hj) ops.size t (UT ops.size false) [] ⟨by simp,λi hi=>by simp[hi]⟩ (UK Z5 (by simp));refine ajl (T0:=vd s ops p) (H:=s.H) aq (λj hj d hd=> ?_) (λi o hi ho=>g2 i o (by simp) hi ho) hs (by simp) (by simp) E V a Q ⟨aj.bB,λt av e=> ?_,by simp,aj.size⟩ λE' V' a' X' hk aX eT=> ?_
 ·rw[IT,if_neg];simp only[UB];intro h;have:=h j (by simpa using hj);rw[hd]at this;simp at this
 ·rw[IT]at e;split at e
  ·exact aj.tok t av e
  ·cases e
 ·refine Cc (Φ:=Φ) (λo ho d e=> ?_) (λo ho=> .inr ?_) (ops.size-p) p dA (by have:=aq.le;omega) g4 E' V' a' Q ⟨by rw[g3.H];exact aX.bB,λt av e=> ?_,aX.size⟩ (λae e bY aV cD s3 aI qT he hΦ=>hQ ae e bY aV cD s3 (hk.trans aI) qT he hΦ)
  ·obtain⟨i,hi⟩:=ZF.1 ho;exact aq.dst i o d hi e
  ·obtain⟨i,hi⟩:=ZF.1 ho;exact aq.w_ i o hi
  ·by_cases hex:∃j,j<p/\dc ops j=some t
   ·obtain⟨j,hj,xD⟩:=hex;rw[g3.new j t (by omega) xD]at e;obtain⟨oj,kV,jB⟩:=Um.1 xD;refine⟨by rw[aX.size];exact aq.dst j oj t kV jB,?_⟩;have:=aX.done j (eT j hj) t xD;simpa[Tf,e]using this
   ·have fS:∀j,j<p->dc ops j≠some t:=λj hj e=>hex ⟨j,hj,e⟩;rw[g3.old t λj hj=>fS j (by omega)]at e;refine aX.base t av ?_;rw[IT,if_pos (by simp only[UB];intro j hj;simpa using fS j (by simpa using hj))];exact e
end
def tI (T base Vn:SH):Prop:=T.drop (T.length-base.length)=base/\((T.take (T.length-base.length)).all λp=>(Vn.any λq=>q.1==p.1)|| !(base.any λq=>q.1==p.1))=true
def ahl{l:SH}{t:Nat}{a:AV}(h:look l t=some a):(l.any λq=>q.1==t)=true:=U5.2 ⟨_,po h,by simp⟩
def OY{l:SH}{t:Nat}(h:(l.any λq=>q.1==t)=true):∃a,look l t=some a:=by
 induction l with
 |nil=>cases h
 |cons x l ih=>
  obtain⟨k,b⟩:=x;simp only[look];split
  ·exact⟨b,rfl⟩
  ·rename_i aF;refine ih ?_;simpa[ZT,aF]using h
def tI.look{T base Vn:SH}(h:tI T base Vn){t:Nat}{a:AV}(hb:look base t=some a)(hv:look Vn t=none):look T t=some a:=by
 obtain⟨h1,h2⟩:=h;have e:T=T.take (T.length-base.length)++base:=by
  have:=(Ww (T.length-base.length) T).symm;rwa[h1]at this
 rw[e,wu];cases hl:Gg.look (T.take (T.length-base.length)) t with
 |none=>exact hb
 |some x=>
  exfalso;have:=UB.1 h2 _ (po hl);simp only[X_,U0]at this;rcases this with this|this
  ·obtain⟨y,hy⟩:=OY this;rw[hv]at hy;cases hy
  ·rw[ahl hb]at this;cases this
def rQ (base Vi Vn:SH)(Hn:SA)(s':AS):Prop:=
 tI s'.T (Vi++base) Vn/\(∀p∈Vn,∃b,look s'.T p.1=some b/\Wk b p.2)/\∃G,s'.H=Hn++G/\(G=[]\/(bJ Hn/\∀p∈Vn,Lt Hn.length p.2))
section
variable {lv:Bool}{P:Tl}{r:SL}{s:AS}
def yF{nt:Nat}{α:Type}{lt:α->α->Prop}(wf:WellFounded lt){c:U_}{Φ:SI}(V:α->SH)(Hf:α->SA)(ok:α->Prop)(m0:α)
  (vU:∀m m',(V m).map (·.1)=(V m').map (·.1)) (ii:∀p∈V m0,∃b,look s.T p.1=some b/\Wk b p.2) (vC:Hf m0=s.H) (hl:∀m,ok m->(Hf m).length=s.H.length) (hm:ok m0)
  (h:bJ s.H->(∀t a,look s.T t=some a->Lt s.H.length a)->∀m,ok m->∀R:SV,(∀s',(∃m',lt m' m/\ok m'/\rQ s.T (V m) (V m') (Hf m') s')->R s')->aS lv P r nt c ⟨V m++s.T,Hf m⟩ (an.then R Φ)):aS lv P r nt (.loop c) s Φ:=by
 have same:∀m m' t,look (V m) t=none->look (V m') t=none:=λm m' t h=>OZ λp hp e=>by
  have h1:p.1∈(V m').map (·.1):=Uo.2 ⟨p,hp,rfl⟩;rw[vU m' m]at h1;obtain⟨q,hq,e'⟩:=Uo.1 h1;have h2:((V m).any λx=>x.1==t)=true:=U5.2 ⟨q,hq,by simp[e',e]⟩;obtain⟨a,ha⟩:=OY h2;rw[h]at ha;cases ha
 intro E V0 a Q aj hQ;have hlt:∀t a,look s.T t=some a->Lt s.H.length a:=λt x e=>by rw[<- aj.bB.n];exact(aj.tok t x e).2.lt
 have h0:s.Sub ⟨V m0++s.T,Hf m0⟩:=⟨λt x e=>by
  rw[wu]at e;cases hl:look (V m0) t with
  |none=>rw[hl]at e;exact⟨x,e,Wk.refl x⟩
  |some y=>rw[hl]at e;cases e;exact ii (t,x) (po hl),vC.symm⟩
 refine Ru wf (s:=s) (λm=>⟨V m++s.T,Hf m⟩) ok m0 h0 hm (λm aq=>by rw[hl m aq];exact Ts _) (λm aq=> ?_) E V0 a Q aj hQ;refine(h aj.bB.aq hlt m aq _ λ_ h=>h).mono λe s' hΦ=> ?_;cases e with
 |normal=>
  obtain⟨m',q1,q2,hk,hv,G,hG,ui⟩:=hΦ;have tok:∀t x,look (V m'++s.T) t=some x->∃b,look s'.T t=some b/\Wk b x/\(look (V m') t=some x\/look s.T t=some x):=λt x e=>by
   rw[wu]at e;cases hl:look (V m') t with
   |none=>
    rw[hl]at e;have hb:look (V m++s.T) t=some x:=(by rw[wu,same m' m t hl];exact e);exact⟨x,hk.look hb hl,Wk.refl x,.inr e⟩
   |some y=>
    rw[hl]at e;cases e;obtain⟨b,h1,h2⟩:=hv (t,x) (po hl);exact⟨b,h1,h2,.inl rfl⟩
  refine⟨m',q1,q2,?_⟩;rcases ui with rfl|⟨oq,Nn⟩
  ·exact .inl ⟨λt x e=>by obtain⟨b,h1,h2,_⟩:=tok t x e;exact⟨b,h1,h2⟩,by rw[hG,To]⟩
  ·refine .inr ⟨λt x e=> ?_,⟨G,hG⟩,oq⟩;obtain⟨b,h1,h2,h3⟩:=tok t x e;refine⟨b,h1,h2,?_⟩;rcases h3 with h3|h3
   ·exact Nn (t,x) (po h3)
   ·show Lt (Hf m').length x;rw[hl m' q2];exact hlt t x h3
 |_=>exact hΦ
def ej{nt:Nat}{c:U_}{Φ:SI}(n:Nat)(V:Nat->SH)(Hf:Nat->SA)(ok:S7)
  (vU:∀m m',(V m).map (·.1)=(V m').map (·.1)) (ii:∀p∈V 0,∃b,look s.T p.1=some b/\Wk b p.2) (vC:Hf 0=s.H) (hl:∀m,m<=n->ok m->(Hf m).length=s.H.length) (hm:ok 0)
  (h:bJ s.H->(∀t a,look s.T t=some a->Lt s.H.length a)->∀m,m<=n->ok m->∀R:SV,(∀s',(m<n/\ok (m+1)/\rQ s.T (V m) (V (m+1)) (Hf (m+1)) s')->R s')->aS lv P r nt c ⟨V m++s.T,Hf m⟩ (an.then R Φ)):aS lv P r nt (.loop c) s Φ:=by
 refine yF (measure λi=>n-i).wf V Hf (λi=>i<=n/\ok i) 0 vU ii vC (λm h=>hl m h.1 h.2) ⟨YX _,hm⟩ (λh1 h2 m aq R hR=> ?_);exact h h1 h2 m aq.1 aq.2 R λs' ⟨q1,q2,q3⟩=>hR s' ⟨m+1,(by show n-(m+1)<n-m;omega),⟨q1,q2⟩,q3⟩
end
def jZ{T base Vn:SH}(h1:T.drop (T.length-base.length)=base)(h2:((T.take (T.length-base.length)).all λp=>(Vn.any λq=>q.1==p.1)|| !(base.any λq=>q.1==p.1))=true):tI T base Vn:=⟨h1,h2⟩
def jg{H L:SA}{x:Uf}{k:SF}(hH:bJ H)(h:k (.val x) H):cz H.length (H++L) (.val x) k:=jS (Wk.refl _) rfl (Ts _) hH (.val x) h
def f_{H L:SA}{a b:AV}{k:SF}(hH:bJ H)(hw:Wk a b)(hl:Lt H.length b)(h:k b H):cz H.length (H++L) a k:=jS hw rfl (Ts _) hH hl h
def aa.cellsOf:aa->Option (SC)
 |.cells l _|.part _ l _|.own _ l _=>some l
 |_=>none
def aiM(l:SC)(e:TypeId):aa.cellsOf (.cells l e)=some l:=rfl
def aiO(p:Nat)(l:SC)(e:TypeId):aa.cellsOf (.part p l e)=some l:=rfl
def aa.rowOf:aa->Option (SC)
 |.cells l _|.part _ l _|.own _ l _=>some l
 |_=>none
def asz(l:SC)(e:TypeId):aa.rowOf (.cells l e)=some l:=rfl
def aiN(p:Nat)(l:SC)(e:TypeId):aa.cellsOf (.own p l e)=some l:=rfl
def asA(p:Nat)(l:SC)(e:TypeId):aa.rowOf (.own p l e)=some l:=rfl
def asB(p:Nat)(l:SC)(e:TypeId):aa.rowOf (.part p l e)=some l:=rfl
def ahN(T:SH)(H:SA)(i off:Nat):AS.at ⟨T,H⟩ (.op i off)=((H[i]?).bind aa.cellsOf).map λl=>l.drop off:=by
 simp only[AS.at];cases H[i]?with
 |none=>rfl
 |some x=>cases x<;>rfl
def aq9(k:U3)(n:Int):AV.parts (.val (.int k n))=some [.val (.int k n)]:=rfl
def aq5(b:Bool):AV.parts (.val (.bool b))=some [.val (.bool b)]:=rfl
def ark(b:ByteArray):AV.parts (.val (.string b))=some [.val (.string b)]:=rfl
def arh(b:S9):AV.parts (.val (.pointer b))=some [.val (.pointer b)]:=rfl
def arc:AV.parts (.val .nilFunc)=some [.val .nilFunc]:=rfl
def ard:AV.parts (.val .nilIface)=some [.val .nilIface]:=rfl
def ara(r:SL):AV.parts (.val (.map r))=some [.val (.map r)]:=rfl
def aq4(l:SC):AV.parts (.agg l)=some l:=rfl
def arj(n:Nat)(l:SC)(e:End):AV.parts (.sl n l e)=some [.sl n l e]:=rfl
def aps(n:Nat)(l:SC)(e:End):AV.len (.sl n l e)=some n:=by rw[AV.len]
def apr(i o n c:Nat):AV.len (.bC i o n c)=some n:=by rw[AV.len]
attribute [seval] aps apr
def arf(i o n c:Nat):AV.parts (.bC i o n c)=some [.bC i o n c]:=rfl
def ari(l:SC):AV.parts (.rp l)=some [.rp l]:=rfl
def are(i o:Nat):AV.parts (.op i o)=some [.op i o]:=rfl
def aq7(f:Fn)(l m:SC):AV.parts (.fn f l m)=some [.fn f l m]:=rfl
def aq8(t:TypeId)(a:AV):AV.parts (.da t a)=some [.da t a]:=rfl
def arb(i:Nat):AV.parts (.mp i)=some [.mp i]:=rfl
def apb(k:U3)(n:Int):AV.leaf (.val (.int k n))=true:=rfl
def ao7(b:Bool):AV.leaf (.val (.bool b))=true:=rfl
def apm(b:ByteArray):AV.leaf (.val (.string b))=true:=rfl
def apj(b:S9):AV.leaf (.val (.pointer b))=true:=rfl
def ape:AV.leaf (.val .nilFunc)=true:=rfl
def apf:AV.leaf (.val .nilIface)=true:=rfl
def apc(r:SL):AV.leaf (.val (.map r))=true:=rfl
def apl(n:Nat)(l:SC)(e:End):AV.leaf (.sl n l e)=true:=rfl
def api(i o n c:Nat):AV.leaf (.bC i o n c)=true:=rfl
def apk(l:SC):AV.leaf (.rp l)=true:=rfl
def aph(i o:Nat):AV.leaf (.op i o)=true:=rfl
def ao9(f:Fn)(l m:SC):AV.leaf (.fn f l m)=true:=rfl
def apa(t:TypeId)(a:AV):AV.leaf (.da t a)=true:=rfl
def apd(i:Nat):AV.leaf (.mp i)=true:=rfl
def aqE(k:U3)(n:Int):AV.qu (.int k n)=.val (.int k n):=rfl
def aqB(b:Bool):AV.qu (.bool b)=.val (.bool b):=rfl
def aqH:AV.qu (.slice none 0 0)=.sl 0 [] .exact:=rfl
def aqC:AV.qu .nilFunc=.val .nilFunc:=rfl
def aqD:AV.qu .nilIface=.val .nilIface:=rfl
def aqG(a:S9):AV.qu (.pointer a)=.val (.pointer a):=rfl
def aqF(a:SL):AV.qu (.map a)=.val (.map a):=rfl
def avB(l:TE):mv (.agg l.toArray)=l.map AV.qu:=by simp[mv,axi]
def avG(k:U3)(n:Int):mv (.int k n)=[.val (.int k n)]:=rfl
def avC(b:Bool):mv (.bool b)=[.val (.bool b)]:=rfl
def avJ:mv (.slice none 0 0)=[.sl 0 [] .exact]:=rfl
def avE:mv .nilFunc=[.val .nilFunc]:=rfl
def avF:mv .nilIface=[.val .nilIface]:=rfl
def avI(a:S9):mv (.pointer a)=[.val (.pointer a)]:=rfl
def avH(a:SL):mv (.map a)=[.val (.map a)]:=rfl
def ajU(s:AS):kA s []=some []:=rfl
def ajT(s:AS)(i:Nat)(x:Ur)(l:List (Nat×Ur)):kA s ((i,x)::l)=(s.ev x).bind λa=>(kA s l).map λaJ=>(i,a)::aJ:=by
 simp only[kA];cases s.ev x with
 |none=>rfl
 |some a=>cases kA s l<;>rfl
def alg(p:Nat->S6)(c:SC):oQ p c []=some c:=rfl
def alf(p:Nat->S6)(c:SC)(i:Nat)(a:AV)(r:SH):oQ p c ((i,a)::r)=(p i).bind λx=>(a.parts).bind λlp=>if lp.length≠x.2\/x.1+lp.length>c.length then none else oQ p (iY c x.1 lp) r:=by
 simp only[oQ];cases p i with
 |none=>rfl
 |some x=>cases a.parts<;>rfl
def ars(l:List (Nat×Nat))(i:Nat):iy.at (.fields l) i=l[i]?:=rfl
def arq(sz i:Nat):iy.at (.elems sz) i=some (i* sz,sz):=rfl
def avz(z:Uf):gZ z 0=[]:=rfl
def atC(s:AS)(sz m:Nat)(l:SC)(e:End):s.src sz (.sl m l e)=some (m,l.take (m* sz)):=rfl
def atB(T:SH)(H:SA)(sz i off m c:Nat):AS.src ⟨T,H⟩ sz (.bC i off m c)=((H[i]?).bind aa.rowOf).map λl=>(m,(l.drop off).take (m* sz)):=by
 simp only[AS.src];cases H[i]?with
 |none=>rfl
 |some x=>cases x<;>rfl
def ahF(n:Nat)(l:SC)(e:End)(kO:Nat->Nat->Nat->S7)(k:TH):AV.qJ (.sl n l e) kO k=k n l e:=by rw[AV.qJ]
def ahE(i o n c:Nat)(kO:Nat->Nat->Nat->S7)(k:TH):AV.qJ (.bC i o n c) kO k=kO i o n c:=by rw[AV.qJ]
def aho:type_of% @uX.eq_1:=by intros;rw[uX.eq_1]
def ahm(s:AS)(dst:SL)(next:SV)(n m sz:Nat)(elem:TypeId)(l l':SC):CM s dst next n m sz elem l l' .exact=next ((⟨s.T,s.H++[.tail (n+m) sz elem]⟩:AS).put dst (.sl (n+m) (l++l') (.opn s.H.length))):=rfl
def ahn(s:AS)(dst:SL)(next:SV)(n m sz:Nat)(elem:TypeId)(l l':SC)(k:Nat):CM s dst next n m sz elem l l' (.opn k)=((match s.H[k]?with
   |some (.tail n' eX iB)=>n'=n/\eX=sz/\iB=elem
   |_=>False)/\(∀a∈l',a.leaf=true)/\next ((⟨s.T,s.H.set k (.tail (n+m) sz elem)⟩:AS).put dst (.sl (n+m) (l++l') (.opn k)))):=rfl
def asq(P:Tl)(T:SH)(H:SA)(b t:Nat):wA P ⟨T,H⟩ (.cell b t)=(look T b).bind λp=>((⟨T,H⟩:AS).at p).bind λl=>(Ty P t).bind λx=>if x.2 then(if x.1<=l.length then some (.agg (l.take x.1))else none)else l[0]?:=rfl
section
variable {lv:Bool}{P:Tl}{s s':AS}
@[congr] theorem awO {α : Type} {x y : Option α} {k : α -> Prop} (h : x = y) : ao x k = ao y k := by rw[h]
@[congr] theorem avX {a b : AV} {k : Bool -> Prop} (h : a = b) : AV.asBool a k = AV.asBool b k := by rw[h]
@[congr] theorem avY {a b : AV} {k : U3 -> Int -> Prop} (h : a = b) : AV.asInt a k = AV.asInt b k := by rw[h]
@[congr] theorem av4 {a b : AV} {k : SC -> Prop} (h : a = b) : AV.yE a k = AV.yE b k := by rw[h]
@[congr] theorem avW {a b : AV} {k : SC -> Prop} (h : a = b) : AV.asAgg a k = AV.asAgg b k := by rw[h]
@[congr] theorem av1 {a b : AV} {k : Nat -> Nat -> Prop} (h : a = b) : AV.qI a k = AV.qI b k := by rw[h]
@[congr] theorem avZ {a b : AV} {k : Nat -> Prop} (h : a = b) : AV.tN a k = AV.tN b k := by rw[h]
@[congr] theorem av3 {a b : AV} {k : Nat -> SC -> End -> Prop} (h : a = b) : AV.wY a k = AV.wY b k := by rw[h]
@[congr] theorem av2 {a b : AV} {kO : Nat -> Nat -> Nat -> Nat -> Prop} {k : Nat -> SC -> End -> Prop} (h : a = b) : AV.qJ a kO k = AV.qJ b kO k := by rw[h]
@[congr] theorem avU {H H' : SA} {k : AV -> SA -> Prop} {id pj off FF n n' c0 RR m m' sz : Nat} {elem : TypeId} {l l' : SC} (h0 : H = H') (h1 : id = pj) (h2 : off = FF) (h3 : n = n') (h4 : c0 = RR) (h5 : m = m') (h6 : l = l') : uX H k id off n c0 m sz elem l = uX H' k pj FF n' RR m' sz elem l' := by rw[h0, h1, h2, h3, h4, h5, h6]
@[congr] theorem avM {op : Xf} {t : TypeId} {a a' b b' : AV} {k : AV -> Prop} (h : a = a') (h' : b = b') : dH P op t a b k = dH P op t a' b' k := by rw[h, h']
@[congr] theorem avL {s' : AS} {op : Xf} {t : TypeId} {y : Ur} {a a' : AV} {k : AV -> Prop} (hs : s = s') (h : a = a') : jc P s op t y a k = jc P s' op t y a' k := by rw[hs, h]
@[congr] theorem avP {a b : AV} {k : AV -> Prop} (h : a = b) : mZ P a k = mZ P b k := by rw[h]
@[congr] theorem avK {t : TypeId} {ok : Bool} {a b : AV} {k : AV -> Prop} (h : a = b) : CK P t ok a k = CK P t ok b k := by rw[h]
@[congr] theorem avO {t : TypeId} {a b : AV} {k : AV -> Prop} (h : a = b) : tC P s t a k = tC P s t b k := by rw[h]
@[congr] theorem avS {t : TypeId} {a b : AV} {x y z : Option Int} {k : AV -> Prop} (h : a = b) : tD P t a x y z k = tD P t b x y z k := by rw[h]
@[congr] theorem avQ {o : Vo} {k : AV -> Prop} (h : s = s') : lW P s o k = lW P s' o k := by rw[h]
@[congr] theorem avV {o : Vo} {k : AV -> Prop} (h : s = s') : AQ lv P s o k = AQ lv P s' o k := by rw[h]
@[congr] theorem avT {o : Vo} {next : AS -> Prop} {bad : AV -> AS -> Prop} (h : s = s') : m8 lv P s o next bad = m8 lv P s' o next bad := by rw[h]
@[congr] theorem avR {all : Array Vo} {l : List Vo} {next : AS -> Prop} {bad : AV -> AS -> Prop} (h : s = s') : iS lv P all l s next bad = iS lv P all l s' next bad := by rw[h]
@[congr] theorem awQ {all : Array Vo} {l l' : List Vo} {K : AS -> Prop} (hl : l = l') (h : s = s') : nI lv P all l s K = nI lv P all l' s' K := by rw[hl, h]
@[congr] theorem av7 {r : Option Nat} {nt : Nat} {c : U_} {Φ : an -> AS -> Prop} (h : s = s') : aS lv P r nt c s Φ = aS lv P r nt c s' Φ := by rw[h]
@[congr] theorem awX {K : AS -> Prop} {Φ : an -> AS -> Prop} {e e' : an} (he : e = e') (h : s = s') : an.then K Φ e s = an.then K Φ e' s' := by rw[he, h]
@[congr] theorem awL {i : Nat} {Φ : an -> AS -> Prop} {e e' : an} (he : e = e') (h : s = s') : an.inBlock i Φ e s = an.inBlock i Φ e' s' := by rw[he, h]
end
def agO:type_of% @iS.eq_1:=by intros;rw[iS.eq_1]
def agN:type_of% @iS.eq_2:=by intros;rw[iS.eq_2]
def agU:type_of% @m8.eq_1:=by intros;rw[m8.eq_1]
def agM:type_of% @lW.eq_1:=by intros;rw[lW.eq_1]
def arB:type_of% @nI.eq_1:=by intros;rw[nI.eq_1]
def arA:type_of% @nI.eq_2:=by intros;rw[nI.eq_2]
def agP:type_of% @AQ.eq_1:=by intros;rw[AQ.eq_1]
def asn:type_of% @iH.eq_1:=by intros;rw[iH.eq_1]
def asm:type_of% @iH.eq_2:=by intros;rw[iH.eq_2]
def asp:type_of% @jq.eq_1:=by intros;rw[jq.eq_1]
def ajX:type_of% @fG.eq_1:=by intros;rw[fG.eq_1]
def ajW:type_of% @fG.eq_2:=by intros;rw[fG.eq_2]
def agr:type_of% @CK.eq_1:=by intros;rw[CK.eq_1]
def arw:type_of% @iY.eq_1:=by intros;rw[iY.eq_1]
def aso:jq []=.aL []:=by rw[jq];simp
def aer(a b:AV)(l:SC):jq (a::b::l)=.aL (a::b::l):=by rw[jq];simp
def aum(l:SC):(AV.rp l).sure=true:=by simp[AV.sure]
def auk(i j:Nat):(AV.op i j).sure=true:=by simp[AV.sure]
def aug(f:UW)(x y:SC):(AV.fn (.func f) x y).sure=true:=by simp[AV.sure]
def auh(t:TypeId)(x:AV):(AV.da t x).sure=true:=by simp[AV.sure]
def agI(P:Tl)(k:SR)(name:String)(t:TypeId)(av:AV):mZ P (.fn (.method name) [.da t av] []) k=(Ko P t name/\k (.fn (.method name) [.da t av] [])):=by rw[mZ]
def agK(P:Tl)(k:SR)(l:SC):mZ P (.rp l) k=k (.rp l):=by simp[mZ,AV.sure]
def agJ(P:Tl)(k:SR)(i j:Nat):mZ P (.op i j) k=k (.op i j):=by simp[mZ,AV.sure]
def agG(P:Tl)(k:SR)(f:UW)(x y:SC):mZ P (.fn (.func f) x y) k=k (.fn (.func f) x y):=by simp[mZ,AV.sure]
def agL(P:Tl)(k:SR)(f)(x y:SC):mZ P (.fn (.yield f) x y) k=k (.fn (.yield f) x y):=by simp[mZ,AV.sure]
def agH(P:Tl)(k:SR)(t:TypeId)(x:AV):mZ P (.da t x) k=k (.da t x):=by simp[mZ,AV.sure]
def agB(P:Tl)(s:AS)(op:Xf)(xt:TypeId)(t:Nat)(a:AV)(k:SR):jc P s op xt (.tmp t) a k=ao (s.ev (.tmp t)) λb=>dH P op xt a b k:=by rw[jc]<;>(intros;simp_all)
def agw(P:Tl)(s:AS)(op:Xf)(xt:TypeId)(j:U3)(m:Int)(a:AV)(k:SR):jc P s op xt (.const (.int j m)) a k=ao (s.ev (.const (.int j m))) λb=>dH P op xt a b k:=by rw[jc]<;>(intros;simp_all)
def agt(P:Tl)(s:AS)(op:Xf)(xt:TypeId)(c:Bool)(a:AV)(k:SR):jc P s op xt (.const (.bool c)) a k=ao (s.ev (.const (.bool c))) λb=>dH P op xt a b k:=by rw[jc]<;>(intros;simp_all)
def agA(P:Tl)(s:AS)(op:Xf)(xt:TypeId)(c:ByteArray)(a:AV)(k:SR):jc P s op xt (.const (.string c)) a k=ao (s.ev (.const (.string c))) λb=>dH P op xt a b k:=by rw[jc]<;>(intros;simp_all)
def ags(P:Tl)(s:AS)(op:Xf)(xt:TypeId)(c:SG)(a:AV)(k:SR):jc P s op xt (.const (.agg c)) a k=ao (s.ev (.const (.agg c))) λb=>dH P op xt a b k:=by rw[jc]<;>(intros;simp_all)
def agz(P:Tl)(s:AS)(op:Xf)(xt:TypeId)(c:S9)(a:AV)(k:SR):jc P s op xt (.const (.pointer c)) a k=ao (s.ev (.const (.pointer c))) λb=>dH P op xt a b k:=by rw[jc]<;>(intros;simp_all)
def agx(P:Tl)(s:AS)(op:Xf)(xt:TypeId)(c:S9)(m n:Nat)(a:AV)(k:SR):jc P s op xt (.const (.slice c m n)) a k=ao (s.ev (.const (.slice c m n))) λb=>dH P op xt a b k:=by rw[jc]<;>(intros;simp_all)
def agy(P:Tl)(s:AS)(op:Xf)(xt:TypeId)(k:SR):jc P s op xt (.const .nilIface) (.val .nilIface) k=(mR P xt=some true/\(op=.eql\/op=.neq)/\k (.val (.bool (if op== .neq then false else true)))):=by rw[jc]
def agv(P:Tl)(s:AS)(op:Xf)(xt t:TypeId)(x:AV)(k:SR):jc P s op xt (.const .nilIface) (.da t x) k=(mR P xt=some true/\(op=.eql\/op=.neq)/\k (.val (.bool (if op== .neq then true else false)))):=by rw[jc]
def ajG:((YI== .neq)=false):=rfl
def aqn:((WZ== .neq)=true):=rfl
def alH(z:Uf):AV.found z true none=.aL [AV.of z,.val (.bool false)]:=by rw[AV.found];simp
def alI(z:Uf)(x:Nat×Uf):AV.found z true (some x)=.aL [AV.of x.2,.val (.bool true)]:=by rw[AV.found];simp
attribute [seval] alH alI
attribute [seval] agB agw agt agA ags agz agx agy agv ajG aqn
attribute [seval] ar9 asa al6 al5 al4 al3 xY ajR ajI ajM ajK ajQ ajN ajO ajJ ajL apO apP ary arx auI auK auG auH auJ aiw aiy ait aix aiu aiv alG alE alF ass ahz ahB ahI ahx ahD ahC ahG ahF ahE aho agV ag9 ag4 agX Q8 ag3 ag1 agZ agY true_and and_true Option.bind_some List.getElem?_toArray List.getElem?_cons_succ List.getElem?_cons_zero Bool.not_true Bool.not_false true_implies false_implies if_true if_false ahO atl atm atn asD asC List.drop_succ_cons List.drop_zero List.take_succ_cons List.take_zero List.cons_append List.nil_append List.length_cons List.length_nil Int.toNat_natCast decide_eq_true_eq decide_eq_false_iff_not Bool.not_eq_true' Bool.not_eq_false' Bool.not_eq_eq_eq_not ahN aiM aiO asz asB asA aiN Option.map_some wV ahq wW ahu ahp aht Nat.zero_add List.set_cons_zero List.set_cons_succ aq9 aq5 ark arh arc ard ara aq4 arj arf ari are aq7 aq8 arb List.forall_mem_cons List.not_mem_nil false_imp_iff implies_true apb ao7 apm apj ape apf apc apl api apk aph ao9 apa apd aqE aqB aqH aqC aqD aqG aqF avB avG avC avJ avE avF avI avH List.map_cons List.map_nil ajU ajT alg alf ars arq avz atC atB ahm ahn asq agF agE ne_eq not_true_eq_false not_false_eq_true gt_iff_lt Nat.lt_irrefl or_self or_false false_or Nat.le_refl Nat.mul_one Nat.one_mul Nat.zero_mul Nat.mul_zero bne_iff_ne bne_eq_false_iff_eq beq_iff_eq agO agN agU agM arB arA agP asn asm asp aso aer ajX ajW agr arw aer aum auk aug auh agI agK agJ agG agL agH
def asy{base Vi Vn T:SH}{H:SA}(hk:tI T (Vi++base) Vn)(hv:∀p∈Vn,∃b,look T p.1=some b/\Wk b p.2):rQ base Vi Vn H ⟨T,H⟩:=⟨hk,hv,[],by simp,.inl rfl⟩
def PW{base Vi Vn T:SH}{H G:SA}(hk:tI T (Vi++base) Vn)(hv:∀p∈Vn,∃b,look T p.1=some b/\Wk b p.2)(aq:bJ H)(hlt:∀p∈Vn,Lt H.length p.2):rQ base Vi Vn H ⟨T,H++G⟩:=⟨hk,hv,G,rfl,.inr ⟨aq,hlt⟩⟩
def Ck{base Vi Vn T:SH}{H L G:SA}(hk:tI T (Vi++base) Vn)(hv:∀p∈Vn,∃b,look T p.1=some b/\Wk b p.2)(aq:bJ (H++L))(hlt:∀p∈Vn,Lt (H++L).length p.2):rQ base Vi Vn (H++L) ⟨T,H++(L++G)⟩:=⟨hk,hv,G,(Te ..).symm,.inr ⟨aq,hlt⟩⟩
def pick (ks:SE)(T:SH):List (Nat×AV):=ks.filterMap λk=>(look T k).map λa=>(k,a)
def KB{lv:Bool}{P:Tl}{r:SL}{nt:Nat}{c:U_}{T:SH}{H:SA}{Φ:SI}(ks:SE)(h:aS lv P r nt c ⟨pick ks T,H⟩ Φ):aS lv P r nt c ⟨T,H⟩ Φ:=by
 refine mB (s':=⟨pick ks T,H⟩) ⟨λt a e=> ?_,rfl⟩ h;obtain⟨k,_,e'⟩:=Xc.1 (po e);obtain⟨b,hb,e'⟩:=Uv.1 e';cases e';exact⟨a,hb,Wk.refl a⟩
def OQ{ops:SK}(mJ:∀(i:Nat) o,ops[i]?=some o->∀j∈cX o,j<ops.size)(acu:∀X:SE,(∃i,i<ops.size/\i∉X)->∃i o,ops[i]?=some o/\i∉X/\∀j∈cX o,j∈X):∀(fuel t:Nat)(L:Array Bool)(X:SE),Q3 ops L X->(T1 ops.size).countP (λi=> !X.contains i)<=fuel->my ops X (VJ .any ops fuel t L [])
 |0,t,L,X,hr,hc=>by
  simp only[VJ,Y0];refine .nil X λi hi=> ?_;have:(T1 ops.size).countP (λi=> !X.contains i)=0:=by omega
  have:=List.countP_eq_zero.1 this i (by simpa using hi);simpa using this
 |fuel+1,t,L,X,hr,hc=>by
  have vZ:∀i,i∈((T1 ops.size).filter λi=> !L.getD i true&&((ops[i]?).map (·.after.all λe=> !Region.binds .any e||L.getD e.on false)).getD false)<->∃o,ops[i]?=some o/\i∉X/\∀j∈cX o,j∈X:=by
   intro i;simp only[Vl,UN,Uh,U0];constructor
   ·rintro⟨hi,h1,h2⟩
    have ho:=Tn hi;refine⟨ops[i],ho,λhx=> ?_,λj hj=> ?_⟩
    ·have:=(hr.mem i hi).2 hx;rw[Ti,this]at h1;cases h1
    ·obtain⟨e,he,hb,rfl⟩:=I0.1 hj;rw[ho]at h2;simp only[VS,Ua,VM]at h2;have:=h2 e he;rw[hb]at this;simp only[af',Y_]at this;have hlt:e.on<ops.size:=mJ i _ ho _ hj;refine(hr.mem _ hlt).1 ?_;rw[Ti]at this;cases hx:L[e.on]?with
     |none=>rw[hx]at this;cases this
     |some b=>rw[hx]at this;cases b;cases this;rfl
   ·rintro⟨o,ho,h1,h2⟩
    have hi:i<ops.size:=(T5.1 ho).1;refine⟨hi,?_,?_⟩
    ·rw[Ti,Tn (by rw[hr.size];exact hi)];simp only[Ua];cases hb:L[i]'(by rw[hr.size];exact hi)with
     |false=>rfl
     |true=>exact absurd ((hr.mem i hi).1 (by rw[Tn (by rw[hr.size];exact hi),hb])) h1
    ·rw[ho];simp only[VS,Ua,VM];intro e he;cases hb:Zq .any e with
     |false=>rfl
     |true=>
      have hj:=I0.2 ⟨e,he,hb,rfl⟩;have hlt:e.on<ops.size:=mJ i _ ho _ hj;have:=(hr.mem _ hlt).2 (h2 _ hj);simp[Ti,this]
  simp only[VJ];generalize EL:((T1 ops.size).filter λi=> !L.getD i true&&((ops[i]?).map (·.after.all λe=> !Region.binds .any e||L.getD e.on false)).getD false)=rs at vZ;cases hi:rs[t % rs.length]?with
  |none=>
   have Nw:rs=[]:=by
    cases rs with
    |nil=>rfl
    |cons x xs=>
     have hlt:t % (x::xs).length<(x::xs).length:=ax3 _ (by simp);rw[List.getElem?_eq_none_iff]at hi;omega
   simp only[Y0];refine .nil X λi hlt=> ?_;apply Uz;intro hx;obtain⟨i',o,h1,h2,h3⟩:=acu X ⟨i,hlt,hx⟩;have:i'∈rs:=(vZ i').2 ⟨o,h1,h2,h3⟩;rw[Nw]at this;cases this
  |some i=>
   simp only[];obtain⟨o,ho,h1,h2⟩:=(vZ i).1 (T8 hi);have hlt:i<ops.size:=(T5.1 ho).1;rw[linearise_go_acc,List.reverse_singleton,Z4];refine .cons o ho h1 h2 (OQ mJ acu fuel _ _ (i::X) ⟨by simp[hr.size],λk hk=> ?_⟩ ?_)
   ·by_cases sC:k=i
    ·subst sC;simp[Ug (by rw[hr.size];exact hlt)]
    ·rw[T6 (Ne.symm sC),hr.mem k hk];simp[sC]
   ·have gk:i∈(T1 ops.size):=(by simpa using hlt);have:(T1 ops.size).countP (λk=> !(i::X).contains k)<(T1 ops.size).countP (λk=> !X.contains k):=by
     exact Sd gk (λk hk=>by simp only[U0,Vw,decide_eq_false_iff_not]at hk⊢;exactλh=>hk (Uj _ h)) (by simpa using h1) (by simp)
    omega
def LR{X:SE}:∀{l:SE},(∃i∈l,i∉X)->∃A i B,l=A++i::B/\i∉X/\∀a∈A,a∈X
 |[],⟨_,h,_⟩=>by cases h
 |x::l,⟨i,h,hn⟩=>by
  by_cases hx:x∈X
  ·have hi:i∈l:=(Tm.1 h).resolve_left λe=>hn (e▸hx);obtain⟨A,j,B,h1,h2,h3⟩:=LR ⟨i,hi,hn⟩;exact⟨x::A,j,B,by rw[h1];rfl,h2,λa ha=>(Tm.1 ha).elim (λe=>e▸hx) (h3 a)⟩
  ·exact⟨[],x,l,rfl,hx,by simp⟩
structure CW (k:SF):Type where
 n:Nat
def Gh (lv:Bool)(P:Tl)(f:AV)(H:SA)(aJ:SC)(k:SF)(_t:CW k):Prop:=∃av H',ju lv P f H aJ (λb u5=>b=av/\u5=H') (λ_ _=>False)/\k av H'
def Kf (lv:Bool)(P:Tl)(f:AV)(name:String)(H:SA)(aJ:SC)(k:SF)(_t:CW k):Prop:=∃av H',Gp lv P f name H aJ (λb u5=>b=av/\u5=H') (λ_ _=>False)/\k av H'
def tV{lv:Bool}{P:Tl}{f:AV}{H:SA}{aJ:SC}{k:SF}{t:CW k}(av:AV)(H':SA)(h:ju lv P f H aJ (λb u5=>b=av/\u5=H') (λ_ _=>False))(hk:k av H'):Gh lv P f H aJ k t:=⟨av,H',h,hk⟩
def kx (x:Option aa)(X Y:Prop)(_t:mw X Y):Prop:=match x with
 |some (.own _ _ _)=>X
 |_=>Y
def rK (G H:SA)(k:SF)(n m sz:Nat)(elem:TypeId)(l l':SC):End->Prop
 |.exact=>kx G[H.length]? (0<m/\k (.bC H.length 0 (n+m) 0) (H++[.own sz (l++l') elem])) (k (.sl (n+m) (l++l') (.opn H.length)) (H++[.tail (n+m) sz elem])) ⟨0⟩
 |.opn i=>(match H[i]?with
   |some (.tail n' eX iB)=>n'=n/\eX=sz/\iB=elem
   |_=>False)/\(∀a∈l',a.leaf=true)/\k (.sl (n+m) (l++l') (.opn i)) (H.set i (.tail (n+m) sz elem))
 |.shut=>m=0/\k (.sl n l .shut) H
section
variable (lv:Bool)(P:Tl)
def ku (G:SA)(s:AS)(o:Vo)(k:SF):Prop:=match o.op with
 |.box t x=>ao (s.ev x) λa=>ao a.parts λl=>k (.op s.H.length 0) (s.H++[.cells l t])
 |.alloc t=>ao (fh P t) λz=>k (.op s.H.length 0) (s.H++[.cells (mv z) t])
 |.store t x y=>ao (s.ev x) λp=>ao (s.ev y) λa=>ao a.parts λlp=>p.qI λid off=>match s.H[id]?with
  |some (.cells l el)=>(ao (Ty P t) λx=>lp.length=x.1)/\off+lp.length<=l.length/\(∀a∈lp,a.leaf=true)/\k (.val undef) (s.H.set id (.cells (iY l off lp) el))
  |some (.own p l el)=>(ao (Ty P t) λx=>lp.length=x.1)/\off+lp.length<=l.length/\(∀a∈lp,a.leaf=true)/\k (.val undef) (s.H.set id (.own p (iY l off lp) el))
  |_=>False
 |.call c=>match c.callee with
  |.builtin .append=>match c.args.toList,c.argTypes.toList with
   |[x,y],[t,t']=>ao (jM P t t') λ(elem,sz,_)=>ao (s.ev x) λa=>ao (s.ev y) λb=>a.qJ (λid off n c0=>ao (s.src sz b) λ(m,l')=>uX s.H k id off n c0 m sz elem l') λn l e=>ao (s.src sz b) λ(m,l')=>l.length=n* sz/\l'.length=m* sz/\n+m<=2^30/\rK G s.H k n m sz elem l l' e
   |_,_=>False
  |.value x=>ao (s.ev x) λf=>ao (fG s c.args.toList) λaJ=>Gh lv P f s.H aJ k ⟨0⟩
  |.invoke x name=>ao (s.ev x) λf=>ao (fG s c.args.toList) λaJ=>Kf lv P f name s.H aJ k ⟨0⟩
  |_=>False
 |.makeSlice t x y=>ao (CY P t) λ(e,sz,z)=>ao (s.ev x) λa=>ao (s.ev y) λb=>a.asInt λ_ n=>b.asInt λ_ n'=>n'=n/\0<=n/\n<=2^30/\k (.bC s.H.length 0 n.toNat n.toNat) (s.H++[.cells (gZ z (n.toNat* sz)) e])
 |.buildSlice t len parts=>ao (qF P t) λ(e,sz,z)=>len* sz<=2^24/\ao (kA s parts.toList) λmA=>ao (oQ (iy.at (.elems sz)) (gZ z (len* sz)) mA) λl=>k (.bC s.H.length 0 len len) (s.H++[.cells l e])
 |_=>False
end
section
variable {lv:Bool}{P:Tl}{r:SL}{o:Vo}{s:AS}{k:SF}
def Step.drop{G:SA}{av nf:AV}{bad:AV->SV}(h:Step lv P r o s (λs'=>s'=(⟨s.T,s.H++G⟩:AS).put o.dst av) bad)(hw:Wk av nf)(hl:∀(E:Env)(V:View)(a:Act),Conc E V s.H->cC E s.T a.tmps->Lt s.H.length nf):Step lv P r o s (λs'=>s'=(⟨s.T,s.H⟩:AS).put o.dst nf) bad:=λE V a N Q hc ht hd hf n1 n2=>by
 refine h E V a N Q hc ht hd hf (λE' V' a' s' q1 q2 q3 q4=> ?_) n2;subst q4;rw[fK]at q2;have eI:((⟨s.T,s.H++G⟩:AS).put o.dst av).Kd ((⟨s.T,s.H⟩:AS).put o.dst nf):=by
  refine⟨λt x e=> ?_,⟨G,by rw[fK,fK]⟩,by rw[fK];exact hc.aq⟩;rw[fK];have hold:look s.T t=some x->Lt s.H.length x:=λe=>by rw[<- hc.n];exact(ht t x e).2.lt
  cases dF:o.dst with
  |none=>
   rw[dF]at e;simp only[AS.put]at e⊢;exact⟨x,e,Wk.refl x,hold e⟩
  |some d=>
   rw[dF]at e;simp only[AS.put,look]at e⊢;by_cases hdt:d=t
   ·rw[if_pos hdt]at e⊢;cases e;exact⟨av,rfl,hw,hl E V a hc ht⟩
   ·rw[if_neg hdt]at e⊢;exact⟨x,e,Wk.refl x,hold e⟩
 have aj:At E' V' ((⟨s.T,s.H++G⟩:AS).put o.dst av) a' a'.tmps.size:=⟨by rw[fK];exact q2,q3,rfl⟩;have aX:=aj.cut eI;rw[fK]at aX;refine n1 _ V' a' _ ⟨F3 (Ts _) (by rw[q2.n];simp) q1.le hc.n,q1.size,q1.defers,q1.role,q1.deaf⟩ aX.bB aX.tok rfl
end
section
variable {lv:Bool}{P:Tl}{r:SL}{o:Vo}{s:AS}{G:SA}{k:SF}
def eK{α:Type}{x:Option α}{a:α}{k:α->Prop}(h:x=some a)(hk:k a):ao x k:=by rw[h,ao];exact hk
def abh{x:Option aa}{X Y:Prop}{t:mw X Y}(h:kx x X Y t):((∃a b c,x=some (.own a b c))/\X)\/((∀a b c,x≠some (.own a b c))/\Y):=by
 unfold kx at h;split at h
 ·exact .inl ⟨⟨_,_,_,rfl⟩,h⟩
 ·rename_i hx;exact .inr ⟨λa b c e=>hx a b c e,h⟩
def alS{x:Option aa}{X Y:Prop}{t:mw X Y}{a:Nat}{b:SC}{c:TypeId}(h:x=some (.own a b c))(hX:X):kx x X Y t:=by subst h;exact hX
def alV{x:Option aa}{X Y:Prop}{t:mw X Y}(h:∀a b c,x≠some (.own a b c))(hY:Y):kx x X Y t:=by
 unfold kx;split
 ·exact absurd rfl (h _ _ _)
 ·exact hY
def rK.ex{H:SA}{n m sz:Nat}{elem:TypeId}{l l':SC}{e:End}(h:rK G H k n m sz elem l l' e):∃av H',rK G H (λa h=>a=av/\h=H') n m sz elem l l' e/\k av H':=by
 cases e with
 |exact=>
  rcases abh (t:=⟨0⟩) h with⟨⟨a,b,c,e⟩,h0,h1⟩|⟨e,h1⟩
  ·exact⟨_,_,alS (t:=⟨0⟩) e ⟨h0,rfl,rfl⟩,h1⟩
  ·exact⟨_,_,alV (t:=⟨0⟩) e ⟨rfl,rfl⟩,h1⟩
 |shut=>exact⟨_,_,⟨h.1,rfl,rfl⟩,h.2⟩
 |opn i=>exact⟨_,_,⟨h.1,h.2.1,rfl,rfl⟩,h.2.2⟩
def uX.ex{H:SA}{id off n c0 m sz:Nat}{elem:TypeId}{l':SC}(h:uX H k id off n c0 m sz elem l'):∃av H',uX H (λa h=>a=av/\h=H') id off n c0 m sz elem l'/\k av H':=by
 obtain⟨h1,h2,h3,h4,h5,h6⟩:=h;split at h6
 ·rename_i hk;obtain⟨g1,g2,g3,g4⟩:=h6;refine⟨_,_,⟨h1,h2,h3,h4,h5,?_⟩,g4⟩;rw[hk];exact⟨g1,g2,g3,rfl,rfl⟩
 ·exact h6.elim
end
section
variable {lv:Bool}{P:Tl}{r:SL}{o:Vo}{s:AS}{next:SV}{bad:AV->SV}
def aff{t e:TypeId}{len sz:Nat}{z:Uf}{parts:Array (Nat×Ur)}{mA:SH}{l:SC}(ho:o.op=.buildSlice t len parts)(ht:qF P t=some (e,sz,z))(aZ:len* sz<=2^24)(hp:kA s parts.toList=some mA)
  (hl:oQ (iy.at (.elems sz)) (gZ z (len* sz)) mA=some l) (hn:next ((⟨s.T,s.H++[.cells l e]⟩:AS).put o.dst (.bC s.H.length 0 len len))):Step lv P r o s next bad:=by
 intro E V a N Q hc aH hd bI h1 _;unfold qF at ht;split at ht
 ·rename_i e' hu;obtain⟨i,hi,ht⟩:=Um.1 ht;obtain⟨z',hz,ht⟩:=Uv.1 ht;cases ht;refine⟨bI,?_⟩;unfold execOp;rw[ho];dsimp only;refine aA ?_;unfold Instr.buildSlice;refine eM hu ?_;dsimp only;refine kq hi ?_;rw[if_neg (by omega)];obtain⟨hlen,bx⟩:=G7 aH hp;obtain⟨fj,oe,vI⟩:=Dy (K9 (E:=E) z (len* i.size)) hlen bx hl;have fin:∀(rr:Nat),V.fresh rr->aU P (V.upd rr (.cells fj e)) (pure (X7 (.slice (some ⟨rr,0,none⟩) len len))) (nb lv P r o a N Q) (λv V'=>Q (.panic [{v,recovered:=false}]) a V'):=λrr hf=>by
   have o5:E.Le (E.add rr V.ai):=E.ru rr (λb o v h=>by rw[<- hc.I];exact h);have bw:Conc (E.add rr V.ai) (V.upd rr (.cells fj e)) (s.H++[.cells l e]):=by
    refine hc.add hf _ ⟨⟨_,?_,vI.mono o5⟩,λo=> ?_⟩ (λb e=> ?_)
    ·rw[Env.dZ];simp[View.upd]
    ·rw[Env.dZ];exact hf.2 o
    ·simp only[bT,Env.dZ,Us]at e;exact e.symm
   have pX:au (E.add rr V.ai) (.bC s.H.length 0 len len) (.slice (some ⟨rr,0,none⟩) len len):=by
    have:=au.bC (E:=E.add rr V.ai) (id:=s.H.length) (off:=0) (n:=len) (cap:=len) (cap':=len) (by show _<E.n+1;rw[hc.n];omega) ⟨by omega,λ_=>rfl,λh=>absurd h (by omega)⟩;have e:(E.add rr V.ai).blk s.H.length=rr:=(by rw[<- hc.n];exact E.dZ rr _);rwa[e]at this
   exact ay (h1 _ _ (a.put o.dst _) _ ⟨o5,eF _ _ _,put_defers _ _ _,rfl,rfl⟩ (by rw[fK];exact bw) (cC.iG (s:=⟨s.T,s.H++[.cells l e]⟩) (aH.mono o5) hd pX) hn)
  have e2:(λj=>some (j* i.size,i.size))=iy.at (.elems i.size):=rfl;rw[e2];by_cases h0:len* i.size=0
  ·rw[if_pos h0];refine aA (ay ?_);rw[h0]at oe⊢;rw[show XK 0=#[]from rfl]at oe⊢;simp only[List.map_toArray,List.map_nil,W2]at oe⊢;rw[oe];unfold newRow;exact aA (aA (aA (py λrr hf=>cN (ay (ay (ay (fin rr hf)))))))
  ·rw[if_neg h0];refine aA (aA ?_);unfold typeInfo;refine aA (rD (cN ?_));rw[hi];refine ay ?_;rw[hz];refine ay (aA (ay ?_));rw[W2,oe];unfold newRow;exact aA (aA (aA (py λrr hf=>cN (ay (ay (ay (fin rr hf)))))))
 ·cases ht
end
section
variable {lv:Bool}{P:Tl}{r:SL}{o:Vo}{s:AS}{G:SA}{k:SF}
def ku.ex(h:ku lv P G s o k):∃av H',ku lv P G s o (λa h=>a=av/\h=H')/\k av H':=by
 unfold ku at h⊢;generalize o.op=op at h⊢;cases op with
 |box t x=>
  obtain⟨a,h1,h⟩:=h.out;obtain⟨l,h2,h⟩:=h.out;exact⟨_,_,eK h1 (eK h2 ⟨rfl,rfl⟩),h⟩
 |alloc t=>
  obtain⟨z,h1,h⟩:=h.out;exact⟨_,_,eK h1 ⟨rfl,rfl⟩,h⟩
 |store t x y=>
  obtain⟨p,h1,hA⟩:=h.out;obtain⟨a,h2,hB⟩:=hA.out;obtain⟨lp,h3,hC⟩:=hB.out;obtain⟨id,off,e1,hD⟩:=Dh hC;subst e1;clear h hA hB hC;split at hD
  ·rename_i l el hk;refine⟨_,_,eK h1 (eK h2 (eK h3 ?_)),hD.2.2.2⟩;unfold AV.qI;dsimp only;rw[hk];exact⟨hD.1,hD.2.1,hD.2.2.1,rfl,rfl⟩
  ·rename_i p l el hk;refine⟨_,_,eK h1 (eK h2 (eK h3 ?_)),hD.2.2.2⟩;unfold AV.qI;dsimp only;rw[hk];exact⟨hD.1,hD.2.1,hD.2.2.1,rfl,rfl⟩
  ·exact hD.elim
 |call c=>
  dsimp only at h⊢;generalize c.callee=cl at h⊢;generalize c.args.toList=xs at h⊢;generalize c.argTypes.toList=ts at h⊢;cases cl with
  |builtin b=>
   cases b with
   |append=>
    dsimp only at h⊢;split at h
    ·obtain⟨⟨elem,sz,z⟩,h1,hA⟩:=h.out;obtain⟨a,h2,hB⟩:=hA.out;obtain⟨b,h3,hC⟩:=hB.out;rcases Kz hC with⟨id,off,n,c0,e1,hD⟩|⟨n,l,e,e1,hD⟩
     ·obtain⟨⟨m,l'⟩,h4,h5⟩:=hD.out;subst e1;obtain⟨av,H',g1,g2⟩:=h5.ex;refine⟨av,H',eK h1 (eK h2 (eK h3 ?_)),g2⟩;simp only[AV.qJ];exact eK h4 g1
     ·obtain⟨⟨m,l'⟩,h4,h5,h6,h7,h8⟩:=hD.out;subst e1;obtain⟨av,H',g1,g2⟩:=h8.ex;refine⟨av,H',eK h1 (eK h2 (eK h3 ?_)),g2⟩;simp only[AV.qJ];exact eK h4 ⟨h5,h6,h7,g1⟩
    ·exact h.elim
   |_=>exact h.elim
  |value x=>
   obtain⟨f,h1,hA⟩:=h.out;obtain⟨aJ,h2,hB⟩:=hA.out;obtain⟨av,H',g1,g2⟩:=hB;exact⟨av,H',eK h1 (eK h2 ⟨av,H',g1,rfl,rfl⟩),g2⟩
  |invoke x name=>
   obtain⟨f,h1,hA⟩:=h.out;obtain⟨aJ,h2,hB⟩:=hA.out;obtain⟨av,H',g1,g2⟩:=hB;exact⟨av,H',eK h1 (eK h2 ⟨av,H',g1,rfl,rfl⟩),g2⟩
 |makeSlice t x y=>
  obtain⟨⟨e,sz,z⟩,h1,hA⟩:=h.out;obtain⟨a,h2,hB⟩:=hA.out;obtain⟨b,h3,hC⟩:=hB.out;obtain⟨j,n,e1,hD⟩:=oN hC;obtain⟨j',n',e2,hE⟩:=oN hD;clear h hA hB hC hD;subst e1 e2;exact⟨_,_,eK h1 (eK h2 (eK h3 ⟨hE.1,hE.2.1,hE.2.2.1,rfl,rfl⟩)),hE.2.2.2⟩
 |buildSlice t len parts=>
  obtain⟨⟨e,sz,z⟩,h1,h2,hA⟩:=h.out;obtain⟨mA,h3,hB⟩:=hA.out;obtain⟨l,h4,hC⟩:=hB.out;exact⟨_,_,eK h1 ⟨h2,eK h3 (eK h4 ⟨rfl,rfl⟩)⟩,hC⟩
 |_=>exact h.elim
def ku.step{av:AV}{H':SA}{bad:AV->SV}(h:ku lv P G s o (λa h=>a=av/\h=H')):Step lv P r o s (λs'=>s'=(⟨s.T,H'⟩:AS).put o.dst av) bad:=by
 unfold ku at h;split at h
 ·rename_i t x ho;obtain⟨a,h1,h⟩:=h.out;obtain⟨l,h2,h⟩:=h.out;obtain⟨e1,e2⟩:=h;exact afe ho h1 h2 (by rw[e1,e2])
 ·rename_i t ho;obtain⟨z,h1,h⟩:=h.out;obtain⟨e1,e2⟩:=h;exact afb ho h1 (by rw[e1,e2])
 ·rename_i t x y ho;obtain⟨p,h1,hA⟩:=h.out;obtain⟨a,h2,hB⟩:=hA.out;obtain⟨lp,h3,hC⟩:=hB.out;obtain⟨id,off,e1,hD⟩:=Dh hC;clear h hA hB hC;subst e1;split at hD
  ·rename_i l el hk;obtain⟨q1,q2,q3,q4,PQ⟩:=hD;obtain⟨⟨n,g⟩,q5,q6⟩:=q1.out;exact afj ho q5 h1 hk h2 h3 q6 q2 q3 (by rw[q4,PQ])
  ·rename_i p l el hk;obtain⟨q1,q2,q3,q4,PQ⟩:=hD;obtain⟨⟨n,g⟩,q5,q6⟩:=q1.out;exact afk ho q5 h1 hk h2 h3 q6 q2 q3 (by rw[q4,PQ])
  ·exact hD.elim
 ·rename_i c ho;split at h
  ·rename_i bi;split at h
   ·rename_i x y t t' ha ht;obtain⟨⟨elem,sz,z⟩,h1,hA⟩:=h.out;obtain⟨a,h2,hB⟩:=hA.out;obtain⟨b,h3,hC⟩:=hB.out;rcases Kz hC with⟨id,off,n,c0,e1,hD⟩|⟨n,l,e,e1,hD⟩
    ·clear h hA hB hC;subst e1;obtain⟨⟨m,l'⟩,h4,rfl,g2,g3,g4,g5,hE⟩:=hD.out;split at hE
     ·rename_i hk;obtain⟨rfl,rfl,g6,g7,g8⟩:=hE;exact afc ho bi (nO ha) (tw ht) h1 h2 g2 hk rfl h3 h4 g6 g3 g4 g5 (by rw[g7,g8])
     ·exact hE.elim
    ·clear h hA hB hC;subst e1;obtain⟨⟨m,l'⟩,h4,h5,h6,h7,h8⟩:=hD.out;cases e with
     |exact=>
      rcases abh (t:=⟨0⟩) h8 with⟨_,h0,e1,e2⟩|⟨_,e1,e2⟩
      ·exact afd ho bi (nO ha) (tw ht) h1 h2 h3 h4 h5 h6 h7 h0 (by rw[e1,e2])
      ·exact step_append ho bi (nO ha) (tw ht) h1 h2 h3 h4 h5 h6 h7 (by show (_:AS)=_;rw[<- e1,<- e2])
     |shut=>
      obtain⟨e0,e1,e2⟩:=h8;exact step_append ho bi (nO ha) (tw ht) h1 h2 h3 h4 h5 h6 h7 ⟨e0,by rw[<- e1,<- e2]⟩
     |opn i=>
      obtain⟨e0,e0',e1,e2⟩:=h8;exact step_append ho bi (nO ha) (tw ht) h1 h2 h3 h4 h5 h6 h7 ⟨e0,e0',by rw[<- e1,<- e2]⟩
   ·exact h.elim
  ·rename_i x bi;obtain⟨f,h1,hA⟩:=h.out;obtain⟨aJ,h2,hB⟩:=hA.out;obtain⟨a0,H0,g1,g2,g3⟩:=hB;subst g2 g3;exact Qi ho bi h1 h2 (g1.mono (λa H h=>by rw[h.1,h.2]) λ_ _ h=>h.elim)
  ·rename_i x name bi;obtain⟨f,h1,hA⟩:=h.out;obtain⟨aJ,h2,hB⟩:=hA.out;obtain⟨a0,H0,g1,g2,g3⟩:=hB;subst g2 g3;exact afg ho bi h1 h2 (λE V cv vs hc hd pY=>(g1 E V cv vs hc hd pY).mono (λ_ _ x=>Nx.mono (λ_ _ y=>y.mono (λa H h=>by rw[h.1,h.2]) λ_ _ h=>h.elim) x) λ_ _ y=>y.mono (λa H h=>by rw[h.1,h.2]) λ_ _ h=>h.elim)
  ·exact h.elim
 ·rename_i t x y ho;obtain⟨⟨e,sz,z⟩,h1,hA⟩:=h.out;obtain⟨a,h2,hB⟩:=hA.out;obtain⟨b,h3,hC⟩:=hB.out;obtain⟨j,n,e1,hD⟩:=oN hC;obtain⟨j',n',e2,hE⟩:=oN hD;clear h hA hB hC hD;subst e1 e2;obtain⟨e3,h4,h5,h6,h7⟩:=hE;subst e3;obtain⟨m,rfl⟩:∃m:Nat,n'=m:=⟨n'.toNat,by omega⟩;exact afh ho h1 h2 h3 (by omega) (by rw[WU]at h6 h7;rw[h6,h7])
 ·rename_i t len parts ho;obtain⟨⟨e,sz,z⟩,h1,h2,hA⟩:=h.out;obtain⟨mA,h3,hB⟩:=hA.out;obtain⟨l,h4,h5,h6⟩:=hB.out;exact aff ho h1 h2 h3 h4 (by rw[h5,h6])
 ·exact h.elim
def ku.congr{T T':SH}{H:SA}(h:∀x∈o.op.operands,AS.ev ⟨T,H⟩ x=AS.ev ⟨T',H⟩ x)(ha:ku lv P G ⟨T,H⟩ o k):ku lv P G ⟨T',H⟩ o k:=by
 unfold ku at ha⊢;generalize o.op=op at h ha⊢;cases op with
 |box t x=>dsimp only at ha⊢;rw[<- h x (by simp[Uy])];exact ha
 |alloc t=>exact ha
 |store t x y=>dsimp only at ha⊢;rw[<- h x (by simp[Uy]),<- h y (by simp[Uy])];exact ha
 |call c=>
  have cS:∀x∈c.args.toList,AS.ev ⟨T,H⟩ x=AS.ev ⟨T',H⟩ x:=λx hx=>h x (by simp[Uy,W7];exact .inr (by simpa using hx));dsimp only at ha⊢;split at ha
  ·split at ha
   ·rename_i x y t t' hx ht;rw[hx]at cS;rw[<- cS x (by simp),<- cS y (by simp)];exact ha
   ·exact ha.elim
  ·rename_i x bi;rw[<- h x (by simp[Uy,W7,bi]),<- Dw _ cS];exact ha
  ·rename_i x name bi;rw[<- h x (by simp[Uy,W7,bi]),<- Dw _ cS];exact ha
  ·exact ha.elim
 |makeSlice t x y=>dsimp only at ha⊢;rw[<- h x (by simp[Uy]),<- h y (by simp[Uy])];exact ha
 |buildSlice t len parts=>
  have e:kA ⟨T',H⟩ parts.toList=kA ⟨T,H⟩ parts.toList:=by
   have hp:∀p∈parts.toList,AS.ev ⟨T,H⟩ p.2=AS.ev ⟨T',H⟩ p.2:=λp hp=>h p.2 (by simp[Uy];exact⟨p.1,by simpa using hp⟩);clear ha;generalize parts.toList=l at hp;induction l with
   |nil=>rfl
   |cons p l ih=>simp only[kA,hp p UH,ih λq hq=>hp q (Uj _ hq)]
  dsimp only at ha⊢;rw[e];exact ha
 |_=>exact ha.elim
end
def nX (acc:List (Nat×SE))(j:Nat):SE:=((acc.find? (·.1==j)).map (·.2)).getD []
def ig (ops:SK):SE->List (Nat×SE)->List (Nat×SE)
 |[],acc=>acc
 |i::l,acc=>match ops[i]?with
  |some o=>ig ops l ((i,(cX o++(cX o).flatMap (nX acc)).eraseDups)::acc)
  |none=>ig ops l acc
def uV:SE->List (SE)
 |[]=>[[]]
 |x::l=>uV l++(uV l).map (x::·)
def xV (cl:List (Nat×SE))(es:SE)(i:Nat)(D:SE):Bool:=
 !D.contains i&&es.all λe=>(!(nX cl i).contains e||D.contains e)&&(!D.contains e||(!(nX cl e).contains i&&es.all λe'=> !(nX cl e).contains e'||D.contains e'))
def uD (es:SE)(i:Nat)(D:SE):SE:=es.filter λe=>e==i||D.contains e
structure rO where
 i:Nat
 eff:Bool
 aft:SE
 Pk:List (SE×SE)
 deriving DecidableEq
def entry (cl:List (Nat×SE))(es X:SE)(i:Nat):rO:=
 let cur:=es.filter λe=>X.contains e
 ⟨i,es.contains i,uD es i cur,((uV es).filter λD=>xV cl es i D&&D !=cur).map λD=>(D,uD es i D)⟩
def rB (cl:List (Nat×SE))(es:SE):SE->SE->List rO
 |_,[]=>[]
 |X,i::B=>entry cl es X i::rB cl es (i::X) B
def aed (ops:SK)(es ord:SE):List rO:=rB (ig ops ord []) es [] ord
def kK (ops:SK):SE->SE->Bool
 |_,[]=>true
 |X,i::B=> !X.contains i&&(match ops[i]?with
  |some o=>(cX o).all X.contains
  |none=>false)&&kK ops (i::X) B
def r_ (nt:Nat)(ops:SK)(es ord:SE):Bool:=
 let cl:=ig ops ord [];decide (ord.length=ops.size)&&kK ops [] ord&&ord.all λi=>match ops[i]?with
  |some o=>o.dst.all (·<nt)&& !mQ o.op&&o.guard.isNone&&
   (ord.all λj=>i==j||match o.dst,dc ops j with
    |some d,some d'=>d !=d'
    |_,_=>true)&&
   (o.op.operands.toList.all λx=>match x with
    |.tmp t=>ord.all λj=>dc ops j !=some t||(cX o).contains j||(nX cl j).contains i
    |_=>true)
  |none=>false
def abl{acc:List (Nat×SE)}{j k:Nat}(h:k∈nX acc j):∃l,(j,l)∈acc/\k∈l:=by
 unfold nX at h;cases e:acc.find? (·.1==j)with
 |none=>rw[e]at h;simp at h
 |some x=>
  rw[e]at h;obtain⟨j',l⟩:=x;have h1:=List.mem_of_find?_eq_some e;have h2:=List.find?_some e;simp only[beq_iff_eq]at h2;subst h2;exact⟨l,h1,by simpa using h⟩
def KX{ops:SK}:∀(ord:SE)(acc:List (Nat×SE)),(∀i l,(i,l)∈acc->∀j∈l,Reach ops i j)->∀i l,(i,l)∈ig ops ord acc->∀j∈l,Reach ops i j
 |[],acc,h=>h
 |x::ord,acc,h=>by
  unfold ig;split
  ·rename_i o ho;refine KX ord _ λi l hm j hj=> ?_;rcases Tm.1 hm with e|hm
   ·cases e;rw[abM,Tv]at hj;rcases hj with hj|hj
    ·exact .Lj ho hj
    ·obtain⟨k,hk,hj⟩:=T9.1 hj;obtain⟨l',h1,h2⟩:=abl hj;exact .more ho hk (h _ _ h1 _ h2)
   ·exact h i l hm j hj
  ·exact KX ord acc h
def AT{ops:SK}{ord:SE}{i j:Nat}(h:j∈nX (ig ops ord []) i):Reach ops i j:=by
 obtain⟨l,h1,h2⟩:=abl h;exact KX ord [] (by simp) i l h1 j h2
def Hg(p:Nat->Bool):∀l:SE,l.filter p∈uV l
 |[]=>by simp[uV]
 |x::l=>by
  unfold uV;rw[Tv];by_cases h:p x=true
  ·rw[XW h];exact .inr (Uo.2 ⟨_,Hg p l,rfl⟩)
  ·rw[XX h];exact .inl (Hg p l)
structure Ay (nt:Nat)(ops:Array Vo)(ord:SE):Prop where
 full:∀i,i<ops.size->i∈ord
 lt:∀i∈ord,i<ops.size
 top:kK ops [] ord=true
 dst:∀(i:Nat) o d,ops[i]?=some o->o.dst=some d->d<nt
 w_:∀(i:Nat) o,ops[i]?=some o->mQ o.op=false
 DN:∀(i:Nat) o,ops[i]?=some o->o.guard=none
 CD:∀(i j d:Nat),dc ops i=some d->dc ops j=some d->i=j
 Pj:∀(i:Nat) o t j,ops[i]?=some o-> .tmp t∈o.op.operands->dc ops j=some t->j∈cX o\/Reach ops j i
def F1{ops:SK}:∀{ord X:SE},kK ops X ord=true->ord.Nodup/\(∀i∈ord,i∉X)/\∀i∈ord,i<ops.size
 |[],_,_=>⟨XM,by simp,by simp⟩
 |i::B,X,h=>by
  simp only[kK,Uh,U0,Vw,decide_eq_false_iff_not]at h;obtain⟨⟨h1,h2⟩,h3⟩:=h;obtain⟨q1,q2,q3⟩:=F1 h3;refine⟨Xe.2 ⟨λhm=>q2 i hm (UH ..),q1⟩,λj hj=> ?_,λj hj=> ?_⟩
  ·rcases Tm.1 hj with rfl|hj
   ·exact h1
   ·exactλhx=>q2 j hj (Uj _ hx)
  ·rcases Tm.1 hj with rfl|hj
   ·apply Uz;intro hn;rw[ZA (by omega)]at h2;cases h2
   ·exact q3 j hj
def r_.out{nt:Nat}{ops:SK}{es ord:SE}(h:r_ nt ops es ord=true):Ay nt ops ord:=by
 unfold r_ at h;simp only[Uh,decide_eq_true_eq]at h;obtain⟨⟨hlen,mi⟩,h⟩:=h;obtain⟨xG,_,hlt⟩:=F1 mi;have Bv:∀i,i<ops.size->i∈ord:=λi hi=>by
  apply Uz;intro hn;have mh:(i::ord)⊆T1 ops.size:=λj hj=>by
   rcases Tm.1 hj with rfl|hj
   ·simpa using hi
   ·simpa using hlt j hj
  have:=(Xe.2 ⟨hn,xG⟩).length_le_of_subset mh;simp at this;omega
 have key:∀(i:Nat) o,ops[i]?=some o->o.dst.all (·<nt)=true/\mQ o.op=false/\o.guard.isNone=true/\(∀j∈ord,(i==j||match o.dst,dc ops j with
    |some d,some d'=>d !=d'
    |_,_=>true)=true)/\(∀x∈o.op.operands.toList,(match x with
    |.tmp t=>ord.all λj=>dc ops j !=some t||(cX o).contains j||(nX (ig ops ord []) j).contains i
    |_=>true)=true):=λi o ho=>by
  have hi:i<ops.size:=(T5.1 ho).1;have:=UB.1 h i (Bv i hi);rw[ho]at this;simp only[Uh,UB,U0]at this;exact⟨this.1.1.1.1,this.1.1.1.2,this.1.1.2,this.1.2,this.2⟩
 have abL:∀j d,dc ops j=some d->j<ops.size:=λj d e=>by
  apply Uz;intro hn;rw[dc,ZA (by omega)]at e;cases e
 refine⟨Bv,hlt,mi,λi o d ho hd=> ?_,λi o ho=>(key i o ho).2.1,λi o ho=>by simpa using(key i o ho).2.2.1,λi j d hi hj=> ?_,λi o t j ho ht hj=> ?_⟩
 ·have:=(key i o ho).1;rw[hd]at this;simpa using this
 ·apply Uz;intro aF;obtain⟨o,ho,ug⟩:=Um.1 hi;have:=(key i o ho).2.2.2.1 j (Bv j (abL j d hj));rw[ug,hj]at this;simp[aF]at this
 ·have:=(key i o ho).2.2.2.2 (.tmp t) (by simpa using ht);simp only[UB]at this;have:=this j (Bv j (abL j t hj));rw[hj]at this;simp only[bne_self_eq_false,Y_,X_,Vw,decide_eq_true_eq]at this;exact this.imp id AT
section
variable (lv:Bool)(P:Tl)(Hf:SE->SA)
def BQ (T:SH)(o:Vo)(av:AV):List (SE×SE)->Prop
 |[]=>True
 |(D,_)::l=>(AQ lv P ⟨T,Hf D⟩ o λa=>a=av)/\BQ T o av l
def BE (T:SH)(o:Vo)(av:AV):List (SE×SE)->Prop
 |[]=>True
 |(D,D')::l=>(ku lv P (Hf D') ⟨T,Hf D⟩ o λa H'=>a=av/\H'=Hf D')/\BE T o av l
structure CV (K:AS->Prop):Type where
 n:Nat
def gF (ops:SK):List rO->AS->(K:SV)->CV K->Prop
 |[],s,K,_=>K s
 |⟨i,false,_,l⟩::rest,s,K,t=>ao (ops[i]?) λo=>AQ lv P s o λav=>BQ lv P Hf s.T o av l/\gF ops rest (s.put o.dst av) K t
 |⟨i,true,D,l⟩::rest,s,K,t=>ao (ops[i]?) λo=>ku lv P (Hf D) s o λav H'=>H'=Hf D/\BE lv P Hf s.T o av l/\gF ops rest ((⟨s.T,H'⟩:AS).put o.dst av) K t
end
def TX (ops:SK)(T0:SH)(f:Nat->AV):SE->List (Nat×AV)
 |[]=>T0
 |i::X=>match dc ops i with
  |some d=>(d,f i)::TX ops T0 f X
  |none=>TX ops T0 f X
section
variable {ops:SK}{T0:SH}{f g:Nat->AV}
def C5:∀{X:SE},(∀j∈X,f j=g j)->TX ops T0 f X=TX ops T0 g X
 |[],_=>rfl
 |i::X,h=>by
  simp only[TX,C5 (X:=X) λj hj=>h j (Uj _ hj),h i (UH ..)]
def C6(acF:∀(i j d:Nat),dc ops i=some d->dc ops j=some d->i=j):∀{X:SE}{j t:Nat},j∈X->dc ops j=some t->look (TX ops T0 f X) t=some (f j)
 |i::X,j,t,hj,ht=>by
  by_cases kH:i=j
  ·subst kH;simp[TX,ht,look]
  ·have iT:j∈X:=(Tm.1 hj).resolve_left (Ne.symm kH);have ih:=C6 acF (X:=X) iT ht;unfold TX;split
   ·rename_i d hd;have:d≠t:=λe=>kH (acF i j d hd (by rw[e];exact ht));simp only[look,if_neg this];exact ih
   ·exact ih
def yy:∀{X:SE}{t:Nat},(∀j∈X,dc ops j≠some t)->look (TX ops T0 f X) t=look T0 t
 |[],_,_=>rfl
 |i::X,t,h=>by
  have ih:=yy (X:=X) (t:=t) λj hj=>h j (Uj _ hj);unfold TX;split
  ·rename_i d hd;have:d≠t:=λe=>h i (UH ..) (by rw[hd,e]);simp only[look,if_neg this];exact ih
  ·exact ih
def yz{H:SA}{X:SE}{i:Nat}{o:Vo}{av:AV}(ho:ops[i]?=some o)(hf:f i=av):(⟨TX ops T0 f X,H⟩:AS).put o.dst av=⟨TX ops T0 f (i::X),H⟩:=by
 have hd:dc ops i=o.dst:=by simp[dc,ho]
 have e:TX ops T0 f (i::X)=match dc ops i with
  |some d=>(d,f i)::TX ops T0 f X
  |none=>TX ops T0 f X:=rfl
 rw[e,hd];cases o.dst with
 |none=>rfl
 |some d=>simp[AS.put,hf]
def lm (ops:SK)(X:SE):Prop:=∀i∈X,∀o,ops[i]?=some o->∀j∈cX o,j∈X
def lm.reach{X:SE}(hX:lm ops X){i j:Nat}(hi:i∈X)(h:Reach ops i j):j∈X:=Cj hX h λo ho k hk=>hX i hi o ho k hk
def lm.cons{X:SE}(hX:lm ops X){i:Nat}{o:Vo}(ho:ops[i]?=some o)(hd:∀j∈cX o,j∈X):lm ops (i::X):=λk hk o' bt j hj=>by
 rcases Tm.1 hk with rfl|hk
 ·rw[ho]at bt;cases bt;exact Uj _ (hd j hj)
 ·exact Uj _ (hX k hk o' bt j hj)
def agq{nt:Nat}{ord:SE}(aq:Ay nt ops ord){X X':SE}{i:Nat}{o:Vo}(ho:ops[i]?=some o)(hX:lm ops X)(oU:lm ops X')(hi:i∉X)(cI:i∉X')(hd:∀j∈cX o,j∈X)(cH:∀j∈cX o,j∈X'){t:Nat}(ht: .tmp t∈o.op.operands):
  look (TX ops T0 f X) t=look (TX ops T0 f X') t:=by
 by_cases hex:∃j,dc ops j=some t
 ·obtain⟨j,hj⟩:=hex;rcases aq.Pj i o t j ho ht hj with h|h
  ·rw[C6 aq.CD (hd j h) hj,C6 aq.CD (cH j h) hj]
  ·rw[yy λj' iT e=>hi (hX.reach (aq.CD j j' t hj e▸iT) h),yy λj' iT e=>cI (oU.reach (aq.CD j j' t hj e▸iT) h)]
 ·rw[yy λj _ e=>hex ⟨j,e⟩,yy λj _ e=>hex ⟨j,e⟩]
end
section
variable {lv:Bool}{P:Tl}{r:SL}{ops:SK}{Hf:SE->SA}{T0:SH}{es ord:SE}{nt:Nat}
def done (es X:SE):SE:=es.filter λe=>X.contains e
def G4{X:SE}{i:Nat}:uD es i (done es X)=done es (i::X):=by
 unfold uD done;apply Wm;intro e he;by_cases h:e=i
 ·subst h;simp
 ·simp[Vl,he,h]
def Lb{X:SE}{i:Nat}(hi:i∉es):done es (i::X)=done es X:=by
 unfold done;apply Wm;intro e he;have:e≠i:=λh=>hi (h▸he);simp[this]
def Lc{X:SE}(hX:lm ops X){i:Nat}{o:Vo}(ho:ops[i]?=some o)(hi:i∉X)(hd:∀j∈cX o,j∈X):xV (ig ops ord []) es i (done es X)=true:=by
 have ce:∀e,e∈es->(e∈done es X<->e∈X):=λe he=>by simp[done,Vl,he]
 have hX2:=hX.cons ho hd;unfold xV;simp only[Uh,U0,Vw,decide_eq_false_iff_not,UB,X_,decide_eq_true_eq];refine⟨λh=>hi (by simpa[done]using(Vl.1 h).2),λe he=>⟨?_,?_⟩⟩
 ·by_cases h:e∈nX (ig ops ord []) i
  ·right;rw[ce e he];exact Cj hX (AT h) λo' bt k hk=>by rw[ho]at bt;cases bt;exact hd k hk
  ·exact .inl h
 ·by_cases h:e∈X
  ·right;refine⟨λhm=>hi (hX.reach h (AT hm)),λe' kF=> ?_⟩;by_cases hm:e'∈nX (ig ops ord []) e
   ·right;rw[ce e' kF];exact hX.reach h (AT hm)
   ·exact .inl hm
  ·left;rw[ce e he];exact h
def OB (lv:Bool)(P:Tl)(r:SL)(ops:SK)(Hf:SE->SA)(T0:SH)(es:SE)(f:Nat->AV)(i:Nat)(o:Vo)(X:SE):Prop:=
 if i∈es then ku lv P (Hf (done es (i::X))) ⟨TX ops T0 f X,Hf (done es X)⟩ o (λa H'=>a=f i/\H'=Hf (done es (i::X)))
 else∃T,(∀t a,look T t=some a->look (TX ops T0 f X) t=some a)/\dL lv P r o ⟨T,Hf (done es X)⟩ (f i)
def BQ.mem{T:SH}{o:Vo}{av:AV}:∀{l:List (SE×SE)},BQ lv P Hf T o av l->∀p∈l,AQ lv P ⟨T,Hf p.1⟩ o λa=>a=av
 |(D,D')::l,h,p,hp=>by
  rcases Tm.1 hp with rfl|hp
  ·exact h.1
  ·exact BQ.mem h.2 p hp
def BE.mem{T:SH}{o:Vo}{av:AV}:∀{l:List (SE×SE)},BE lv P Hf T o av l->∀p∈l,ku lv P (Hf p.2) ⟨T,Hf p.1⟩ o λa H'=>a=av/\H'=Hf p.2
 |(D,D')::l,h,p,hp=>by
  rcases Tm.1 hp with rfl|hp
  ·exact h.1
  ·exact BE.mem h.2 p hp
def canon (T:SH):List Ur->List (Nat×AV)
 |[]=>[]
 |.tmp t::l=>match look T t with
  |some a=>(t,a)::canon T l
  |none=>canon T l
 |_::l=>canon T l
def KT{T:SH}:∀{l:List Ur}{t:Nat}{a:AV},look (canon T l) t=some a->look T t=some a
 |[],_,_,h=>by cases h
 |x::l,t,a,h=>by
  have ih:=@KT T l t a;cases x with
  |tmp t'=>
   simp only[canon]at h;split at h
   ·rename_i b hb;simp only[look]at h;split at h
    ·rename_i e;subst e;cases h;exact hb
    ·exact ih h
   ·exact ih h
  |_=>exact ih h
def R0{T:SH}:∀{l:List Ur}{t:Nat},.tmp t∈l->look (canon T l) t=look T t
 |x::l,t,h=>by
  by_cases hx:x=.tmp t
  ·subst hx;simp only[canon];split
   ·rename_i b hb;simp[look,hb]
   ·rename_i hb;rw[hb];cases e:look (canon T l) t with
    |none=>rfl
    |some a=>have:=KT e;rw[hb]at this;cases this
  ·have hm: .tmp t∈l:=(Tm.1 h).resolve_left (Ne.symm hx);have ih:=R0 (T:=T) hm;cases x with
   |tmp t'=>
    have aF:t'≠t:=λe=>hx (by rw[e]);simp only[canon];split
    ·simp only[look,if_neg aF];exact ih
    ·exact ih
   |_=>exact ih
def RZ{T:SH}:∀{l:List Ur}{t:Nat}{a:AV},look (canon T l) t=some a-> .tmp t∈l
 |[],_,_,h=>by cases h
 |x::l,t,a,h=>by
  have ih:=@RZ T l t a;cases x with
  |tmp t'=>
   simp only[canon]at h;split at h
   ·simp only[look]at h;split at h
    ·rename_i e;subst e;exact UH ..
    ·exact Uj _ (ih h)
   ·exact Uj _ (ih h)
  |_=>exact Uj _ (ih h)
def RY{T:SH}{H:SA}{l:List Ur}{x:Ur}(h:x∈l):AS.ev ⟨T,H⟩ x=AS.ev ⟨canon T l,H⟩ x:=by
 cases x with
 |tmp t=>exact(R0 h).symm
 |_=>rfl
def Dn(aq:Ay nt ops ord){K:SV}{tk:CV K}:∀(B X:SE)(acc:Nat->AV),kK ops X B=true->lm ops X->gF lv P Hf ops (rB (ig ops ord []) es X B) ⟨TX ops T0 acc X,Hf (done es X)⟩ K tk->
  ∃f,(∀j∈X,f j=acc j)/\(∀i∈B,∀o,ops[i]?=some o->∀X',lm ops X'->i∉X'->(∀j∈cX o,j∈X')->OB lv P r ops Hf T0 es f i o X')/\K ⟨TX ops T0 f (B.reverse++X),Hf (done es (B.reverse++X))⟩
 |[],X,acc,_,_,h=>⟨acc,λ_ _=>rfl,by simp,by simpa[rB,gF]using h⟩
 |i::B,X,acc,mi,hX,h=>by
  have awI:=mi;simp only[kK,Uh,U0,Vw,decide_eq_false_iff_not]at mi;obtain⟨⟨hi,h2⟩,h3⟩:=mi;cases ho:ops[i]?with
  |none=>rw[ho]at h2;cases h2
  |some o=>
  rw[ho]at h2;have hd:∀j∈cX o,j∈X:=λj hj=>by have:=UB.1 h2 j hj;simpa using this
  have oU:=hX.cons ho hd;have awt:xV (ig ops ord []) es i (done es X)=true:=Lc hX ho hi hd;have Pk:∀D,D∈uV es->xV (ig ops ord []) es i D=true->D≠done es X->(D,uD es i D)∈((uV es).filter λD=>xV (ig ops ord []) es i D&&D !=done es X).map λD=>(D,uD es i D):=λD h1 h2 h3=>Uo.2 ⟨D,Vl.2 ⟨h1,by simp[h2,h3]⟩,rfl⟩;have Q9:∀av:AV,TX ops T0 acc X=TX ops T0 (λj=>if j=i then av else acc j) X:=λav=>C5 λj hj=>by
   have:j≠i:=λe=>hi (e▸hj);simp[this]
  have seen:∀(f:Nat->AV) X',(∀j∈X,f j=acc j)->lm ops X'->i∉X'->(∀j∈cX o,j∈X')->∀(H:SA),∀x∈o.op.operands,AS.ev ⟨TX ops T0 acc X,H⟩ x=AS.ev ⟨TX ops T0 f X',H⟩ x:=λf X' hf hc hn cH H x hx=>by
   cases x with
   |tmp t=>
    show look _ t=look _ t;rw[<- C5 (f:=f) (g:=acc) hf];exact agq aq ho hX hc hi hn hd cH hx
   |_=>rfl
  unfold rB at h;by_cases dK:i∈es
  ·have MV:entry (ig ops ord []) es X i=⟨i,true,uD es i (done es X),((uV es).filter λD=>xV (ig ops ord []) es i D&&D !=done es X).map λD=>(D,uD es i D)⟩:=by
    unfold entry done;simp[dK]
   rw[MV,gF,ho,ao]at h;obtain⟨av,H',g1,e1,g2,g3⟩:=h.ex;subst e1;rw[G4]at g1 g3;rw[Q9 av,yz ho (by simp)]at g3;obtain⟨f,q1,q2,q3⟩:=Dn aq B (i::X) _ h3 oU g3;have MW:f i=av:=(by have:=q1 i (UH ..);simpa using this);have El:∀j∈X,f j=acc j:=λj hj=>by
    have:=q1 j (Uj _ hj);have aF:j≠i:=λe=>hi (e▸hj);simpa[aF]using this
   refine⟨f,El,λk hk o' bt X' hc hn cH=> ?_,by simpa using q3⟩;rcases Tm.1 hk with rfl|hk
   ·rw[ho]at bt;cases bt;unfold OB;rw[if_pos dK,MW];refine ku.congr (T:=TX ops T0 acc X) (seen f X' El hc hn cH _) ?_;by_cases hD:done es X'=done es X
    ·rw[<- G4,hD,G4];exact g1
    ·have:=g2.mem _ (Pk _ (Hg _ es) (Lc hc ho hn cH) hD);rw[<- G4];exact this
   ·exact q2 k hk o' bt X' hc hn cH
  ·have MV:entry (ig ops ord []) es X i=⟨i,false,uD es i (done es X),((uV es).filter λD=>xV (ig ops ord []) es i D&&D !=done es X).map λD=>(D,uD es i D)⟩:=by
    unfold entry done;simp[dK]
   rw[MV,gF,ho,ao]at h;have h':=AQ.congr (T':=canon (TX ops T0 acc X) o.op.operands.toList) (λx hx=>RY (by simpa using hx)) h;obtain⟨av,g1,g2,g3⟩:=h'.sound (r:=r);rw[Q9 av,yz ho (by simp),<- Lb (X:=X) dK]at g3;obtain⟨f,q1,q2,q3⟩:=Dn aq B (i::X) _ h3 oU g3;have MW:f i=av:=(by have:=q1 i (UH ..);simpa using this);have El:∀j∈X,f j=acc j:=λj hj=>by
    have:=q1 j (Uj _ hj);have aF:j≠i:=λe=>hi (e▸hj);simpa[aF]using this
   refine⟨f,El,λk hk o' bt X' hc hn cH=> ?_,by simpa using q3⟩;rcases Tm.1 hk with rfl|hk
   ·rw[ho]at bt;cases bt;unfold OB;rw[if_neg dK,MW];refine⟨canon (TX ops T0 acc X) o.op.operands.toList,λt a e=> ?_,?_⟩
    ·have h1:=seen f X' El hc hn cH [] (.tmp t) (by simpa using RZ e);have h2:look (TX ops T0 acc X) t=look (TX ops T0 f X') t:=h1;rw[<- h2];exact KT e
    ·by_cases hD:done es X'=done es X
     ·rw[hD];exact g1
     ·have h1:=g2.mem _ (Pk _ (Hg _ es) (Lc hc ho hn cH) hD);have h2:=AQ.congr (T':=canon (TX ops T0 acc X) o.op.operands.toList) (λx hx=>RY (by simpa using hx)) h1;obtain⟨nf,h3,rfl⟩:=h2.sound (r:=r);exact h3
   ·exact q2 k hk o' bt X' hc hn cH
def Gu{f:Nat->AV}(aq:Ay nt ops ord){X X':SE}(h:∀i,i∈X<->i∈X')(t:Nat):look (TX ops T0 f X) t=look (TX ops T0 f X') t:=by
 by_cases hex:∃j∈X,dc ops j=some t
 ·obtain⟨j,hj,hd⟩:=hex;rw[C6 aq.CD hj hd,C6 aq.CD ((h j).1 hj) hd]
 ·rw[yy λj hj e=>hex ⟨j,hj,e⟩,yy λj hj e=>hex ⟨j,(h j).2 hj,e⟩]
def G5{X X':SE}(h:∀i,i∈X<->i∈X'):done es X=done es X':=by
 unfold done;apply Wm;intro e _;have:=h e;by_cases h1:e∈X
 ·have h2:=this.1 h1;simp[h1,h2]
 ·have h2:e∉X':=λx=>h1 (this.2 x);simp[h1,h2]
def ajk{f:Nat->AV}(aq:Ay nt ops ord)(az:∀i∈ord,∀o,ops[i]?=some o->∀X',lm ops X'->i∉X'->(∀j∈cX o,j∈X')->OB lv P r ops Hf T0 es f i o X'){X l:SE}(hs:my ops X l):
  (∀i∈X,i<ops.size)->lm ops X->∀(E:Env)(V:View)(a:Act)(Q:SJ),At E V ⟨TX ops T0 f X,Hf (done es X)⟩ a nt->
   (∀E' V' a' X',Kept E E' V V' a a'->At E' V' ⟨TX ops T0 f X',Hf (done es X')⟩ a' nt->(∀i,i∈X'<->i<ops.size)->Q .normal a' V')->dD lv P r ops Q l a V:=by
 induction hs with
 |nil X h=>
  intro hX hc E V a Q aj hQ;exact hQ E V a X (Kept.refl E V a) aj λi=>⟨hX i,h i⟩
 |cons o ho hn hd mc ih=>
  rename_i X i l;intro hX hc E V a Q aj hQ;have hi:i<ops.size:=(T5.1 ho).1;simp only[dD,ho];have oU:∀k∈i::X,k<ops.size:=λk hk=>(Tm.1 hk).elim (λe=>by rw[e];exact hi) (hX k);have bw:=hc.cons ho hd;have hw:Up o (yielded ops a.tmps)=true:=by unfold Up;rw[aq.DN i o ho]
  rw[if_pos hw];refine .inl ?_;have dF:∀d,o.dst=some d->d<a.tmps.size:=λd e=>by rw[aj.size];exact aq.dst i o d ho e
  have ma:=az i (aq.full i hi) o ho X hc hn hd;unfold OB at ma;by_cases dK:i∈es
  ·rw[if_pos dK]at ma;have aP:=ma.step (r:=r) (bad:=λ_ _=>False);refine aP E V a _ Q aj.bB aj.tok dF (.inr (aq.w_ i o ho)) (λE' V' a' s' hk bZ ht e=> ?_) λ_ _ _ _ _ _ _ _ _ h=>h.elim;subst e;rw[yz ho rfl]at ht bZ;exact ih oU bw E' V' a' Q ⟨bZ,ht,hk.size.trans aj.size⟩ λbY aV cD nc aI dw eT=>hQ bY aV cD nc (hk.trans aI) dw eT
  ·rw[if_neg dK]at ma;obtain⟨T,hT,hq⟩:=ma;refine hq E V a _ Q aj.bB (λt av e=>aj.tok t av (hT t av e)) (.inr (aq.w_ i o ho)) λE' V' v hle cy fz bZ hv=> ?_;have ht:cC E' ((⟨TX ops T0 f X,Hf (done es X)⟩:AS).put o.dst (f i)).T (a.put o.dst v).tmps:=cC.iG (s:=⟨TX ops T0 f X,Hf (done es X)⟩) (aj.tok.mono hle) dF hv;rw[yz ho rfl]at ht;refine ih oU bw E' V' (a.put o.dst v) Q ⟨by rw[Lb dK];exact bZ,ht,(eF _ _ _).trans aj.size⟩ λbY aV cD nc hk dw eT=>
    hQ bY aV cD nc ⟨hle.trans hk.le,hk.size.trans (eF _ _ _),hk.defers.trans (put_defers _ _ _),hk.role.trans cy,hk.deaf.trans fz⟩ dw eT
def ahR{s:AS}{id:Nat}{Φ:SI}(es ord:SE)(pl:List rO)(Hf:SE->SA)(hm:P.follows .mixedOrders=true)(aq:r_ nt ops es ord=true)(cr:aed ops es ord=pl)(h0:s.H=Hf [])
  (h:gF lv P Hf ops pl s (Φ .normal) ⟨0⟩):aS lv P r nt (.region id ops true) s Φ:=by
 intro E V a Q aj hQ;have aq:=r_.out aq;obtain⟨xG,_,hlt⟩:=F1 aq.top;have dn:s=⟨TX ops s.T (λ_=> .val undef) [],Hf (done es [])⟩:=by
  have:done es []=[]:=by simp[done]
  rw[this,<- h0];rfl
 subst cr;have h':gF lv P Hf ops (rB (ig ops ord []) es [] ord) ⟨TX ops s.T (λ_=> .val undef) [],Hf (done es [])⟩ (Φ .normal) ⟨0⟩:=by rw[<- dn];exact h
 obtain⟨f,_,q2,q3⟩:=Dn (r:=r) aq ord [] _ aq.top (λi hi=>by cases hi) h';have Bv:∀i,i∈ord<->i<ops.size:=λi=>⟨hlt i,aq.full i⟩;refine QI λt=> ?_;rw[show W4 (P.follows .mixedOrders) ops t=VJ .any ops ops.size t (UT ops.size false) [] by unfold W4;rw[hm];simp[ad_]];have binds:∀(A B:SE)(X:SE),kK ops X (A++B)=true->True:=λ_ _ _ _=>trivial;have ready:∀(ord X:SE),kK ops X ord=true->∀A i B,ord=A++i::B->∃o,ops[i]?=some o/\∀j∈cX o,j∈A\/j∈X:=by
  intro ord;induction ord with
  |nil=>intro X _ A i B e;cases A<;>cases e
  |cons x l ih=>
   intro X mi A i B e;simp only[kK,Uh,U0,Vw,decide_eq_false_iff_not]at mi;obtain⟨⟨h1,h2⟩,h3⟩:=mi;cases A with
   |nil=>
    have e1:x=i:=(by have:=congrArg List.head? e;simpa using this);rw[e1]at h2;cases ho:ops[i]?with
    |none=>rw[ho]at h2;cases h2
    |some o=>
     rw[ho]at h2;exact⟨o,rfl,λj hj=> .inr (by have:=UB.1 h2 j hj;simpa using this)⟩
   |cons y A=>
    cases e;obtain⟨o,ho,hb⟩:=ih (x::X) h3 A i B rfl;refine⟨o,ho,λj hj=> ?_⟩;rcases hb j hj with h|h
    ·exact .inl (Uj _ h)
    ·rcases Tm.1 h with rfl|h
     ·exact .inl (UH ..)
     ·exact .inr h
 have hs:=OQ (ops:=ops) (λi o ho j hj=>by
   obtain⟨A,B,e⟩:=List.append_of_mem (aq.full i (T5.1 ho).1);obtain⟨o',bt,hb⟩:=ready ord [] aq.top A i B e;rw[ho]at bt;cases bt;rcases hb j hj with h|h
   ·exact hlt j (by rw[e];exact Ul _ h)
   ·cases h)
  (λX ⟨i,hi,hn⟩=>by
   obtain⟨A,i',B,e,h1,h2⟩:=LR (X:=X) ⟨i,aq.full i hi,hn⟩;obtain⟨o',bt,hb⟩:=ready ord [] aq.top A i' B e;refine⟨i',o',bt,h1,λj hj=> ?_⟩;rcases hb j hj with h|h
   ·exact h2 j h
   ·cases h)
  ops.size t (UT ops.size false) [] ⟨by simp,λi hi=>by simp[hi]⟩ (UK Z5 (by simp))
 have ue:At E V ⟨TX ops s.T f [],Hf (done es [])⟩ a nt:=by
  have e:(⟨TX ops s.T f [],Hf (done es [])⟩:AS)=s:=dn.symm;rw[e];exact aj
 refine ajk (Hf:=Hf) (es:=es) aq q2 hs (by simp) (λi hi=>by cases hi) E V a Q ue λE' V' a' X' hk aX eT=> ?_;have gk:∀i,i∈X'<->i∈ord.reverse++[]:=λi=>by simp[eT,Bv]
 refine hQ .normal .normal E' V' a' _ hk ⟨?_,λt x e=> ?_,aX.size⟩ trivial q3
 ·rw[<- G5 gk];exact aX.bB
 ·rw[<- Gu aq gk]at e;exact aX.tok t x e
end
open Go.Proofs
def F.QX:lq S_ 77=(Tp Go.Gg.yr.map):=by kernel_rfl
def F.Q6:fh S_ 4=(Tp (Yj Bool.false)):=by kernel_rfl
def F.Q7:fh S_ 88=(Tp (UC #[(Yj Bool.false),(am_ Option.none),(Th Uc (0)),(Th Uc (0)),(Th Uc (0)),(Th Uc (0)),(Th Uc (0)),(Th Uc (0)),(Th Uc (0)),(Th Uc (0)),(Th Uc (0)),(Th Uc (0)),(Th Uc (0)),(Th Uc (0)),(Th Uc (0)),(Th Uc (0)),(Th Uc (0)),(Th Tg (0)),(Th Tg (0)),(Th Tg (0)),(Th Tg (0)),(Th Tg (0)),(Th Tg (0)),(Th Tg (0)),(Th Tg (0)),(Th Tg (0)),(Th Tg (0)),(Th Tg (0))])):=by kernel_rfl
def F.Ou:mR S_ 116=(Tp Bool.false):=by kernel_rfl
def F.Fb:mR S_ 126=(Tp Bool.true):=by kernel_rfl
def F.Ov:mR S_ 136=(Tp Bool.false):=by kernel_rfl
def F.aow:mR S_ 156=(Tp Bool.false):=by kernel_rfl
def F.acP:mR S_ 97=(Tp Bool.false):=by kernel_rfl
def F.f31:S_.funcs[31]?=some Tryz.f31:=by kernel_rfl
def F.f71:S_.funcs[71]?=some Tryz.f71:=by kernel_rfl
def F.f77:S_.funcs[77]?=some YN:=by kernel_rfl
def F.f91:S_.funcs[91]?=some Tryz.f91:=by kernel_rfl
def F.f95:S_.funcs[95]?=some Tryz.f95:=by kernel_rfl
def F.f97:S_.funcs[97]?=some ax5:=by kernel_rfl
def F.mixed:S_.follows .mixedOrders=true:=by kernel_rfl
inductive dT (lv:Bool)(P:Tl)(r:Option Nat)(nt:Nat):U_->(an->AS->Prop)->U_->(an->AS->Prop)->Prop
 |base {c:U_} {Φ:an->AS->Prop}:dT lv P r nt c Φ c Φ
 |seq {x y h:U_} {Φ Ψ:an->AS->Prop} (i:dT lv P r nt x (an.then (λs=>aS lv P r nt y s Φ) Φ) h Ψ):dT lv P r nt (.seq x y) Φ h Ψ
 |block {id:Nat} {x h:U_} {Φ Ψ:an->AS->Prop} (i:dT lv P r nt x (an.inBlock id Φ) h Ψ):dT lv P r nt (.block id x) Φ h Ψ
section
variable {lv:Bool}{P:Tl}{r:SL}{s:AS}{nt id:Nat}{ops:SK}{c h:U_}{Φ Ψ:SI}
def bH{f:UW}{H:SA}{args:SC}{k kp:SF}{rs:SW}(fn:ZD)
  (h:bJ H->(∀a∈args,Lt H.length a)->aS lv P none nt c ⟨bm 0 args,H⟩ (tG P rs H.length k kp)) (hf:P.funcs[f]?=some fn:=by kernel_rfl) (hb:fn.body=some c:=by rfl) (hr:fn.results=rs.toArray:=by rfl) (hn:fn.ntmps=nt:=by rfl) (cS:args.length<=nt:=by simp):ba lv P f H args k kp:=alv hf hb hr hn cS h
def dT.go(i:dT lv P r nt c Φ h Ψ):∀{s:AS},aS lv P r nt h s Ψ->aS lv P r nt c s Φ:=by
 induction i with
 |base=>exactλh=>h
 |seq _ ih=>exactλk=>fu (ih k)
 |block _ ih=>exactλk=>Ro (ih k)
def ab(h:iS lv P ops ops.toList s (Ψ .normal) (λpv s=>Ψ (.panic pv) s))(i:dT lv P r nt c Φ (.region id ops false) Ψ:=by repeat first|exact .base|apply dT.seq|apply dT.block)(hd:j8 nt ops=true:=by kernel_rfl):aS lv P r nt c s Φ:=i.go (Rw hd h)
def av6{o:Ur}{x y:U_}(h:ao (s.ev o) λa=>a.asBool λb=>(b=true->aS lv P r nt x s Ψ)/\(b=false->aS lv P r nt y s Ψ))(i:dT lv P r nt c Φ (.cond o x y) Ψ:=by repeat first|exact .base|apply dT.seq|apply dT.block):aS lv P r nt c s Φ:=i.go (Rp h)
def ahZ(h:Ψ .normal s)(i:dT lv P r nt c Φ .skip Ψ:=by repeat first|exact .base|apply dT.seq|apply dT.block):aS lv P r nt c s Φ:=i.go (Rz h)
def ng(h:Ψ .ret s)(i:dT lv P r nt c Φ .ret Ψ:=by repeat first|exact .base|apply dT.seq|apply dT.block):aS lv P r nt c s Φ:=i.go (Rx h)
def av8(h:Ψ (.exit id) s)(i:dT lv P r nt c Φ (.exit id) Ψ:=by repeat first|exact .base|apply dT.seq|apply dT.block):aS lv P r nt c s Φ:=i.go (Rr h)
def bF{x:U_}(h:aS lv P r nt x s (an.inBlock id Ψ))(i:dT lv P r nt c Φ (.block id x) Ψ:=by repeat first|exact .base|apply dT.seq|apply dT.block):aS lv P r nt c s Φ:=i.go (Ro h)
def ah{p:Prop}(h:p)(i:dT lv P r nt c Φ (.region id ops false) Ψ:=by repeat first|exact .base|apply dT.seq|apply dT.block)(e:iS lv P ops ops.toList s (Ψ .normal) (λpv s=>Ψ (.panic pv) s)=p:=by conv=>lhs;simp only[seval])(hd:j8 nt ops=true:=by kernel_rfl):aS lv P r nt c s Φ:=i.go (Rw hd (e.mpr h))
def aB{p:Prop}{o:Ur}{x y:U_}(h:p)(i:dT lv P r nt c Φ (.cond o x y) Ψ:=by repeat first|exact .base|apply dT.seq|apply dT.block)(e:(ao (s.ev o) λa=>a.asBool λb=>(b=true->aS lv P r nt x s Ψ)/\(b=false->aS lv P r nt y s Ψ))=p:=by conv=>lhs;simp only[seval]):aS lv P r nt c s Φ:=i.go (Rp (e.mpr h))
def aE{p:Prop}(h:p)(i:dT lv P r nt c Φ .skip Ψ:=by repeat first|exact .base|apply dT.seq|apply dT.block)(e:Ψ .normal s=p:=by conv=>lhs;simp only[seval]):aS lv P r nt c s Φ:=i.go (Rz (e.mpr h))
def aT{p:Prop}(h:p)(i:dT lv P r nt c Φ .ret Ψ:=by repeat first|exact .base|apply dT.seq|apply dT.block)(e:Ψ .ret s=p:=by conv=>lhs;simp only[seval]):aS lv P r nt c s Φ:=i.go (Rx (e.mpr h))
def bD{p:Prop}(h:p)(i:dT lv P r nt c Φ (.exit id) Ψ:=by repeat first|exact .base|apply dT.seq|apply dT.block)(e:Ψ (.exit id) s=p:=by conv=>lhs;simp only[seval]):aS lv P r nt c s Φ:=i.go (Rr (e.mpr h))
def eA{Φ Ψ:SI}{c:U_}(p:Nat)(h:nI lv P ops (ops.toList.take p) s (λs'=>iS lv P ops (ops.toList.drop p) s' (Ψ .normal) (λpv s=>Ψ (.panic pv) s)))(i:dT lv P r nt c Φ (.region id ops true) Ψ:=by repeat first|exact .base|apply dT.seq|apply dT.block)(hm:P.follows .mixedOrders=true:=by kernel_rfl)(aq:AY nt p ops=true:=by kernel_rfl):aS lv P r nt c s Φ:=i.go (ahQ hm p aq h)
def lY{Φ Ψ:SI}{c:U_}(es ord:SE){pl:List rO}(Hf:SE->SA)(h:gF lv P Hf ops pl s (Ψ .normal) ⟨0⟩)(i:dT lv P r nt c Φ (.region id ops true) Ψ:=by repeat first|exact .base|apply dT.seq|apply dT.block)(hm:P.follows .mixedOrders=true:=by kernel_rfl)(aq:r_ nt ops es ord=true:=by kernel_rfl)(cr:aed ops es ord=pl:=by conv=>lhs;cbv)(h0:s.H=Hf []:=by first|rfl|simp only[seval]):aS lv P r nt c s Φ:=i.go (ahR es ord pl Hf hm aq cr h0 h)
def pL(n:Nat)(V:Nat->SH)(Hf:Nat->SA)(ok:S7)(hm:ok 0)
  (h:bJ s.H->(∀t a,look s.T t=some a->Lt s.H.length a)->∀m,m<=n->ok m->∀R:SV,(∀s',(m<n/\ok (m+1)/\rQ s.T (V m) (V (m+1)) (Hf (m+1)) s')->R s')->aS lv P r nt c ⟨V m++s.T,Hf m⟩ (an.then R Φ)) (vU:∀m m',(V m).map (·.1)=(V m').map (·.1):=by exactλ_ _=>rfl) (ii:∀p∈V 0,∃b,look s.T p.1=some b/\Wk b p.2:=by(simp only[seval];simp[bh,Wk.refl])) (vC:Hf 0=s.H:=by rfl) (hl:∀m,m<=n->ok m->(Hf m).length=s.H.length:=by exactλ_ _ _=>rfl):aS lv P r nt (.loop c) s Φ:=ej n V Hf ok vU ii vC hl hm h
def bX{base Vi Vn T:SH}{H:SA}(hk:tI T (Vi++base) Vn:=by exact jZ rfl rfl)(hv:∀p∈Vn,∃b,look T p.1=some b/\Wk b p.2:=by(simp only[seval];simp[bh,Wk.refl])):rQ base Vi Vn H ⟨T,H⟩:=asy hk hv
def aet{base Vi Vn T:SH}{H H':SA}(aq:bJ H)(hg:∃G,H++G=H':=by first|exact⟨_,rfl⟩|exact⟨_,Te ..⟩)(hk:tI T (Vi++base) Vn:=by exact jZ rfl rfl)(hv:∀p∈Vn,∃b,look T p.1=some b/\Wk b p.2:=by(simp only[seval];simp[bh,Wk.refl]))(hlt:∀p∈Vn,Lt H.length p.2:=by simp[dj]):rQ base Vi Vn H ⟨T,H'⟩:=by
 obtain⟨G,rfl⟩:=hg;exact PW hk hv aq hlt
def cP{H:SA}{args:SC}{k kp:SF}{g:UW}{first cZ:SC}(hf:ba lv P g H (first++args++cZ) k kp)(hg:rI P g=true:=by kernel_rfl):ju lv P (.fn (.func g) first cZ) H args k kp:=KQ hg hf
end
def aG{lv:Bool}{P:Tl}{H:SA}{args:SC}{k kp:SF}{g:UW}{first cZ:SC}{t:Gq k kp}(hf:ba lv P g H (first++args++cZ) k kp)(hg:rI P g=true:=by kernel_rfl):CN lv P (.fn (.func g) first cZ) H args k kp t:=yI (KQ hg hf)
def F.q0:jM S_ 22 22=(Tp (3,(1,(Th Tg (0)))))/\jM S_ 23 23=(Tp (61,(3,(UC #[(Th Tg (0)),(Th Tg (0)),(Th Tg (0))]))))/\jM S_ 24 24=(Tp (48,(4,(UC #[(Th Tg (0)),(Th Tg (0)),(Th Tg (0)),(Th Tg (0))]))))/\jM S_ 31 31=(Tp (39,(3,(UC #[(UO Option.none 0 0),(UO Option.none 0 0),(UO Option.none 0 0)]))))/\jM S_ 57 57=(Tp (22,(1,(UO Option.none 0 0))))/\nD S_ 116=(Tp ((Go.Gg.iy.fields [(0,1),(1,1)]),(UC #[(Th Tg (0)),(Th Tg (0))])))/\nD S_ 136=(Tp ((Go.Gg.iy.fields []),(UC #[])))/\nD S_ 26=(Tp ((Go.Gg.iy.fields [(0,1),(1,1),(2,1),(3,1),(4,1),(5,1)]),(UC #[(Th Tg (0)),(Th Tg (0)),(Th Tg (0)),(UO Option.none 0 0),(UO Option.none 0 0),(UO Option.none 0 0)])))/\nD S_ 39=(Tp ((Go.Gg.iy.fields [(0,1),(1,1),(2,1)]),(UC #[(UO Option.none 0 0),(UO Option.none 0 0),(UO Option.none 0 0)])))/\nD S_ 46=(Tp ((Go.Gg.iy.fields [(0,1),(1,1)]),(UC #[(Th Tg (0)),(Th Tg (0))])))/\nD S_ 48=(Tp ((Go.Gg.iy.fields [(0,2),(2,2)]),(UC #[(Th Tg (0)),(Th Tg (0)),(Th Tg (0)),(Th Tg (0))])))/\nD S_ 61=(Tp ((Go.Gg.iy.fields [(0,1),(1,2)]),(UC #[(Th Tg (0)),(Th Tg (0)),(Th Tg (0))])))/\nD S_ 73=(Tp ((Go.Gg.iy.fields [(0,1),(1,1),(2,1)]),(UC #[(UO Option.none 0 0),(Th Tg (0)),(Th UE (0))])))/\nD S_ 76=(Tp ((Go.Gg.iy.fields [(0,6)]),(UC #[(Th Tg (0)),(Th Tg (0)),(Th Tg (0)),(UO Option.none 0 0),(UO Option.none 0 0),(UO Option.none 0 0)])))/\nD S_ 86=(Tp ((Go.Gg.iy.fields [(0,4),(4,4),(8,3)]),(UC #[(Th Tg (0)),(Th Tg (0)),(Th Tg (0)),(Th Tg (0)),(Th Tg (0)),(Th Tg (0)),(Th Tg (0)),(Th Tg (0)),(Th Tg (0)),(Th Tg (0)),(Th Tg (0))])))/\nD S_ 88=(Tp ((Go.Gg.iy.fields [(0,1),(1,1),(2,4),(6,4),(10,4),(14,3),(17,11)]),(UC #[(Yj Bool.false),(am_ Option.none),(Th Uc (0)),(Th Uc (0)),(Th Uc (0)),(Th Uc (0)),(Th Uc (0)),(Th Uc (0)),(Th Uc (0)),(Th Uc (0)),(Th Uc (0)),(Th Uc (0)),(Th Uc (0)),(Th Uc (0)),(Th Uc (0)),(Th Uc (0)),(Th Uc (0)),(Th Tg (0)),(Th Tg (0)),(Th Tg (0)),(Th Tg (0)),(Th Tg (0)),(Th Tg (0)),(Th Tg (0)),(Th Tg (0)),(Th Tg (0)),(Th Tg (0)),(Th Tg (0))]))):=by and_intros<;>kernel_rfl
def F.q1:nD S_ 97=(Tp ((Go.Gg.iy.fields [(0,1),(1,1)]),(UC #[(Th Tg (0)),(Th Tg (0))])))/\CO S_ 3 71=(Tp (Tp UE))/\CO S_ 71 3=(Tp (Tp Tg))/\eR S_ 112 0=(Tp 0)/\eR S_ 112 1=(Tp 1)/\eR S_ 112 2=(Tp 2)/\eR S_ 116 0=(Tp 0)/\eR S_ 116 1=(Tp 1)/\eR S_ 26 0=(Tp 0)/\eR S_ 26 1=(Tp 1)/\eR S_ 26 2=(Tp 2)/\eR S_ 26 3=(Tp 3)/\eR S_ 26 4=(Tp 4)/\eR S_ 26 5=(Tp 5)/\eR S_ 39 0=(Tp 0)/\eR S_ 39 1=(Tp 1):=by and_intros<;>kernel_rfl
def F.q2:eR S_ 39 2=(Tp 2)/\eR S_ 46 0=(Tp 0)/\eR S_ 46 1=(Tp 1)/\eR S_ 48 0=(Tp 0)/\eR S_ 48 1=(Tp 2)/\eR S_ 61 0=(Tp 0)/\eR S_ 61 1=(Tp 1)/\eR S_ 73 0=(Tp 0)/\eR S_ 73 1=(Tp 1)/\eR S_ 73 2=(Tp 2)/\eR S_ 76 0=(Tp 0)/\eR S_ 86 0=(Tp 0)/\eR S_ 86 1=(Tp 4)/\eR S_ 86 2=(Tp 8)/\eR S_ 88 0=(Tp 0)/\eR S_ 88 1=(Tp 1):=by and_intros<;>kernel_rfl
def F.q3:eR S_ 88 2=(Tp 2)/\eR S_ 88 3=(Tp 6)/\eR S_ 88 4=(Tp 10)/\eR S_ 88 5=(Tp 14)/\eR S_ 88 6=(Tp 17)/\eR S_ 97 0=(Tp 0)/\eR S_ 97 1=(Tp 1)/\nG S_ 22=(Tp (Option.none,1))/\nG S_ 23=(Tp (Option.none,3))/\nG S_ 24=(Tp (Option.none,4))/\nG S_ 31=(Tp (Option.none,3))/\nG S_ 57=(Tp (Option.none,1))/\nG S_ 80=(Tp ((Tp 4),1))/\nG S_ 81=(Tp ((Tp 3),1))/\nG S_ 82=(Tp ((Tp 4),1))/\nG S_ 83=(Tp ((Tp 4),1)):=by and_intros<;>kernel_rfl
def F.q4:nG S_ 84=(Tp ((Tp 3),1))/\yp S_ 82=(Tp (4,1))/\yp S_ 83=(Tp (4,1))/\yp S_ 84=(Tp (3,1))/\kM S_ 22=(Tp (3,1))/\kM S_ 24=(Tp (48,4))/\kM S_ 82=Option.none/\kM S_ 83=Option.none/\kM S_ 84=Option.none/\lq S_ 22=(Tp Go.Gg.yr.slice)/\lq S_ 23=(Tp Go.Gg.yr.slice)/\lq S_ 24=(Tp Go.Gg.yr.slice)/\lq S_ 31=(Tp Go.Gg.yr.slice)/\lq S_ 57=(Tp Go.Gg.yr.slice)/\CY S_ 22=(Tp (3,(1,(Th Tg (0)))))/\pF S_ 77=(Tp (83,4)):=by and_intros<;>kernel_rfl
def F.q5:qF S_ 22=(Tp (3,(1,(Th Tg (0)))))/\qF S_ 23=(Tp (61,(3,(UC #[(Th Tg (0)),(Th Tg (0)),(Th Tg (0))]))))/\qF S_ 24=(Tp (48,(4,(UC #[(Th Tg (0)),(Th Tg (0)),(Th Tg (0)),(Th Tg (0))]))))/\qF S_ 31=(Tp (39,(3,(UC #[(UO Option.none 0 0),(UO Option.none 0 0),(UO Option.none 0 0)]))))/\qF S_ 57=(Tp (22,(1,(UO Option.none 0 0))))/\Ty S_ 116=(Tp (2,Bool.true))/\Ty S_ 130=(Tp (1,Bool.false))/\Ty S_ 132=(Tp (1,Bool.false))/\Ty S_ 136=(Tp (0,Bool.true))/\Ty S_ 139=(Tp (1,Bool.false))/\Ty S_ 157=(Tp (1,Bool.false))/\Ty S_ 22=(Tp (1,Bool.false))/\Ty S_ 23=(Tp (1,Bool.false))/\Ty S_ 24=(Tp (1,Bool.false))/\Ty S_ 26=(Tp (6,Bool.true))/\Ty S_ 3=(Tp (1,Bool.false)):=by and_intros<;>kernel_rfl
def F.q6:Ty S_ 4=(Tp (1,Bool.false))/\Ty S_ 46=(Tp (2,Bool.true))/\Ty S_ 48=(Tp (4,Bool.true))/\Ty S_ 61=(Tp (3,Bool.true))/\Ty S_ 68=(Tp (1,Bool.false))/\Ty S_ 71=(Tp (1,Bool.false))/\Ty S_ 76=(Tp (6,Bool.true))/\Ty S_ 77=(Tp (1,Bool.false))/\Ty S_ 79=(Tp (1,Bool.false))/\Ty S_ 81=(Tp (3,Bool.true))/\Ty S_ 83=(Tp (4,Bool.true))/\Ty S_ 86=(Tp (11,Bool.true))/\Ty S_ 88=(Tp (28,Bool.true))/\Ty S_ 97=(Tp (2,Bool.true))/\fh S_ 112=(Tp (UC #[(Th Tg (0)),(Th Tg (0)),(Yj Bool.false)]))/\fh S_ 116=(Tp (UC #[(Th Tg (0)),(Th Tg (0))])):=by and_intros<;>kernel_rfl
def F.q7:fh S_ 136=(Tp (UC #[]))/\fh S_ 139=(Tp (YQ Option.none))/\fh S_ 147=(Tp (UC #[(Th UE (0)),(Th axG (0))]))/\fh S_ 153=(Tp (UC #[(Th Tg (0)),(Th Tg (0))]))/\fh S_ 157=(Tp ZU)/\fh S_ 26=(Tp (UC #[(Th Tg (0)),(Th Tg (0)),(Th Tg (0)),(UO Option.none 0 0),(UO Option.none 0 0),(UO Option.none 0 0)]))/\fh S_ 3=(Tp (Th Tg (0)))/\fh S_ 46=(Tp (UC #[(Th Tg (0)),(Th Tg (0))]))/\fh S_ 48=(Tp (UC #[(Th Tg (0)),(Th Tg (0)),(Th Tg (0)),(Th Tg (0))]))/\fh S_ 61=(Tp (UC #[(Th Tg (0)),(Th Tg (0)),(Th Tg (0))]))/\fh S_ 68=(Tp ZU)/\fh S_ 76=(Tp (UC #[(Th Tg (0)),(Th Tg (0)),(Th Tg (0)),(UO Option.none 0 0),(UO Option.none 0 0),(UO Option.none 0 0)]))/\fh S_ 79=(Tp (Th Uc (0)))/\fh S_ 80=(Tp (UC #[(Th Uc (0)),(Th Uc (0)),(Th Uc (0)),(Th Uc (0))]))/\fh S_ 81=(Tp (UC #[(Th Uc (0)),(Th Uc (0)),(Th Uc (0))]))/\fh S_ 83=(Tp (UC #[(Th Tg (0)),(Th Tg (0)),(Th Tg (0)),(Th Tg (0))])):=by and_intros<;>kernel_rfl
def F.q8:fh S_ 86=(Tp (UC #[(Th Tg (0)),(Th Tg (0)),(Th Tg (0)),(Th Tg (0)),(Th Tg (0)),(Th Tg (0)),(Th Tg (0)),(Th Tg (0)),(Th Tg (0)),(Th Tg (0)),(Th Tg (0))]))/\fh S_ 97=(Tp (UC #[(Th Tg (0)),(Th Tg (0))])):=by and_intros<;>kernel_rfl
attribute [seval] F.q0 F.q1 F.q2 F.q3 F.q4 F.q5 F.q6 F.q7 F.q8 F.QX F.Q7
def isDone (j:Nat)(D:SE):Bool:=D.contains j
def aov(j:Nat):isDone j []=false:=by simp[isDone]
def aou(i j:Nat)(D:SE):isDone j (i::D)=((j==i)||isDone j D):=by
 by_cases h:j=i<;>simp[isDone,h]
def aiH(lv:Bool)(P:Tl)(Hf:SE->SA)(T:SH)(o:Vo)(av:AV):BQ lv P Hf T o av []=True:=by rw[BQ]
def aiG(lv:Bool)(P:Tl)(Hf:SE->SA)(T:SH)(o:Vo)(av:AV)(D D':SE)(l:List (SE×SE)):BQ lv P Hf T o av ((D,D')::l)=((AQ lv P ⟨T,Hf D⟩ o λa=>a=av)/\BQ lv P Hf T o av l):=by rw[BQ]
def aif(lv:Bool)(P:Tl)(Hf:SE->SA)(T:SH)(o:Vo)(av:AV):BE lv P Hf T o av []=True:=by rw[BE]
def aie(lv:Bool)(P:Tl)(Hf:SE->SA)(T:SH)(o:Vo)(av:AV)(D D':SE)(l:List (SE×SE)):BE lv P Hf T o av ((D,D')::l)=((ku lv P (Hf D') ⟨T,Hf D⟩ o λa H'=>a=av/\H'=Hf D')/\BE lv P Hf T o av l):=by rw[BE]
def aib:type_of% @gF.eq_1:=by intros;rw[gF.eq_1]
def aic:type_of% @gF.eq_2:=by intros;rw[gF.eq_2]
def aia:type_of% @gF.eq_3:=by intros;rw[gF.eq_3]
def agC:type_of% @ku.eq_1:=by intros;rw[ku.eq_1]
def ajv(G H:SA)(k:SF)(n m sz:Nat)(elem:TypeId)(l l':SC):rK G H k n m sz elem l l' .exact=kx G[H.length]? (0<m/\k (.bC H.length 0 (n+m) 0) (H++[.own sz (l++l') elem])) (k (.sl (n+m) (l++l') (.opn H.length)) (H++[.tail (n+m) sz elem])) ⟨0⟩:=by rw[rK]
def alQ(X Y:Prop)(t:mw X Y):kx none X Y t=Y:=by rw[kx];simp
def alR(a:Nat)(b:SC)(c:TypeId)(X Y:Prop)(t:mw X Y):kx (some (.own a b c)) X Y t=X:=by rw[kx]
def alP(b:SC)(c:TypeId)(X Y:Prop)(t:mw X Y):kx (some (.cells b c)) X Y t=Y:=by rw[kx];simp
def alU(a b:Nat)(c:TypeId)(X Y:Prop)(t:mw X Y):kx (some (.tail a b c)) X Y t=Y:=by rw[kx];simp
def alO(b:Obj)(X Y:Prop)(t:mw X Y):kx (some (.obj b)) X Y t=Y:=by rw[kx];simp
def alT(a:Nat)(b:SC)(c:TypeId)(X Y:Prop)(t:mw X Y):kx (some (.part a b c)) X Y t=Y:=by rw[kx];simp
@[congr] theorem awo {x x' : Option aa} {X Y : Prop} {t : mw X Y} (h : x = x') : kx x X Y t = kx x' X Y t := by rw[h]
def ajw(G H:SA)(k:SF)(n m sz:Nat)(elem:TypeId)(l l':SC)(i:Nat):rK G H k n m sz elem l l' (.opn i)=((match H[i]?with
   |some (.tail n' eX iB)=>n'=n/\eX=sz/\iB=elem
   |_=>False)/\(∀a∈l',a.leaf=true)/\k (.sl (n+m) (l++l') (.opn i)) (H.set i (.tail (n+m) sz elem))):=by first|(rw[rK];done)|(rw[rK];rfl)
section
variable {lv:Bool}{P:Tl}{s s':AS}
@[congr] theorem avN {G G' : SA} {o : Vo} {k : AV -> SA -> Prop} (hG : G = G') (h : s = s') : ku lv P G s o k = ku lv P G' s' o k := by rw[hG, h]
@[congr] theorem awc {Hf : SE -> SA} {ops : Array Vo} {l l' : List rO} {K : AS -> Prop} {t : CV K} (hl : l = l') (h : s = s') : gF lv P Hf ops l s K t = gF lv P Hf ops l' s' K t := by rw[hl, h]
@[congr] theorem awf {Hf : SE -> SA} {T T' : List (Nat × AV)} {o : Vo} {av nf : AV} {l l' : List (SE × SE)} (h1 : T = T') (h2 : av = nf) (h3 : l = l') : BQ lv P Hf T o av l = BQ lv P Hf T' o nf l' := by rw[h1, h2, h3]
@[congr] theorem awd {Hf : SE -> SA} {T T' : List (Nat × AV)} {o : Vo} {av nf : AV} {l l' : List (SE × SE)} (h1 : T = T') (h2 : av = nf) (h3 : l = l') : BE lv P Hf T o av l = BE lv P Hf T' o nf l' := by rw[h1, h2, h3]
@[congr] theorem awj {f f' : AV} {H H' : SA} {aJ vc : SC} {k : AV -> SA -> Prop} {t : CW k} (h1 : f = f') (h2 : H = H') (h3 : aJ = vc) : Gh lv P f H aJ k t = Gh lv P f' H' vc k t := by rw[h1, h2, h3]
@[congr] theorem awk {f f' : AV} {name : String} {H H' : SA} {aJ vc : SC} {k : AV -> SA -> Prop} {t : CW k} (h1 : f = f') (h2 : H = H') (h3 : aJ = vc) : Kf lv P f name H aJ k t = Kf lv P f' name H' vc k t := by rw[h1, h2, h3]
@[congr] theorem awi {G G' H H' : SA} {k : AV -> SA -> Prop} {n n' m m' sz : Nat} {elem : TypeId} {l l' x x' : SC} {e e' : End} (hG : G = G') (h0 : H = H') (h1 : n = n') (h2 : m = m') (h3 : l = l') (h4 : x = x') (h5 : e = e') : rK G H k n m sz elem l x e = rK G' H' k n' m' sz elem l' x' e' := by rw[hG, h0, h1, h2, h3, h4, h5]
end
attribute [seval] aov aou aiH aiG aif aie aib aic aia agC ajv ajw alQ alR alP alU alO alT Bool.true_or Bool.false_or Bool.or_true Bool.or_false cond_true cond_false
def an.stay (Φ:SI):an->AS->Prop
 |.goto _,_=>False
 |e,s=>Φ e s
def atQ(Φ:SI)(s:AS):an.stay Φ .normal s=Φ .normal s:=by rw[an.stay];simp
def atT(Φ:SI)(s:AS):an.stay Φ .ret s=Φ .ret s:=by rw[an.stay];simp
def atP(Φ:SI)(i:Nat)(s:AS):an.stay Φ (.exit i) s=Φ (.exit i) s:=by rw[an.stay];simp
def atS(Φ:SI)(a:AV)(s:AS):an.stay Φ (.panic a) s=Φ (.panic a) s:=by rw[an.stay];simp
def Ry{lv:Bool}{P:Tl}{r:SL}{s:AS}{nt:Nat}{c:U_}{Φ:SI}(h:aS lv P r nt c s (an.stay Φ)):aS lv P r nt (.scope c) s Φ:=by
 refine ahY (λ_ _ _=>False) ⟨0,h.mono λe s hs=> ?_⟩ λ_ _ _ _ _ hf=>hf.elim;cases e<;>first|exact hs|exact hs.elim
@[congr] theorem awU {s s' : AS} {Φ : an -> AS -> Prop} {e e' : an} (he : e = e') (h : s = s') : an.stay Φ e s = an.stay Φ e' s' := by rw[he, h]
attribute [seval] atQ atT atP atS
def aos{α:Type}(n:Nat)(x:α):(if(n:Int)<0 then none else some x)=some x:=by rw[if_neg (by omega)]
def aiE:(YI==WZ)=false:=by decide
def aiF:(WZ==WZ)=true:=by decide
def auz{α β:Type}(f:α->β)(xs:List α):(xs.map f).take xs.length=xs.map f:=Tx (by simp)
def aqO(o:Xf):(o=o\/o=.neq)=True:=by simp
def aqP:(WZ=.eql\/WZ=.neq)=True:=by simp
def aoy{α:Type}(a b:α):(if false=true then a else b)=b:=by simp
def aoz{α:Type}(a b:α):(if true=true then a else b)=a:=by simp
def aiA(s:AS):s.jw none=some none:=by rw[AS.jw]
def aiB(s:AS)(x:Ur):s.jw (some x)=(s.ev x).bind λa=>a.wX.map some:=by
 rw[AS.jw];cases s.ev x<;>rfl
def ahA(j:U3)(n:Int):AV.wX (.val (.int j n))=some n:=by rw[AV.wX]
def agR(P:Tl)(t:TypeId)(id off:Nat)(l h m:TM)(k:SR):tD P t (.op id off) l h m k=ao (yp P t) λp=>tK id off p.1 p.1 p.2 l h m k:=by rw[tD]
def agS(P:Tl)(t:TypeId)(id off n c:Nat)(l h m:TM)(k:SR):tD P t (.bC id off n c) l h m k=ao (kM P t) λp=>tK id off n c p.2 l h m k:=by rw[tD]
def agT(P:Tl)(t:TypeId)(n:Nat)(li:SC)(e:End)(l h m:TM)(k:SR):tD P t (.sl n li e) l h m k=ao (kM P t) λp=>yx n li e p.2 l h m k:=by rw[tD]
def aqV:type_of% @tK.eq_1:=by intros;rw[tK.eq_1]
def atp:type_of% @yx.eq_1:=by intros;rw[yx.eq_1]
@[congr] theorem awP {id pj off FF n n' cap cap' sz eX : Nat} {lo Fs hi cI mx Fy : Option Int} {k : AV -> Prop} (h1 : id = pj) (h2 : off = FF) (h3 : n = n') (h4 : cap = cap') (h5 : sz = eX) (h6 : lo = Fs) (h7 : hi = cI) (h8 : mx = Fy) : tK id off n cap sz lo hi mx k = tK pj FF n' cap' eX Fs cI Fy k := by rw[h1, h2, h3, h4, h5, h6, h7, h8]
@[congr] theorem awS {n n' sz eX : Nat} {l l' : SC} {e e' : End} {lo Fs hi cI mx Fy : Option Int} {k : AV -> Prop} (h3 : n = n') (h1 : l = l') (h2 : e = e') (h5 : sz = eX) (h6 : lo = Fs) (h7 : hi = cI) (h8 : mx = Fy) : yx n l e sz lo hi mx k = yx n' l' e' eX Fs cI Fy k := by rw[h1, h2, h3, h5, h6, h7, h8]
def aqh:((1:Nat):Int)=1:=rfl
def aqi:((2:Nat):Int)=2:=rfl
def aqj:((3:Nat):Int)=3:=rfl
def aqk:((4:Nat):Int)=4:=rfl
def aql:((5:Nat):Int)=5:=rfl
def aqm:((6:Nat):Int)=6:=rfl
def auW(p:Prop):(True\/p)=True:=by simp
def aqT(p:Prop):(p\/True)=True:=by simp
attribute [seval] aqh aqi aqj aqk aql aqm auW aqT Int.le_refl List.length_map
def ahr(H L:SA):(H++L)[H.length+1+1]?=L[2]?:=wV H L 2
def ahs(H L:SA):(H++L)[H.length+1+1+1]?=L[3]?:=wV H L 3
def ahv(H L:SA)(x:aa):(H++L).set (H.length+1+1) x=H++L.set 2 x:=wW H L 2 x
def ahw(H L:SA)(x:aa):(H++L).set (H.length+1+1+1) x=H++L.set 3 x:=wW H L 3 x
attribute [seval] ahr ahs ahv ahw
attribute [seval] aiA aiB ahA agR agS agT aqV atp Option.getD_none Option.getD_some Int.toNat_zero Nat.sub_zero Option.bind_some Option.map_some Nat.zero_le Option.isSome_none Option.isSome_some Bool.false_eq_true false_implies
attribute [seval] aos aiE aiF auz aqO aqP aoy aoz
section
variable {P:Tl}{α β:Type}
def i_(a:α):cL P (pure a) a:=λw es=>by simp only[pure,WW]
def lU{x:Sem α}{f:α->Sem β}{a:α}{b:β}(h:cL P x a)(k:cL P (f a) b):cL P (x>>=f) b:=λw es=>by
 show (x.bind f).runT P w es=_;rw[Sem.runT_bind',h w es];exact k w es
def aul{k:Tl->Sem α}{a:α}(h:cL P (k P) a):cL P (.program k) a:=λw es=>by simp only[WW];exact h w es
def Qk{k:Tl->Sem α}{a:α}(h:cL P (k P) a):cL P (program>>=k) a:=lU (a:=P) (aul (i_ P)) h
def Am{t:TypeId}{d:TypeDesc}{k:TypeDesc->Sem α}{a:α}(h:P.underlying t=some d)(hk:cL P (k d) a):cL P (underlying t>>=k) a:=by
 unfold underlying;refine lU (a:=d) (Qk ?_) hk;rw[h];exact i_ d
def AI:TypeDesc->Bool
 |.struct _|.array _ _=>true
 |_=>false
def afu{t:TypeId}{d:TypeDesc}{k:Bool->Sem α}{a:α}(h:P.underlying t=some d)(hk:cL P (k (AI d)) a):cL P (isAgg t>>=k) a:=by
 unfold isAgg;refine lU (Am (a:=AI d) h ?_) hk;cases d<;>exact i_ _
def Ql{t:TypeId}{i:Xp}{k:Nat->Sem α}{a:α}(h:P.info? t=some i)(hk:cL P (k i.size) a):cL P (sizeOf t>>=k) a:=by
 unfold sizeOf typeInfo;refine lU (lU (a:=i) (Qk ?_) (i_ _)) hk;rw[h];exact i_ i
def F0{t:TypeId}{d:TypeDesc}{xs:SG}{off:Nat}{v:Uf}{k:Uf->Sem α}{a:α}(h:P.underlying t=some d)(hd:AI d=false)(hv:xs[off]?=some v)(hk:cL P (k v) a):cL P (part t xs off>>=k) a:=by
 unfold part;refine lU (a:=v) (afu h ?_) hk;rw[hd,hv];exact i_ v
def afv{t:TypeId}{d:TypeDesc}{i:Xp}{xs:SG}{off:Nat}{k:Uf->Sem α}{a:α}(h:P.underlying t=some d)(hd:AI d=true)(hi:P.info? t=some i)(hk:cL P (k (.agg (xs.extract off (off+i.size)))) a):cL P (part t xs off>>=k) a:=by
 unfold part;refine lU (afu h ?_) hk;rw[hd];exact Ql hi (i_ _)
def afs{t:TypeId}{k0 k:U3}{d:Nat}{x y:Int}(h:P.underlying t=some (.int k0)):cL P (WN (d+1) t (.int k x) (.int k y)) (x==y):=by
 rw[WN];refine Am h ?_;dsimp only;rw[if_pos rfl];exact i_ _
def afm{ι:Type}{body:ι->Option Bool×Unit->Sem (ForInStep (Option Bool×Unit))}{p:ι->Bool}:∀(l:List ι),(∀i∈l,cL P (body i (none,())) (if p i then .yield (none,())else .done (some false,())))->cL P (forIn l (none,()) body) (if l.all p then(none,())else(some false,()))
 |[],_=>by simpa using i_ (none,())
 |i::l,h=>by
  rw[X4];refine lU (h i (UH ..)) ?_;by_cases hp:p i=true
  ·simp only[hp,if_true,aw3,Vt];exact afm l λj hj=>h j (Uj _ hj)
  ·have BH:p i=false:=(by simpa using hp);simp only[BH,UD,if_false,aw3,Wj];exact i_ _
def ahj{α:Type}[BEq α][LawfulBEq α]{xs ys:List α}{n:Nat}(hx:xs.length=n)(hy:ys.length=n):((Vd 0 n).all λi=>xs[i]?==ys[i]?)=(xs==ys):=by
 rw[Vh,UB,beq_iff_eq];constructor
 ·intro h;apply Zo;intro i;by_cases hi:i<n
  ·have:=h i (by simp[Y2];omega);simpa using this
  ·rw[Vy (by omega),Vy (by omega)]
 ·rintro rfl i _;simp
def aui{t e:TypeId}{k0 k:U3}{n d:Nat}{i:Xp}{xs ys:SD}(ht:P.underlying t=some (.array n e))(he:P.underlying e=some (.int k0))(hi:P.info? e=some i)(hs:i.size=1)(hx:xs.length=n)(hy:ys.length=n):
  cL P (WN (d+2) t (.agg (xs.map (Th k)).toArray) (.agg (ys.map (Th k)).toArray)) (xs==ys):=by
 rw[WN];refine Am ht ?_;dsimp only;refine Ql hi ?_;rw[hs];simp only[Xy,Yw];refine lU (a:=if(xs==ys)then(none,())else(some false,())) ?_ (by cases xs==ys<;>exact i_ _);have hn:(n-0+1-1)/1=n:=by simp
 rw[hn,<- ahj hx hy];refine afm _ λj hj=> ?_;have mI:j<n:=by simp[Y2]at hj;omega
 have gx:xs[j]?=some (xs[j]'(by omega)):=Tw _;have gy:ys[j]?=some (ys[j]'(by omega)):=Tw _;rw[YE];refine F0 he rfl (v:=.int k (xs[j]'(by omega))) (by simp[gx]) ?_;refine F0 he rfl (v:=.int k (ys[j]'(by omega))) (by simp[gy]) ?_;refine lU (afs he) ?_;rw[gx,gy];by_cases h:xs[j]'(by omega)=ys[j]'(by omega)
 ·rw[h];simp;exact i_ _
 ·have h1:(xs[j]'(by omega)==ys[j]'(by omega))=false:=by simpa using h
  have h2:(some (xs[j]'(by omega))==some (ys[j]'(by omega)))=false:=by simpa using h
  rw[h1,h2];exact i_ _
def cL.uniq{x:Sem α}{a b:α}(h:cL P x a)(k:cL P x b):a=b:=by
 have e:=(h default #[]).symm.trans (k default #[]);have e1:=congrArg Prod.fst e;exact(axW e1).1
def afp{t e:TypeId}{k0:U3}{n:Nat}{i:Xp}{xs ys:SD}(ht:P.underlying t=some (.array n e))(he:P.underlying e=some (.int k0))(hi:P.info? e=some i)(hs:i.size=1)(hx:xs.length=n)(hy:ys.length=n):
  cL P (XP t (.agg (xs.map (Th .i64)).toArray) (.agg (ys.map (Th .i64)).toArray)) (xs==ys):=aui (d:=9998) ht he hi hs hx hy
def wz(xs:SD):AV.raw (.agg (xs.map iv))=some (.agg (xs.map (Th .i64)).toArray):=by
 have:∀l:SD,(l.map iv).mapM AV.Ci=some (l.map (Th .i64)):=by
  intro l;induction l with
  |nil=>rfl
  |cons x l ih=>simp only[Wd,Vb,ih];rfl
 simp only[AV.raw,this];rfl
def arv{xs:SD}{i:Nat}{y:Int}(h:i<xs.length):iY (xs.map iv) i [iv y]=(xs.set i y).map iv:=by
 unfold iY;rw[List.map_set,YO,if_pos (by simpa using h)];simp
def ya{xs:SD}{i:Nat}{y:Int}(h:i<xs.length):(xs.map iv).take i++[iv y]++(xs.map iv).drop (i+1)=(xs.set i y).map iv:=arv h
def ky{xs:SD}{i:Nat}{x:Int}(h:xs[i]?=some x):(xs.map iv).drop i=iv x::(xs.drop (i+1)).map iv:=by
 have h1:=e_ h;rw[<- axB,UY h1,Wd];rw[Tw h1]at h;cases h;rfl
end
def ac5(xs:SD):(∀a∈xs.map iv,a.leaf=true)=True:=by
 simp only[Uo,eq_iff_iff,iff_true]
 rintro a ⟨x,_,rfl⟩;rfl
attribute [seval] List.append_nil ac5
def Ax (lv:Bool)(P:Tl)(g:UW)(args:SG)(md:Wo)(V:View)(R:Wo->View->Prop):Prop:=
 ∀(main:Bool)(J:SM),Closed lv P main J->∀(fr:VR)(cs:SX),fr.mode=md->(∀oD V',R oD V'->J V' (G {fr with mode:=oD} cs))->J V (G (Frame.enter P g args .deferred) (fr::cs))
def rX:Wo->Wo
 |.panicking ({recovered:=true, .. }::Ph)=>match Ph.dropWhile (!·.goexit)with
  |[]=> .returning
  |rest=> .panicking rest
 |m=>m
def ac6{lv:Bool}{P:Tl}{main:Bool}{J:SM}(C:Closed lv P main J){fr c:VR}{cs:SX}{f:UW}{v:Uf}{V:View}(h:Leaves P fr f .deferred (.ret v) V)(hJ:J V (G {c with mode:=rX c.mode} cs)):J V (G fr (c::cs)):=by
 obtain⟨rfl,hd,hk,fn,hf,hm,hr⟩:=h;refine C.step _ _ rfl λw hw=> ?_;obtain⟨es,w',V',h1,h2,h3⟩:=hr.runs hw;rcases h3 with⟨x,h3,rfl,rfl⟩|⟨_,_,h⟩
 ·refine⟨G {c with mode:=rX c.mode} cs,w',seen P fr.fn es,V',?_,h1.seen P fr.fn,hJ⟩;simp only[G,stepG,unwind,doReturn,hm,hd,hk,hf,UF,h3,h2,U8];cases H8:c.mode with
  |run=>simp[rX,<- H8]
  |returning=>simp[rX,<- H8]
  |panicking ch=>
   cases ch with
   |nil=>simp[rX,<- H8]
   |cons p Ph=>
    obtain⟨v,rec,ge⟩:=p;cases rec with
    |false=>simp[rX,<- H8]
    |true=>
     simp only[rX];cases hdw:Ph.dropWhile (!·.goexit)with
     |nil=>simp
     |cons x y=>simp
 ·exact h.elim
def aas{ρ:Ur->Uf}{o:Vo}{cl:Ys}(az:o.op=.call cl)(bi:cl.callee=.builtin .recover)(P:Tl)(w:Uu)(es:SP):(execOp ρ o).runT P w es=(.ok .recover w,es):=by
 unfold execOp;rw[az];dsimp only;unfold resolve;rw[bi];rfl
def asO{P:Tl}{main:Bool}{b c:VR}{a:Act}{k:SZ}{cs:SX}{w:Uu}{ops:SK}{i:Nat}{rest:SE}{o:Vo}{cl:Ys}{v:Uf}(ho:ops[i]?=some o)(hg:o.guard=none)(az:o.op=.call cl)(bi:cl.callee=.builtin .recover)(hb:b.kind=.deferred)(hr:b.roundOf=none)
  (hm:c.mode=.panicking [{v,recovered:=false}]):stepG P main (G (on b a (.inRegion ops (i::rest)::k)) (c::cs)) w=.go (G (on b (a.put o.dst v) (.inRegion ops rest::k)) ({c with mode:=.panicking [{v,recovered:=true}]}::cs)) w #[]:=by
 have eJ:(on b a (.inRegion ops (i::rest)::k)).finish v=on b (a.put o.dst v) (.inRegion ops rest::k):=by
  rw[Cb,ho];rfl
 rw[s_op ho (by unfold Up;rw[hg]) (.inl hr),<- eJ];have ki:((on b a (.inRegion ops (i::rest)::k)).kind==Wl)=false:=by simp[on,hb]
 simp only[stepG.apply,if_true,aas az bi,ki,U8,UD,if_false];have h1:(on b a (.inRegion ops (i::rest)::k)).roundOf=none:=hr;have h2:(on b a (.inRegion ops (i::rest)::k)).kind=.deferred:=hb;rw[h1];simp only[tryRecover,h2,hm];simp[seen,G]
def asP{P:Tl}{main:Bool}{b c:VR}{a:Act}{k:SZ}{cs:SX}{w:Uu}{ops:SK}{i:Nat}{rest:SE}{o:Vo}{cl:Ys}(ho:ops[i]?=some o)(hg:o.guard=none)(az:o.op=.call cl)(bi:cl.callee=.builtin .recover)(hb:b.kind=.deferred)(hr:b.roundOf=none)
  (hm:c.mode=.returning):stepG P main (G (on b a (.inRegion ops (i::rest)::k)) (c::cs)) w=.go (G (on b (a.put o.dst .nilIface) (.inRegion ops rest::k)) (c::cs)) w #[]:=by
 have eJ:(on b a (.inRegion ops (i::rest)::k)).finish .nilIface=on b (a.put o.dst .nilIface) (.inRegion ops rest::k):=by
  rw[Cb,ho];rfl
 rw[s_op ho (by unfold Up;rw[hg]) (.inl hr),<- eJ];have ki:((on b a (.inRegion ops (i::rest)::k)).kind==Wl)=false:=by simp[on,hb]
 simp only[stepG.apply,if_true,aas az bi,ki,U8,UD,if_false];have h1:(on b a (.inRegion ops (i::rest)::k)).roundOf=none:=hr;have h2:(on b a (.inRegion ops (i::rest)::k)).kind=.deferred:=hb;rw[h1];simp only[tryRecover,h2,hm];simp[seen,G]
def Gi (P:Tl)(fn:ZD)(K:View->Prop):Ex->Act->View->Prop
 |.normal,a,V|.ret,a,V=>a.defers=[]/\∃v,aU P V (results fn a.tmps) (λx V'=>x=v/\V'=V) (λ_ _=>False)/\K V
 |_,_,_=>False
def ai6{lv:Bool}{P:Tl}{g:UW}{fn:ZD}{id:Nat}{ops:SK}{c2:U_}{o:Vo}{cl:Ys}{args:SG}{md:Wo}{v0:Uf}{V:View}{R:Wo->View->Prop}
  (hf:P.funcs[g]?=some fn) (hb:fn.body=some (.seq (.region id ops false) c2)) (ho:ops[0]?=some o) (hg:o.guard=none) (az:o.op=.call cl) (bi:cl.callee=.builtin .recover)
  (qZ:md=.panicking [{v:=v0,recovered:=false}]\/(md=.returning/\v0=.nilIface))
  (h:dD lv P none ops (Ex.then (WP lv P none c2 (Gi P fn (R .returning))) (Gi P fn (R .returning))) (Vd 1 (ops.size-1)) (({tmps:=args++UT (fn.ntmps-args.size) undef,defers:=[]}:Act).put o.dst v0) V):Ax lv P g args md V R:=by
 intro main J C fr cs mH hR;let b:VR:={(default:VR)with fn:=g,kind:=.deferred,roundOf:=none};have vN:Frame.enter P g args .deferred=on b {tmps:=args++UT (fn.ntmps-args.size) undef,defers:=[]} [.code (.seq (.region id ops false) c2)]:=by
  simp[Frame.enter,on,hf,hb,b]
 rw[vN];have aZ:0<ops.size:=(T5.1 ho).1;have NK:T1 ops.size=0::Vd 1 (ops.size-1):=by
  rw[WE];obtain⟨n,hn⟩:∃n,ops.size=n+1:=⟨ops.size-1,by omega⟩;rw[hn,W9];rfl
 refine C.idle rfl (λ_=>aez) (C.idle rfl (λ_=>aey) ?_);rw[NK];have fin:∀(c:VR),rX c.mode=.returning->{c with mode:=rX c.mode}={fr with mode:=.returning}->∀e a' V',Gi P fn (R .returning) e a' V'->wQ J b [] (c::cs) e a' V':=by
  intro c hc xw e a' V' q;cases e with
  |normal=>
   obtain⟨hd,v,hs,hr⟩:=q;refine C.idle rfl (λw=>FO rfl) (ac6 (f:=g) (v:=v) C ⟨rfl,hd,rfl,fn,hf,rfl,hs⟩ ?_);rw[xw];exact hR _ _ hr
  |ret=>
   obtain⟨hd,v,hs,hr⟩:=q;intro k;refine C.idle rfl (λw=>FQ rfl) (ac6 (f:=g) (v:=v) C ⟨rfl,hd,rfl,fn,hf,rfl,hs⟩ ?_);rw[xw];exact hR _ _ hr
  |_=>exact q.elim
 have run:∀(c:VR),rX c.mode=.returning->{c with mode:=rX c.mode}={fr with mode:=.returning}->J V (G (on b (({tmps:=args++UT (fn.ntmps-args.size) undef,defers:=[]}:Act).put o.dst v0) (.inRegion ops (Vd 1 (ops.size-1))::[.code c2])) (c::cs)):=by
  intro c hc xw;refine wp_ops _ _ V h main J C b [.code c2] (c::cs) (by show ZM≠Wl;decide) rfl λe a' V' q=> ?_;cases e with
  |normal=>exact q main J C b [] (c::cs) (by show ZM≠Wl;decide) rfl λe cD aV q'=>fin c hc xw e cD aV q'
  |ret=>exact fin c hc xw .ret a' V' q
  |panic ch=>exact q.elim
  |exit i=>exact q.elim
  |goto i=>exact q.elim
 rcases qZ with qZ|⟨qZ,hv⟩
 ·refine C.idle rfl (λw=>asO ho hg az bi rfl rfl (by rw[mH,qZ])) ?_;exact run {fr with mode:=.panicking [{v:=v0,recovered:=true}]} rfl rfl
 ·refine C.idle rfl (λw=>asP ho hg az bi rfl rfl (by rw[mH,qZ])) ?_;subst hv;have ik:fr.mode=.returning:=by rw[mH,qZ]
  exact run fr (by rw[ik];rfl) (by rw[ik];rfl)
section
variable {lv:Bool}{P:Tl}
def P3{g:UW}{args:SG}{V:View}{K:Next->View->Prop}{Kp:SS}(hg:rI P g=true)(h:K (.enter g args) V):aU P V (callFunc g args) K Kp:=by
 unfold callFunc;refine aA (rD (cN ?_));unfold rI at hg;split at hg
 ·rename_i fn zl;simp only[Uh,U0]at hg;rw[zl];dsimp only;have MI:fn.body.isNone=false:=by
   have h1:=hg.1;cases hb:fn.body with
   |none=>rw[hb]at h1;cases h1
   |some _=>rfl
  rw[if_neg (by rw[hg.2];simp),if_neg (by rw[MI];simp)];exact ay h
 ·cases hg
def Di{E:Env}{V:View}{H:SA}{args:SC}{vs:SG}{nt:Nat}(hc:Conc E V H)(hd:cO E args vs)(cS:args.length<=nt):At E V ⟨bm 0 args,H⟩ {tmps:=vs++UT (nt-vs.size) undef,defers:=[]} nt:=by
 have aZ:(vs++UT (nt-vs.size) undef).size=nt:=by simp[hd.1];omega
 refine⟨hc,λq a e=> ?_,aZ⟩;obtain⟨_,e⟩:=OX args 0 q a e;simp only[aw']at e;have hq:q<args.length:=(Tq.1 e).1;have ut:q<vs.size:=by rw[hd.1];exact hq
 refine⟨by rw[aZ];omega,?_⟩;have:=hd.2 q a e;rw[Ti,Ze ut];rwa[Ti]at this
def Aw (E:Env)(c:AV×SC)(d:Yd):Prop:=∃f first cZ fa ca vs,c.1=.fn (.func f) first cZ/\d=⟨.fn (.func f) ca,fa++vs⟩/\cO E first fa/\cO E cZ ca/\cO E c.2 vs
def Aw.mono{E E':Env}(h:E.Le E'){c:AV×SC}{d:Yd}(k:Aw E c d):Aw E' c d:=by
 obtain⟨f,first,cZ,fa,ca,vs,h1,h2,h3,h4,h5⟩:=k;exact⟨f,first,cZ,fa,ca,vs,h1,h2,h3.mono h,h4.mono h,h5.mono h⟩
def QY (E:Env):Option AV->Wo->Prop
 |none,md=>md=.returning
 |some pv,md=>∃v,md=.panicking [{v,recovered:=false}]/\au E pv v
def rJ (lv:Bool)(P:Tl)(c:AV×SC)(H:SA)(m:Option AV)(kr kp:SA->Prop):Prop:=
 ∀(E:Env)(V:View)(d:Yd)(md:Wo),Conc E V H->Aw E c d->QY E m md->aU P V (invoke d.target d.args) (λnx V'=>∃g args,nx=.enter g args/\Ax lv P g args md V' λoD aV=>∃E' H',E.Le E'/\aV.role=V.role/\aV.deaf=V.deaf/\Conc E' aV H'/\((oD=.returning/\kr H')\/(oD=md/\m.isSome=true/\kp H'))) (λ_ _=>False)
def CQ (n0:Nat)(kr:SA->Prop):an->AS->Prop
 |.normal,s|.ret,s=>kr s.H\/∃H' G,s.H=H'++G/\n0<=H'.length/\bJ H'/\kr H'
 |_,_=>False
def CQ.out{n0:Nat}{E0 E:Env}{V':View}{H:SA}{kr:SA->Prop}(h:kr H\/∃H' G,H=H'++G/\n0<=H'.length/\bJ H'/\kr H')(hc:Conc E V' H)(hle:E0.Le E)(hn:E0.n=n0):∃E' H',E0.Le E'/\Conc E' V' H'/\kr H':=by
 rcases h with h|⟨H',G,rfl,h1,h2,h3⟩
 ·exact⟨E,H,hle,hc,h⟩
 ·exact⟨{E with n:=H'.length},H',F3 h1 (by rw[hc.n];simp) hle hn,hc.trim h2,h3⟩
def results_none{fn:ZD}{tmps:SG}{V:View}(hr:fn.results=#[]):aU P V (results fn tmps) (λx V'=>x=.tuple #[]/\V'=V) (λ_ _=>False):=by
 unfold results;rw[show fn.results=([]:SW).toArray from hr,Y3];refine aA ?_;refine aA ?_;rw[VH];refine ay (ay (ay ⟨?_,rfl⟩));simp
def ai5{g:UW}{fn:ZD}{id nt:Nat}{ops:SK}{c2:U_}{o:Vo}{cl:Ys}{first cZ aJ:SC}{H:SA}{m:Option AV}{kr kp:SA->Prop}
  (hg:rI P g=true) (hf:P.funcs[g]?=some fn) (hb:fn.body=some (.seq (.region id ops false) c2)) (hr:fn.results=#[]) (hn:fn.ntmps=nt) (ho:ops[0]?=some o) (uj:o.guard=none) (az:o.op=.call cl) (bi:cl.callee=.builtin .recover) (dF:j8 nt ops=true) (cS:(first++aJ++cZ).length<=nt)
  (h:iS lv P ops (ops.toList.drop 1) ((⟨bm 0 (first++aJ++cZ),H⟩:AS).put o.dst (m.getD (.val .nilIface))) (λs'=>aS lv P none nt c2 s' (CQ H.length kr)) (λ_ _=>False)):rJ lv P (.fn (.func g) first cZ,aJ) H m kr kp:=by
 intro E V d md hc hd qZ;obtain⟨f,awl,awh,fa,ca,vs,h1,rfl,h3,h4,h5⟩:=hd;cases h1;unfold invoke;dsimp only;refine P3 hg ⟨g,_,rfl,?_⟩;obtain⟨v0,hv,anh⟩:∃v0,au E (m.getD (.val .nilIface)) v0/\(md=.panicking [{v:=v0,recovered:=false}]\/(md=.returning/\v0=.nilIface)):=by
  cases m with
  |none=>exact⟨.nilIface,.val _,.inr ⟨qZ,rfl⟩⟩
  |some pv=>obtain⟨v,e,hv⟩:=qZ;exact⟨v,hv,.inl e⟩
 refine ai6 hf hb ho uj az bi anh ?_;have aj:=Di (nt:=nt) hc (Dt (Dt h3 h5) h4) cS;rw[hn];have aZ:0<ops.size:=(T5.1 ho).1;have gk:o∈ops:=X6 ho;have aX:At E V ((⟨bm 0 (first++aJ++cZ),H⟩:AS).put o.dst (m.getD (.val .nilIface))) (({tmps:=fa++vs++ca++UT (nt-(fa++vs++ca).size) undef,defers:=[]}:Act).put o.dst v0) nt:=
  ⟨by rw[fK];exact aj.bB,aj.tok.iG (λd e=>by rw[aj.size];exact(j8.out dF gk).1 d e) hv,(eF _ _ _).trans aj.size⟩
 refine Cc (r:=none) (Φ:=λe s'=>match e with
  |.normal=>aS lv P none nt c2 s' (CQ H.length kr)
  |_=>False) (λo ho d e=>(j8.out dF ho).1 d e) (λ_ _=> .inl rfl) (ops.size-1) 1 _ (by omega) h E V _ _ aX λae e E' V' a' s' hk amk he hΦ=> ?_
 cases ae<;>cases e<;>first
  |exact he.elim
  |exact hΦ.elim
  |skip
 refine hΦ E' V' a' _ amk λae e bY aV cD dA aI dw kF uB=> ?_;have fin:(kr dA.H\/∃H' G,dA.H=H'++G/\H.length<=H'.length/\bJ H'/\kr H')->Gi P fn (λaV=>∃E' H',E.Le E'/\aV.role=V.role/\aV.deaf=V.deaf/\Conc E' aV H'/\((Zr=.returning/\kr H')\/(Zr=md/\m.isSome=true/\kp H'))) .ret cD aV:=λuB=>by
  obtain⟨E3,H',q1,q2,q3⟩:=CQ.out (E0:=E) uB dw.bB (hk.le.trans aI.le) hc.n;have bI:cD.defers=[]:=by rw[aI.defers,hk.defers];exact put_defers _ _ _
  exact⟨bI,_,results_none hr,E3,H',q1,aI.role.trans hk.role,aI.deaf.trans hk.deaf,q2,.inl ⟨rfl,q3⟩⟩
 cases ae<;>cases e<;>first
  |exact kF.elim
  |exact uB.elim
  |exact fin uB
def Sj{g:UW}{fn:ZD}{id nt:Nat}{ops:SK}{c2:U_}{o:Vo}{l:List Vo}{d0:SL}{cl:Ys}{first cZ aJ:SC}{H:SA}{m:Option AV}{kr kp:SA->Prop}
  (hg:rI P g=true) (hf:P.funcs[g]?=some fn) (hb:fn.body=some (.seq (.region id ops false) c2)) (hr:fn.results=#[]) (hn:fn.ntmps=nt) (hl:ops.toList=o::l) (uj:o.guard=none) (bf:o.dst=d0) (az:o.op=.call cl) (bi:cl.callee=.builtin .recover) (dF:j8 nt ops=true) (cS:(first++aJ++cZ).length<=nt)
  (h:iS lv P ops l ((⟨bm 0 (first++aJ++cZ),H⟩:AS).put d0 (m.getD (.val .nilIface))) (λs'=>aS lv P none nt c2 s' (CQ H.length kr)) (λ_ _=>False)):rJ lv P (.fn (.func g) first cZ,aJ) H m kr kp:=by
 subst bf;refine ai5 hg hf hb hr hn (o:=o) (cl:=cl) ?_ uj az bi dF cS (by rw[hl];simpa using h);have:ops.toList[0]?=some o:=by rw[hl];rfl
 simpa using this
end
section
variable {lv:Bool}{P:Tl}{r:SL}{s:AS}
def Jb{nt:Nat}{all:SK}{Φ:SI}(dF:∀o∈all,∀d,o.dst=some d->d<nt)(oc:r=none):∀(n k:Nat)(s:AS),k+n<=all.size->iS lv P all ((all.toList.drop k).take n) s (Φ .normal) (λpv s=>Φ (.panic pv) s)->
  ∀(E:Env)(V:View)(a:Act)(Q:SJ),At E V s a nt->(∀ae e E' V' a' s',Kept E E' V V' a a'->At E' V' s' a' nt->qB E' ae e->Φ ae s'->Q e a' V')->dD lv P r all Q (Vd k n) a V
 |0,k,s,hk,h,E,V,a,Q,aj,hQ=>by
  rw[Z']at h;exact hQ .normal .normal E V a s (Kept.refl E V a) aj trivial h
 |n+1,k,s,hk,h,E,V,a,Q,aj,hQ=>by
  have hlt:k<all.size:=by omega
  have hd:all.toList.drop k=all[k]::all.toList.drop (k+1):=by
   rw[UY (by simpa using hlt)];simp
  rw[hd,Xb]at h;have gk:all[k]∈all:=YV hlt;have ho:all[k]?=some all[k]:=Tn hlt;simp only[W9,dD,ho];have go:∀s:AS,At E V s a nt->m8 lv P s all[k] (λs'=>iS lv P all ((all.toList.drop (k+1)).take n) s' (Φ .normal) (λpv s=>Φ (.panic pv) s)) (λpv s=>Φ (.panic pv) s)->yu lv P r all[k] a V (dD lv P r all Q (Vd (k+1) n)) Q:=λs aj h=>by
   refine h.sound (lv:=lv) (r:=r) E V a _ Q aj.bB aj.tok (λd e=>by rw[aj.size];exact dF _ gk d e) (.inl oc) (λE' V' a' s' aI bw mN hn=> ?_) (λE' V' s' pv v aI bw mN bx hb=> ?_)
   ·exact Jb dF oc n (k+1) s' (by omega) hn E' V' a' Q ⟨bw,mN,aI.size.trans aj.size⟩ (λae e bY aV cD dA gC dw he hΦ=>hQ ae e bY aV cD dA (aI.trans gC) dw he hΦ)
   ·exact hQ (.panic pv) (.panic _) E' V' a s' aI ⟨bw,mN,aj.size⟩ ⟨v,rfl,bx⟩ hb
  simp only[iS]at h;split at h
  ·rename_i hg;have hw:Up all[k] (yielded all a.tmps)=true:=(by unfold Up;rw[hg]);rw[if_pos hw];exact .inl (go s aj h)
  ·rename_i j cw hg;obtain⟨d,gM,h⟩:=h.out;obtain⟨av,h1,h⟩:=h.out;obtain⟨b,rfl,h2,h3⟩:=Dg h;have hv:=(aj.tok d _ h1).2;have hy:yielded all a.tmps j=some b:=by
    obtain⟨oj,kV,jB⟩:=Um.1 gM;generalize hx:a.tmps.getD d undef=x at hv;cases hv;have mJ:d<a.tmps.size:=(aj.tok d _ h1).1;rw[Ti,Tn mJ]at hx;simp only[Ua]at hx;simp[yielded,kV,jB,Tn mJ,hx]
   have sU:∀b',b=b'->At E V ⟨(d,.val (.bool b'))::s.T,s.H⟩ a nt:=λb' dO=>by
    subst dO;refine⟨aj.bB,λt x e=> ?_,aj.size⟩;simp only[look]at e;split at e
    ·rename_i e';subst e';cases e;exact aj.tok d _ h1
    ·exact aj.tok t x e
   by_cases hb:b=cw
   ·have hw:Up all[k] (yielded all a.tmps)=true:=(by unfold Up;rw[hg];simp[hy,hb]);rw[if_pos hw];exact .inl (go _ (sU cw hb) (h2 hb))
   ·have hw:¬Up all[k] (yielded all a.tmps)=true:=(by unfold Up;rw[hg];simp[hy,hb]);rw[if_neg hw];have dO:b= !cw:=(by cases b<;>cases cw<;>simp_all);have xh:=h3 dO;have aj:=sU _ dO;exact Jb dF oc n (k+1) ((⟨(d,.val (.bool !cw))::s.T,s.H⟩:AS).put all[k].dst (.val undef)) (by omega) xh E V (a.put all[k].dst undef) Q
     ⟨by rw[fK];exact aj.bB,aj.tok.iG (λd e=>by rw[aj.size];exact dF _ gk d e) (.val undef),by rw[eF];exact aj.size⟩
     (λae e bY aV cD dA gC dw he hΦ=>hQ ae e bY aV cD dA ⟨gC.le,gC.size.trans (eF _ _ _),gC.defers.trans (put_defers _ _ _),gC.role,gC.deaf⟩ dw he hΦ)
def nb.mono{o:Vo}{a:Act}{N N':S4}{Q Q':SJ}(hN:∀a V,N a V->N' a V)(hQ:∀ch a V,Q (.panic ch) a V->Q' (.panic ch) a V){nx:Next}{V:View}(h:nb lv P r o a N Q nx V):nb lv P r o a N' Q' nx V:=by
 cases nx with
 |value v=>exact hN _ _ h
 |skip=>exact hN _ _ h
 | «defer» d => exact ⟨h.1, hN _ _ h.2⟩
 |enter f args=>
  refine Body.mono (R:=fun
   |.ret v,V'=>N (a.put o.dst v) V'
   |.panic ch,V'=>Q (.panic ch) a V') (R':=fun
   |.ret v,V'=>N' (a.put o.dst v) V'
   |.panic ch,V'=>Q' (.panic ch) a V') h λot V' h=> ?_
  cases ot
  ·exact hN _ _ h
  ·exact hQ _ _ _ h
 |round l f tmps aJ b=>
  refine nK.mono (R:=fun
   |.ret v,V'=>N (a.put o.dst v) V'
   |.panic ch,V'=>Q (.panic ch) a V') (R':=fun
   |.ret v,V'=>N' (a.put o.dst v) V'
   |.panic ch,V'=>Q' (.panic ch) a V') h λot V' h=> ?_
  cases ot
  ·exact hN _ _ h
  ·exact hQ _ _ _ h
 |_=>exact h.elim
def CG{ops:SK}{Q:SJ}{l2:SE}:∀(l1:SE)(a:Act)(V:View),dD lv P r ops (Ex.then (dD lv P r ops Q l2) Q) l1 a V->dD lv P r ops Q (l1++l2) a V
 |[],a,V,h=>h
 |i::l1,a,V,h=>by
  simp only[Wv,dD]at h⊢;cases ho:ops[i]?with
  |none=>rw[ho]at h;exact CG l1 a V h
  |some o=>
   rw[ho]at h;dsimp only at h⊢;split at h
   ·rename_i hw;rw[if_pos hw];rcases h with h|h
    rotate_left
    ·exact .inr (h.mono λa V h=>CG l1 a V h)
    obtain⟨h1,h2⟩:=h;exact .inl ⟨h1,h2.mono (λnx V' h=>nb.mono (λa V h=>CG l1 a V h) (λ_ _ _ h=>h) h) λ_ _ h=>h⟩
   ·rename_i hw;rw[if_neg hw];exact CG l1 _ V h
def ym (E:Env):List (AV×SC)->List Yd->Prop
 |[],[]=>True
 |c::ds,d::l=>Aw E c d/\ym E ds l
 |_,_=>False
abbrev S5:=List Yd
def ym.mono{E E':Env}(h:E.Le E'):∀{ds:List (AV×SC)}{l:S5},ym E ds l->ym E' ds l
 |[],[],_=>trivial
 |_::_,_::_,k=>⟨k.1.mono h,ym.mono h k.2⟩
 |[],_::_,k=>k.elim
 |_::_,[],k=>k.elim
structure rM (E E':Env)(V V':View)(a a':Act):Prop where
 le:E.Le E'
 size:a'.tmps.size=a.tmps.size
 role:V'.role=V.role
 deaf:V'.deaf=V.deaf
def rM.trans{E E' bY:Env}{V V' aV:View}{a a' cD:Act}(h:rM E E' V V' a a')(k:rM E' bY V' aV a' cD):rM E bY V aV a cD:=⟨h.le.trans k.le,k.size.trans h.size,k.role.trans h.role,k.deaf.trans h.deaf⟩
def Kept.d{E E':Env}{V V':View}{a a':Act}(h:Kept E E' V V' a a'):rM E E' V V' a a':=⟨h.le,h.size,h.role,h.deaf⟩
abbrev S8:=an->AS->List (AV×SC)->Prop
def CL (lv:Bool)(P:Tl)(nt:Nat)(c:U_)(s:AS)(ds:List (AV×SC))(Φ:S8):Prop:=
 ∀(E:Env)(V:View)(a:Act)(Q:SJ),At E V s a nt->ym E ds a.defers->(∀ae e E' V' a' s' nU,rM E E' V V' a a'->At E' V' s' a' nt->ym E' nU a'.defers->qB E' ae e->Φ ae s' nU->Q e a' V')->WP lv P none c Q a V
def an.yd (next:AS->List (AV×SC)->Prop)(Φ:S8):an->AS->List (AV×SC)->Prop
 |.normal,s,ds=>next s ds
 |e,s,ds=>Φ e s ds
def ah3{nt id n:Nat}{ops:SK}{o:Vo}{c:Ys}{x:Ur}{ds:List (AV×SC)}{Φ:S8}(hn:ops.size=n+1)(ho:ops[n]?=some o)(hg:o.guard=none)(az:o.op=.defer c)(bi:c.callee=.value x)
  (dF:(ops.all λo=>o.dst.all (·<nt))=true)
  (h:iS lv P ops (ops.toList.take n) s (λs'=>ao (s'.ev x) λf=>ao (fG s' c.args.toList) λaJ=>(∃g first cZ,f=.fn (.func g) first cZ)/\Φ .normal (s'.put o.dst (.val undef)) ((f,aJ)::ds)) (λpv s'=>Φ (.panic pv) s' ds)):CL lv P nt (.region id ops false) s ds Φ:=by
 intro E V a Q aj hd hQ;refine wp_region ?_;have hr:T1 ops.size=Vd 0 n++[n]:=by
  have:=aa_ (s:=0) (m:=n) (n:=1);rw[WE,hn,<- this];simp
 rw[hr];have abN:∀o∈ops,∀d,o.dst=some d->d<nt:=λo ho d e=>by
  have:=(VM.1 dF) o ho;rw[e]at this;simpa using this
 refine CG _ _ _ (Jb (r:=none) (Φ:=λe s'=>match e with
  |.normal=>ao (s'.ev x) λf=>ao (fG s' c.args.toList) λaJ=>(∃g first cZ,f=.fn (.func g) first cZ)/\Φ .normal (s'.put o.dst (.val undef)) ((f,aJ)::ds)
  |e=>Φ e s' ds) abN rfl n 0 s (by omega) (by simpa using h) E V a _ aj λae e E' V' a' s' hk aX he hΦ=> ?_)
 cases ae<;>cases e<;>first
  |exact he.elim
  |exact hQ _ _ E' V' a' s' ds hk.d aX (by rw[hk.defers];exact hd.mono hk.le) he hΦ
  |skip
 obtain⟨f,h1,hA⟩:=ao.out hΦ;obtain⟨aJ,h2,⟨g,first,cZ,rfl⟩,hB⟩:=hA.out;simp only[Ex.then,dD,ho];rw[if_pos (by unfold Up;rw[hg])];refine .inl ⟨.inl rfl,?_⟩;unfold execOp;rw[az];dsimp only;unfold resolve;rw[bi];dsimp only;have bI:=au.ev aX.tok h1;generalize cq:a'.eval x=cv at bI;cases bI with
 |fn ep ft q1 q2=>
  rename_i fa ca;unfold Wi;refine aA (ay (ay ?_));refine⟨rfl,?_⟩;have gk:o∈ops:=X6 ho;have e:c.args.map a'.eval=(c.args.toList.map a'.eval).toArray:=by apply WT;simp
  refine hQ .normal .normal E' V' _ (s'.put o.dst (.val undef)) ((.fn (.func g) first cZ,aJ)::ds) ⟨hk.le,(eF _ _ _).trans hk.size,hk.role,hk.deaf⟩ ⟨by rw[fK];exact aX.bB,aX.tok.iG (a:={a' with defers:=⟨.fn (.func g) ca,fa++c.args.map a'.eval⟩::a'.defers}) (λd e=>by rw[aX.size];exact abN o gk d e) (.val _),(eF _ _ _).trans aX.size⟩ ?_ trivial hB;rw[put_defers];refine⟨⟨g,first,cZ,fa,ca,_,rfl,rfl,⟨ep,q1⟩,⟨ft,q2⟩,?_⟩,by rw[hk.defers];exact hd.mono hk.le⟩;rw[e];exact A2 aX.tok h2
def RB{nt id n:Nat}{ops:SK}{o:Vo}{c:Ys}{x:Ur}{ds:List (AV×SC)}{Φ:S8}(hn:ops.size=n+1)(ho:ops[n]?=some o)(hg:o.guard=none)(bf:o.dst=none)(az:o.op=.defer c)(bi:c.callee=.value x)
  (dF:(ops.all λo=>o.dst.all (·<nt))=true)
  (h:iS lv P ops (ops.toList.take n) s (λs'=>ao (s'.ev x) λf=>ao (fG s' c.args.toList) λaJ=>(∃g first cZ,f=.fn (.func g) first cZ)/\Φ .normal s' ((f,aJ)::ds)) (λpv s'=>Φ (.panic pv) s' ds)):CL lv P nt (.region id ops false) s ds Φ:=by
 refine ah3 hn ho hg az bi dF ?_;rw[bf];exact h
end
section
variable {lv:Bool}{P:Tl}
def aes{rs:SW}{fn:ZD}{n nt:Nat}{k kp:SF}{E E':Env}{V V':View}{s':AS}{a':Act}(hr:fn.results=rs.toArray)(aj:At E' V' s' a' nt)(hle:E.Le E')(hn:E.n=n)(cy:V'.role=V.role)(fz:V'.deaf=V.deaf)(hΦ:ao (iH P s' rs) λl=>cz n s'.H (jq l) k):
  ∃v,aU P V' (results fn a'.tmps) (λx aV=>x=v/\aV=V') (λ_ _=>False)/\iA E V k kp (.ret v) V':=by
 obtain⟨l,h1,h2⟩:=hΦ.out;have gV:∃v,au E' (jq l) v/\aU P V' (results fn a'.tmps) (λx aV=>x=v/\aV=V') (λ_ _=>False):=by
  obtain⟨vs,hl,mj,zw⟩:=Js aj rs l h1;refine⟨if h:vs.length=1 then vs[0]else .tuple vs.toArray,?_,?_⟩
  ·match l,vs,hl,mj with
   |[x],[v],_,mj=>exact mj 0 x rfl
   |[],[],_,mj=>exact .aL rfl (by simp)
   |x::y::l,v::w::vs,hl,mj=>exact .aL (by simpa using hl) (λi z hz=>by simpa[Ti,Tf]using mj i z hz)
  ·unfold results;rw[hr,Y3];refine aA ?_;refine aA (zw ?_);refine ay (ay ⟨?_,rfl⟩);simp
 obtain⟨v,bx,rj⟩:=gV;obtain⟨b,bY,H',q1,q2,q3,q4⟩:=yN h2 aj.bB bx hle hn;exact⟨v,rj,b,bY,H',q1,cy,fz,q2,q3,q4⟩
def AB (lv:Bool)(P:Tl)(rs:SW)(n:Nat)(k kp:SF):an->AS->List (AV×SC)->Prop
 |.normal,s,[]|.ret,s,[]=>ao (iH P s rs) λl=>cz n s.H (jq l) k
 |.panic pv,s,[]=>cz n s.H pv kp
 |.normal,s,[c]|.ret,s,[c]=>rJ lv P c s.H none (λH'=>ao (iH P ⟨s.T,H'⟩ rs) λl=>cz n H' (jq l) k) (λ_=>False)
 |.panic pv,s,[c]=>rJ lv P c s.H (some pv) (λH'=>ao (iH P ⟨s.T,H'⟩ rs) λl=>cz n H' (jq l) k) (λH'=>cz n H' pv kp)
 |_,_,_=>False
def Ax.mono{g:UW}{args:SG}{md:Wo}{V:View}{R R':Wo->View->Prop}(h:Ax lv P g args md V R)(hr:∀m V,R m V->R' m V):Ax lv P g args md V R':=λmain J C fr cs hm hR=>h main J C fr cs hm λoD V' r=>hR oD V' (hr _ _ r)
@[congr] theorem av9 {nt : Nat} {c : U_} {s s' : AS} {ds nU : List (AV × SC)} {Φ : an -> AS -> List (AV × SC) -> Prop} (h : s = s') (hd : ds = nU) : CL lv P nt c s ds Φ = CL lv P nt c s' nU Φ := by rw[h, hd]
def auA(K:AS->List (AV×SC)->Prop)(Φ:S8)(s:AS)(ds:List (AV×SC)):an.yd K Φ .normal s ds=K s ds:=by rw[an.yd]
def auC(K:AS->List (AV×SC)->Prop)(Φ:S8)(s:AS)(ds:List (AV×SC)):an.yd K Φ .ret s ds=Φ .ret s ds:=by rw[an.yd];simp
def auB(K:AS->List (AV×SC)->Prop)(Φ:S8)(a:AV)(s:AS)(ds:List (AV×SC)):an.yd K Φ (.panic a) s ds=Φ (.panic a) s ds:=by rw[an.yd];simp
@[congr] theorem awV {K : AS -> List (AV × SC) -> Prop} {Φ : an -> AS -> List (AV × SC) -> Prop} {e e' : an} {s s' : AS} {ds nU : List (AV × SC)} (he : e = e') (h : s = s') (hd : ds = nU) : an.yd K Φ e s ds = an.yd K Φ e' s' nU := by rw[he, h, hd]
@[congr] theorem awm {rs : List ac'} {n : Nat} {k kp : AV -> SA -> Prop} {e e' : an} {s s' : AS} {ds nU : List (AV × SC)} (he : e = e') (h : s = s') (hd : ds = nU) : AB lv P rs n k kp e s ds = AB lv P rs n k kp e' s' nU := by rw[he, h, hd]
def aly(rs:SW)(n:Nat)(k kp:SF)(s:AS):AB lv P rs n k kp .ret s []=ao (iH P s rs) λl=>cz n s.H (jq l) k:=by rw[AB]
def alx(rs:SW)(n:Nat)(k kp:SF)(s:AS)(pv:AV):AB lv P rs n k kp (.panic pv) s []=cz n s.H pv kp:=by rw[AB]
attribute [seval] auA auC auB aly alx
end
section
variable {P:Tl}
def afo{ι:Type}{body:ι->PUnit->Sem (ForInStep PUnit)}:∀(l:List ι),(∀i∈l,cL P (body i ⟨⟩) (.yield ⟨⟩))->cL P (forIn l ⟨⟩ body) ⟨⟩
 |[],_=>by simpa using i_ PUnit.unit
 |i::l,h=>by
  rw[X4];exact lU (h i (UH ..)) (afo l λj hj=>h j (Uj _ hj))
def auj{t:TypeId}{k0 k:U3}{d:Nat}{b:Bool}{x:Int}(h:P.underlying t=some (.int k0)):cL P (Wr b (d+1) t (.int k x)) ():=by
 rw[Wr];exact Am h (i_ _)
def afn{t e:TypeId}{k0 k:U3}{n d:Nat}{i:Xp}{b:Bool}{xs:SD}(ht:P.underlying t=some (.array n e))(he:P.underlying e=some (.int k0))(hi:P.info? e=some i)(hs:i.size=1)(hx:xs.length=n):
  cL P (Wr b (d+2) t (.agg (xs.map (Th k)).toArray)) ():=by
 rw[Wr];refine Am ht ?_;dsimp only;simp only[Xy,Yw];refine lU (a:=⟨⟩) ?_ (i_ _);refine afo _ λj hj=> ?_;have hn:(n-0+1-1)/1=n:=by simp
 have mI:j<n:=by rw[hn]at hj;simp[Y2]at hj;omega
 have gx:xs[j]?=some (xs[j]'(by omega)):=Tw _;refine Ql hi ?_;rw[hs,YE];refine F0 he rfl (v:=.int k (xs[j]'(by omega))) (by simp[gx]) ?_;exact lU (auj he) (i_ _)
def dS (x:SD×Nat):MapEntry:={key:=.agg (x.1.map (Th .i64)).toArray,val:=.bool true,born:=x.2}
def qO (x:SD):List (SD×Nat)->Nat->Option (Nat×Uf)
 |[],_=>none
 |y::ts,i=>if x==y.1 then some (i,.bool true)else qO x ts (i+1)
abbrev TF:=List (SD×Nat)
def afq{t e:TypeId}{k0:U3}{n:Nat}{i:Xp}{x:SD}(ht:P.underlying t=some (.array n e))(he:P.underlying e=some (.int k0))(hi:P.info? e=some i)(hs:i.size=1)(hx:x.length=n):∀(ts:TF)(j:Nat),(∀y∈ts,y.1.length=n)->
  cL P (YG t (.agg (x.map (Th .i64)).toArray) (ts.map dS) j) (qO x ts j)
 |[],j,_=>by rw[List.map_nil,YG,qO];exact i_ _
 |y::ts,j,h=>by
  rw[Wd,YG,qO];refine lU (afp ht he hi hs hx (h y (UH ..))) ?_;by_cases xQ:(x==y.1)=true
  ·rw[if_pos xQ,if_pos xQ];exact i_ _
  ·rw[if_neg xQ,if_neg xQ];exact afq ht he hi hs hx ts (j+1) λz hz=>h z (Uj _ hz)
def afr{t e:TypeId}{k0:U3}{n:Nat}{i:Xp}{x:SD}(ht:P.underlying t=some (.array n e))(he:P.underlying e=some (.int k0))(hi:P.info? e=some i)(hs:i.size=1)(hx:x.length=n){ts:TF}(h:∀y∈ts,y.1.length=n):
  cL P (W6 t (.agg (x.map (Th .i64)).toArray) (ts.map dS)) (qO x ts 0):=by
 unfold W6;refine Am ht ?_;cases ts with
 |nil=>exact i_ _
 |cons y ts=>
  have e1:Instr.findNow (.array n e) (.agg (x.map (Th .i64)).toArray) ((y::ts).map dS) 0=none:=rfl;rw[e1];exact afq ht he hi hs hx (y::ts) 0 h
def aaU{x:SD}:∀{ts:TF}{j i:Nat}{v:Uf},qO x ts j=some (i,v)->∃b,j<=i/\ts[i-j]?=some (x,b)/\v=.bool true
 |y::ts,j,i,v,h=>by
  rw[qO]at h;split at h
  ·rename_i xQ;cases h;obtain⟨y1,b⟩:=y;have:x=y1:=(by simpa using xQ);subst this;exact⟨b,Ts _,by simp,rfl⟩
  ·obtain⟨b,h1,h2,h3⟩:=aaU h;refine⟨b,by omega,?_,h3⟩;have:i-j=(i-(j+1))+1:=(by omega);rw[this,VP];exact h2
def aaT{x:SD}:∀{ts:TF}{j:Nat},qO x ts j=none->∀y∈ts,y.1≠x
 |y::ts,j,h,z,hz=>by
  rw[qO]at h;split at h
  ·cases h
  ·rename_i xQ;rcases Tm.1 hz with rfl|hz
   ·intro e;exact xQ (by simp[e])
   ·exact aaT h z hz
end
def asU(xs:SD):XC 10000 (.agg (xs.map (Th .i64)).toArray) (.agg (xs.map (Th .i64)).toArray)=true:=by
 show XC (9999+1) _ _=true;rw[XC];simp only[beq_self_eq_true,Vt,UB]
 rintro⟨a,b⟩ h
 have:a=b/\a∈xs.map (Th .i64):=by
  have key:∀l:TE,(a,b)∈l.zip l->a=b/\a∈l:=by
   intro l;induction l with
   |nil=>intro h;cases h
   |cons x l ih=>
    intro h;rw[List.zip_cons_cons]at h;rcases Tm.1 h with h|h
    ·cases h;exact⟨rfl,UH ..⟩
    ·exact⟨(ih h).1,Uj _ (ih h).2⟩
  exact key _ h
 obtain⟨rfl,hm⟩:=this;obtain⟨x,_,rfl⟩:=Uo.1 hm;simp[XC]
def aej(ts:TF)(ck:Nat)(x:SD):x9 (ts.map dS).toArray ck (.agg (x.map (Th .i64)).toArray) (.bool true) none=.map ((ts++[(x,ck)]).map dS).toArray (ck+1):=by
 simp[x9,dS]
def arz{ts:TF}{ck i b:Nat}{x:SD}{v:Uf}(h:ts[i]?=some (x,b)):x9 (ts.map dS).toArray ck (.agg (x.map (Th .i64)).toArray) (.bool true) (some (i,v))=.map (ts.map dS).toArray ck:=by
 simp only[x9];congr 1;apply Array.ext_getElem?;intro j;rw[Xn];by_cases hj:i=j
 ·subst hj;rw[if_pos rfl];simp[h,dS]
 ·rw[if_neg hj]
def aqI(xs:SD):AV.of (.agg (xs.map (Th .i64)).toArray)=.agg (xs.map iv):=by
 simp only[AV.of,XN];congr 1
def KP(ts:TF)(ck:Nat)(h:∀y∈ts,y.2<ck):((ts.map dS).toArray.all (λe=>decide (e.born>=ck))=false\/(ts.map dS).toArray.isEmpty=true):=by
 cases ts with
 |nil=>right;rfl
 |cons y ts=>
  left;have:=h y (UH ..);simp[dS];omega
def B8{α β:Type}(f:α->β):∀{l:List α},(l.map f).Nodup->l.Nodup
 |[],_=>XM
 |x::l,h=>by
  rw[Wd,Xe]at h;exact Xe.2 ⟨λhm=>h.1 (Uo.2 ⟨x,hm,rfl⟩),B8 f h.2⟩
def P2{ts vs:TF}(hv:(vs.map (·.2)).Nodup)(ht:(ts.map (·.2)).Nodup)(mh:∀y∈vs,y∈ts)(eT:∀y∈ts,y.2∈vs.map (·.2)):vs.Perm ts:=by
 have v8:vs.Nodup:=B8 _ hv;have mN:ts.Nodup:=B8 _ ht;refine(List.perm_ext_iff_of_nodup v8 mN).2 λy=>⟨mh y,λhy=> ?_⟩;obtain⟨z,hz,e⟩:=Uo.1 (eT y hy);have Od:=mh z hz;have:∀(l:TF),(l.map (·.2)).Nodup->z∈l->y∈l->z=y:=by
  intro l;induction l with
  |nil=>intro _ h;cases h
  |cons x l ih=>
   intro hn h1 h2;rw[Wd,Xe]at hn;rcases Tm.1 h1 with e1|Ma
   ·rcases Tm.1 h2 with e2|A_
    ·rw[e1,e2]
    ·exact absurd (show x.2∈l.map (·.2)from Uo.2 ⟨y,A_,by rw[<- e1];exact e.symm⟩) hn.1
   ·rcases Tm.1 h2 with e2|A_
    ·exact absurd (show x.2∈l.map (·.2)from Uo.2 ⟨z,Ma,by rw[<- e2];exact e⟩) hn.1
    ·exact ih hn.2 Ma A_
 rw[<- this ts ht Od hy];exact hz
def LQ{y:SD×Nat}:∀{ts:TF},(ts.map (·.2)).Nodup->y∈ts->(ts.map dS).toArray.find? (λe=>e.born==y.2)=some (dS y):=by
 intro ts hn hy;rw[List.find?_toArray];induction ts with
 |nil=>cases hy
 |cons z ts ih=>
  rw[Wd,Xe]at hn;rw[Wd];by_cases h:z.2=y.2
  ·rw[List.find?_cons_of_pos (by simp[dS,h])];rcases Tm.1 hy with e|mP
   ·rw[e]
   ·exact absurd (show z.2∈ts.map (·.2)from Uo.2 ⟨y,mP,h.symm⟩) hn.1
  ·rw[List.find?_cons_of_neg (by simp[dS,h])];rcases Tm.1 hy with e|mP
   ·exact absurd (by rw[e]) h
   ·exact ih hn.2 mP
def Pe(y:SD×Nat):AV.of (dS y).key=.agg (y.1.map iv):=aqI y.1
section
variable {lv:Bool}{P:Tl}
def as0{l:Nat}{r:ax1}{V:View}(ho:V.own l=some (.loop r))(hs:r.state=.ready)(hc:V.role.chan≠some l):aU P V (do YH l;pure Next.skip) (λnx V'=>nx=.skip/\V'=V.upd l (.loop {r with state:=.busy})) (λ_ _=>False):=by
 unfold YH XJ;refine aA (aA (aA ?_));unfold getObj;refine oH ho rfl rfl hc (cN ?_);dsimp only;refine ay ?_;refine aA ?_;unfold setObj;refine Ae ho rfl rfl hc (cN ?_);rw[hs];exact ay (ay ⟨rfl,rfl⟩)
def as5{l:Nat}{r:ax1}{V:View}(qj:Option U_)(ho:V.own l=some (.loop r))(hc:V.role.chan≠some l):aU P V (X8 l qj) (λv V'=>v=.bool qj.isNone/\V'=V.upd l (.loop {r with state:=if qj.isNone then .ready else .done,pending:=qj})) (λ_ _=>False):=by
 unfold X8 XJ;refine aA (aA ?_);unfold getObj;refine oH ho rfl rfl hc (cN ?_);dsimp only;refine ay ?_;refine aA ?_;unfold setObj;refine Ae ho rfl rfl hc (cN ?_);exact ay ⟨rfl,rfl⟩
def as4{l:Nat}{r:ax1}{V:View}(ho:V.own l=some (.loop r))(hs:r.state≠ .busy)(hc:V.role.chan≠some l):aU P V (au' l) (λv V'=>v=r.pending/\V'=V.upd l (.loop {r with state:=.exhausted})) (λ_ _=>False):=by
 unfold au' XJ;refine aA (aA ?_);unfold getObj;refine oH ho rfl rfl hc (cN ?_);dsimp only;refine ay ?_;have:(r.state==ax0)=false:=by simpa using hs
 rw[if_neg (by rw[this];simp)];refine aA ?_;unfold setObj;refine Ae ho rfl rfl hc (cN ?_);exact ay ⟨rfl,rfl⟩
abbrev TD:=Array Tmp
def as7{fn:UW}{tmps:SG}{ps:TD}{bS body:U_}{V:View}:aU P V (XZ fn tmps ps bS body none) (λx V1=>∃d l,V.fresh d/\(V.upd d (.deferred (some []))).fresh l/\x=(l,[{target:=.collected d,args:=#[]}])/\
  V1=(V.upd d (.deferred (some []))).upd l (.loop {state:=.ready,pending:=none,fn,tmps,params:=ps,assign:=bS,body,defers:=d})) (λ_ _=>False):=by
 unfold XZ;dsimp only;refine aA ?_;unfold newObj;refine py λd hd=>cN ?_;refine aA (ay ?_);dsimp only;refine aA (py λl hl=>cN (ay ?_));exact⟨d,l,hd,hl,rfl,rfl⟩
def P7{d:Nat}{V:View}(ho:V.own d=some (.deferred (some [])))(hc:V.role.chan≠some d):aU P V (Z7 d) (λv V'=>v=[]/\V'=V.upd d (.deferred none)) (λ_ _=>False):=by
 unfold Z7;refine aA ?_;unfold getObj;refine oH ho rfl rfl hc (cN ?_);dsimp only;refine aA ?_;unfold setObj;refine Ae ho rfl rfl hc (cN ?_);exact ay ⟨rfl,rfl⟩
def ago (l:Nat)(R:SU):Ex->Act->View->Prop
 |.normal,_,V=>∃r,V.own l=some (.loop r)/\V.role.chan≠some l/\R (.ret (.bool true)) (V.upd l (.loop {r with state:=.ready,pending:=none}))
 |.ret,_,V=>∃r,V.own l=some (.loop r)/\V.role.chan≠some l/\R (.ret (.bool false)) (V.upd l (.loop {r with state:=.done,pending:=some .ret}))
 |.exit i,_,V=>∃r,V.own l=some (.loop r)/\V.role.chan≠some l/\R (.ret (.bool false)) (V.upd l (.loop {r with state:=.done,pending:=some (.exit i)}))
 |.goto i,_,V=>∃r,V.own l=some (.loop r)/\V.role.chan≠some l/\R (.ret (.bool false)) (V.upd l (.loop {r with state:=.done,pending:=some (.goto i)}))
 |.panic ch,a,V=>a.defers=[]/\R (.panic ch) V
def agm (lv:Bool)(P:Tl)(l:Nat)(body:U_)(R:SU):Ex->Act->View->Prop
 |.normal,a,V=>∃r,V.own l=some (.loop r)/\V.role.chan≠some l/\r.state=.ready/\WP lv P (some l) body (ago l R) a (V.upd l (.loop {r with state:=.busy}))
 |_,_,_=>False
def asE{l f:Nat}{tmps:SG}{bS body:U_}{V:View}{R:SU}(h:WP lv P (some l) bS (agm lv P l body R) {tmps,defers:=[]} V):nK lv P (Yc l f tmps bS body .normal) V R:=by
 intro main J C c cs h1 h2;let b:VR:={(default:VR)with fn:=f,kind:=.normal,roundOf:=some l};have an3:Yc l f tmps bS body .normal=on b {tmps,defers:=[]} [.code bS,.beginRound,.code body]:=rfl;rw[an3];have leave:∀(a:Act)(V':View)(r:ax1)(qj:Option U_)(todo:SZ),V'.own l=some (.loop r)->V'.role.chan≠some l->R (.ret (.bool qj.isNone)) (V'.upd l (.loop {r with state:=if qj.isNone then .ready else .done,pending:=qj}))->
   (∀w,stepG P main (G (on b a todo) (c::cs)) w=U8 (seen P b.fn ((X8 l qj).runT P w #[]).2) (match((X8 l qj).runT P w #[]).1 with
    |.ok v w=>doReturn P main (on b a todo) (c::cs) none v w
    | .halt _ w => .ended (.stuck "range over a function: no such loop" ((on b a todo).pos P)) w)) -> J V' (G (on b a todo) (c :: cs)) := by
  intro a V' r qj todo ho fy hR aP;refine C.step _ _ rfl λw fV=> ?_;obtain⟨es,w',aV,k1,k2,k3⟩:=(as5 (P:=P) qj ho fy).runs fV;rcases k3 with⟨v,k3,rfl,rfl⟩|⟨_,_,hx⟩
  ·refine⟨G (c.finish (.bool qj.isNone)) cs,w',seen P b.fn es,_,?_,k1.seen P b.fn,h1 _ _ hR⟩;rw[aP w];simp[UF,k3,k2,doReturn,U8,on,b,G]
  ·exact hx.elim
 refine h main J C b [.beginRound,.code body] (c::cs) (by show Z9≠Wl;decide) rfl λe a' V' q=> ?_;cases e with
 |normal=>
  obtain⟨r,ho,fy,hs,hw⟩:=q;refine C.step _ _ rfl λw fV=> ?_;obtain⟨es,w',aV,k1,k2,k3⟩:=(as0 (P:=P) ho hs fy).runs fV;rcases k3 with⟨nx,k3,rfl,rfl⟩|⟨_,_,hx⟩
  ·refine⟨G (on b a' [.code body]) (c::cs),w',seen P b.fn es,_,?_,k1.seen P b.fn,?_⟩
   ·have:stepG P main (G (on b a' [.beginRound,.code body]) (c::cs)) w=stepG.apply P true (on b a' [.beginRound,.code body]) (c::cs) none (do YH l;pure Next.skip) w:=by
     simp[G,stepG,Vg,on,b]
    rw[this];have ki:((on b a' [.beginRound,.code body]).kind==Wl)=false:=(by simp[on,b]);simp only[stepG.apply,UF,if_true,k3,k2,ki,U8];rfl
   ·refine hw main J C b [] (c::cs) (by show Z9≠Wl;decide) rfl λe cD aV q=> ?_;cases e with
    |normal=>
     obtain⟨r',bt,n9,hR⟩:=q;refine leave cD aV r' none [] bt n9 hR λw=> ?_;simp[G,stepG,Vg,on,b];rfl
    |ret=>
     obtain⟨r',bt,n9,hR⟩:=q;intro k;refine leave cD aV r' (some .ret) _ bt n9 hR λw=> ?_;simp[G,stepG,Vg,on,b];rfl
    |exit i=>
     obtain⟨r',bt,n9,hR⟩:=q;refine .inr ⟨rfl,λk2 cp=> ?_⟩;refine leave cD aV r' (some (.exit i)) _ bt n9 hR λw=> ?_;simp[G,stepG,Vg,on,b,cp];rfl
    |goto i=>
     obtain⟨r',bt,n9,hR⟩:=q;refine .inr ⟨rfl,λk2 cp=> ?_⟩;refine leave cD aV r' (some (.goto i)) _ bt n9 hR λw=> ?_;simp[G,stepG,Vg,on,b,cp];rfl
    |panic ch=>
     obtain⟨hd,hR⟩:=q;intro todo aoj;refine C.idle rfl (λw=> ?_) (h2 _ _ hR);have amt:aw7 P {on b cD todo with mode:=.panicking ch}=false:=by
      unfold aw7
      match todo,aoj with
      |.call .. ::_,h=>cases h
      |[],_=>split<;>simp_all[on]
      |x::k,_=>cases x<;>(split<;>simp_all[on,adF])
     have bI:({on b cD todo with mode:=.panicking ch}:VR).defers=[]:=hd;simp only[G,stepG,unwind,bI,amt];simp
  ·exact hx.elim
 |_=>exact q.elim
def mark (a:Act)(d:Nat):Act:={a with defers:={target:=.collected d,args:=#[]}::a.defers}
def yw (l:Nat)(Q:SJ)(a:Act):Out->View->Prop
 |.ret _,V=>∃r,V.own l=some (.loop r)/\V.role.chan≠some l/\r.state≠ .busy/\(match r.pending with
  |none=>Q .normal a (V.upd l (.loop {r with state:=.exhausted}))
  |some .ret=>Q .ret a (V.upd l (.loop {r with state:=.exhausted}))
  |some (.exit i)=>Q (.exit i) a (V.upd l (.loop {r with state:=.exhausted}))
  |some (.goto i)=>Q (.goto i) a (V.upd l (.loop {r with state:=.exhausted}))
  |_=>False)
 |.panic ch,V=>Q (.panic ch) a V
abbrev Gt (l d:Nat)(Q:Ex->Act->View->Prop)(a:Act):Out->View->Prop:=yw l Q (mark a d)
def aep{rr:SL}{f:Ur}{ps:TD}{bS body:U_}{Q:SJ}{a a1:Act}{V1:View}{l:Nat}{main:Bool}{J:SM}(C:Closed lv P main J){b:VR}{k:SZ}{cs:SX}(hb:b.kind≠ .early)(hr:b.roundOf=rr)(hL:∀e a' V',Q e a' V'->wQ J b k cs e a' V'){w w1:Uu}{es:SP}{V:View}
  (h:aU P V1 (do let dd<- Wi (a.eval f) #[.func (.yield l) #[] #[]];invoke dd.target dd.args) (λnx V'=>Nx lv P (yw l Q a1) nx V') (λv V'=>yw l Q a1 (.panic [{v,recovered:=false}]) V'))
  (s1:du V w V1 w1 (gn es)) (aP:stepG P main (G (on b a (.code (.rangeFunc f ps bS body)::k)) cs) w=U8 (seen P b.fn es) (stepG.apply P true (on b a1 (.inRangeFunc l::k)) cs none (do let dd<- Wi (a.eval f) #[.func (.yield l) #[] #[]];invoke dd.target dd.args) w1)):
  ∃g' w' es V',stepG P main (G (on b a (.code (.rangeFunc f ps bS body)::k)) cs) w=.go g' w' es/\du V w V' w' es/\J V' g':=by
 have fin:∀(v:Uf)(V':View),yw l Q a1 (.ret v) V'->J V' (G (on b a1 (.endRangeFunc l::k)) cs):=by
  intro v V' ⟨r,ho,fy,hs,hq⟩;refine C.step _ _ rfl λw fV=> ?_;obtain⟨es,w',aV,k1,k2,k3⟩:=(as4 (P:=P) ho hs fy).runs fV;rcases k3 with⟨x,k3,rfl,rfl⟩|⟨_,_,hx⟩
  ·refine⟨G (on b a1 ((r.pending.map Item.code).toList++k)) cs,w',seen P b.fn es,_,?_,k1.seen P b.fn,?_⟩
   ·simp[G,stepG,Vg,on,UF,k3,k2,U8]
   ·generalize r.pending=pe at hq⊢
    match pe,hq with
    |none,hq=>exact hL _ _ _ hq
    |some .ret,hq=>exact hL _ _ _ hq _
    |some (.exit i),hq=>exact acV C (hL _ _ _ hq)
    |some (.goto i),hq=>exact aoH C (hL _ _ _ hq)
  ·exact hx.elim
 obtain⟨nV,w2,V2,t1,t2,t3⟩:=h.runs s1.sat;have ki:((on b a1 (.inRangeFunc l::k)).kind==Wl)=false:=by simpa[on]using hb
 rw[aP];rcases t3 with⟨nx,t3,hU⟩|⟨v,t3,hU⟩
 ·cases nx with
  |value v=>exact⟨_,w2,seen P b.fn es++seen P b.fn nV,V2,by simp only[stepG.apply,UF,if_true,t3,t2,ki,U8];rfl,(s1.seen P _).trans (t1.seen P _),fin v _ hU⟩
  |skip=>exact⟨_,w2,seen P b.fn es++seen P b.fn nV,V2,by simp only[stepG.apply,UF,if_true,t3,t2,ki,U8];rfl,(s1.seen P _).trans (t1.seen P _),fin undef _ hU⟩
  |enter g args=>
   refine⟨G (Frame.enter P g args .normal) (on b a1 (.inRangeFunc l::k)::cs),w2,seen P b.fn es++seen P b.fn nV,V2,by simp only[stepG.apply,UF,if_true,t3,t2,ki,U8];rfl,(s1.seen P _).trans (t1.seen P _),?_⟩;refine Body.runs hU main J C _ cs (λv aV hR=> ?_) (λch aV hR=> ?_)
   ·exact fin v _ hR
   ·exact hL _ _ _ hR _ rfl
  |round l2 f2 auP as2 b2=>
   refine⟨G (Yc l2 f2 auP as2 b2 .normal) (on b a1 (.inRangeFunc l::k)::cs),w2,seen P b.fn es++seen P b.fn nV,V2,by simp only[stepG.apply,UF,if_true,t3,t2,ki,U8];rfl,(s1.seen P _).trans (t1.seen P _),?_⟩;refine hU main J C _ cs (λv aV hR=> ?_) (λch aV hR=> ?_)
   ·exact fin v _ hR
   ·exact hL _ _ _ hR _ rfl
  |_=>exact hU.elim
 ·exact⟨_,w2,seen P b.fn es++seen P b.fn nV,V2,by simp only[stepG.apply,UF,if_true,t3,t2,ki,U8];rfl,(s1.seen P _).trans (t1.seen P _),hL _ _ _ hU _ rfl⟩
def af6{f:Ur}{ps:TD}{bS body:U_}{Q:SJ}{a:Act}{V:View}
  (h:∀(fn d l:Nat),V.fresh d->(V.upd d (.deferred (some []))).fresh l->aU P ((V.upd d (.deferred (some []))).upd l (.loop {state:=.ready,pending:=none,fn,tmps:=a.tmps,params:=ps,assign:=bS,body,defers:=d}))
   (do let dd<- Wi (a.eval f) #[.func (.yield l) #[] #[]];invoke dd.target dd.args) (λnx V'=>Nx lv P (Gt l d Q a) nx V') (λv V'=>Gt l d Q a (.panic [{v,recovered:=false}]) V')):WP lv P none (.rangeFunc f ps bS body) Q a V:=by
 intro main J C b k cs hb hr hL;refine C.step _ _ rfl λw fV=> ?_;obtain⟨es,w1,V1,s1,s2,s3⟩:=(as7 (P:=P) (fn:=b.fn) (tmps:=a.tmps) (ps:=ps) (bS:=bS) (body:=body)).runs fV;rcases s3 with⟨x,s3,d,l,hd,hl,rfl,rfl⟩|⟨_,_,hx⟩
 ·refine aep C hb hr hL (h b.fn d l hd hl) s1 ?_;have cq:∀(todo:SZ)(x:Ur),(on b (mark a d) todo).eval x=a.eval x:=λtodo x=>by rw[Ja];cases x<;>rfl
  have e:=cq (.inRangeFunc l::k) f;have e2:=cq (.inRangeFunc l::k) (.const (.func (.yield l) #[] #[]));simp only[on,mark]at e e2;simp[G,stepG,Vg,on,UF,s3,s2,hr,mark,resolve];rw[hr]at e;rw[e];rfl
 ·exact hx.elim
def as8{fn:UW}{tmps:SG}{ps:TD}{bS body:U_}{V:View}{l0:Nat}{r0:ax1}(ho:V.own l0=some (.loop r0))(hc:V.role.chan≠some l0):aU P V (XZ fn tmps ps bS body (some l0)) (λx V1=>∃l,V.fresh l/\x=(l,[])/\
  V1=V.upd l (.loop {state:=.ready,pending:=none,fn,tmps,params:=ps,assign:=bS,body,defers:=r0.defers})) (λ_ _=>False):=by
 unfold XZ XJ;dsimp only;refine aA (aA ?_);unfold getObj;refine oH ho rfl rfl hc (cN ?_);dsimp only;refine ay (aA (ay ?_));dsimp only;refine aA ?_;unfold newObj;refine py λl hl=>cN (ay ?_);exact⟨l,hl,rfl,rfl⟩
def avp{f:Ur}{ps:TD}{bS body:U_}{Q:SJ}{a:Act}{V:View}{l0:Nat}{r0:ax1}(ho:V.own l0=some (.loop r0))(hc:V.role.chan≠some l0)
  (h:∀(fn l:Nat),V.fresh l->aU P (V.upd l (.loop {state:=.ready,pending:=none,fn,tmps:=a.tmps,params:=ps,assign:=bS,body,defers:=r0.defers}))
   (do let dd<- Wi (a.eval f) #[.func (.yield l) #[] #[]];invoke dd.target dd.args) (λnx V'=>Nx lv P (yw l Q a) nx V') (λv V'=>yw l Q a (.panic [{v,recovered:=false}]) V')):WP lv P (some l0) (.rangeFunc f ps bS body) Q a V:=by
 intro main J C b k cs hb hr hL;refine C.step _ _ rfl λw fV=> ?_;obtain⟨es,w1,V1,s1,s2,s3⟩:=(as8 (P:=P) (fn:=b.fn) (tmps:=a.tmps) (ps:=ps) (bS:=bS) (body:=body) ho hc).runs fV;rcases s3 with⟨x,s3,l,hl,rfl,rfl⟩|⟨_,_,hx⟩
 ·refine aep C hb hr hL (h b.fn l hl) s1 ?_;have e:=Ja b a (.inRangeFunc l::k) f;simp only[on]at e;simp[G,stepG,Vg,on,UF,s3,s2,hr,resolve];rw[hr]at e;rw[e];rfl
 ·exact hx.elim
def Conc.Ag{E:Env}{V:View}{H:SA}(hc:Conc E V H){id r fn nt df:Nat}{st:axk}{pe:Option U_}{T:SH}{ps:TD}{bS body:U_}(hk:H[id]?=some (.loop r st pe fn T nt ps bS body df)):
  E.blk id=r/\V.role.chan≠some r/\∃tmps,V.own r=some (.loop {state:=st,pending:=pe,fn,tmps,params:=ps,assign:=bS,body,defers:=E.blk df})/\tmps.size=nt/\cC E T tmps/\
   ∀st' x8,Conc E (V.upd r (.loop {state:=st',pending:=x8,fn,tmps,params:=ps,assign:=bS,body,defers:=E.blk df})) (H.set id (.loop r st' x8 fn T nt ps bS body df)):=by
 obtain⟨⟨tmps,p1,p2,p3⟩,p4,p5,p6⟩:=hc.obj id _ hk;have fy:=(hc.jH hk (b:=E.blk id) rfl).2;subst p6;refine⟨rfl,fy,tmps,p1,p2,p3,λst' x8=> ?_⟩;refine hc.ja id (.loop (E.blk id) st' x8 fn T nt ps bS body df) (Env.Le.refl E) hc.I (by simpa using hc.n) lQ rfl (λ_ _ _=>rfl) (λb z hb hz=>⟨?_,λ_=>rfl⟩) ⟨⟨tmps,by simp[View.upd],p2,p3⟩,p4,p5,rfl⟩ (λb h=> .inl ⟨_,hk,h⟩);have:b≠E.blk id:=λe=>hb _ hk (by rw[e];rfl);simpa[View.upd,this]using hz
def Conc.FT{E:Env}{V:View}{H:SA}(hc:Conc E V H){id:Nat}(x:aa)(hk:H[id]?=some x)(y:Obj){b:Nat}(hb:bT E id x=some b):Conc E (V.upd b y) (H.set id .gone):=by
 refine hc.ja id .gone (Env.Le.refl E) hc.I (by simpa using hc.n) lQ rfl (λ_ _ _=>rfl) (λb' z dO hz=>⟨?_,λ_=>rfl⟩) trivial (λb h=>by cases h);have:b'≠b:=λe=>dO _ hk (by rw[e];exact hb);simpa[View.upd,this]using hz
def tz:SE->SC->List (Nat×AV)->List (Nat×AV)
 |t::ts,a::aJ,T=>tz ts aJ ((t,a)::T)
 |_,_,T=>T
def agb{E:Env}{nt:Nat}:∀(ts:SE)(aJ:SC)(vs:TE)(T:SH)(tmps:SG),vs.length=aJ.length->(∀(i:Nat) a,aJ[i]?=some a->au E a (vs.getD i undef))->(∀t∈ts,t<nt)->tmps.size=nt->cC E T tmps->
  cC E (tz ts aJ T) ((ts.zip vs).foldl (λtmps (x:Nat×Uf)=>tmps.setIfInBounds x.1 x.2) tmps)/\((ts.zip vs).foldl (λtmps (x:Nat×Uf)=>tmps.setIfInBounds x.1 x.2) tmps).size=nt
 |[],aJ,vs,T,tmps,_,_,_,hs,hT=>by cases aJ<;>cases vs<;>exact⟨hT,hs⟩
 |t::ts,[],[],T,tmps,_,_,_,hs,hT=>⟨hT,hs⟩
 |t::ts,[],_::_,T,tmps,h,_,_,hs,hT=>by cases h
 |t::ts,_::_,[],T,tmps,h,_,_,hs,hT=>by cases h
 |t::ts,a::aJ,v::vs,T,tmps,hl,hd,ht,hs,hT=>by
  have h0:au E a v:=by simpa using hd 0 a rfl
  have h1:t<tmps.size:=by rw[hs];exact ht t (by simp)
  exact agb ts aJ vs ((t,a)::T) (tmps.setIfInBounds t v) (by simpa using hl) (λi x hx=>by simpa using hd (i+1) x (by simpa using hx)) (λx hx=>ht x (by simp[hx])) (by simpa using hs) (hT.put h1 h0)
def pH (id n:Nat)(k:SF)(st':axk)(x8:Option U_)(b:Bool)(s:AS):Prop:=∃r st pe fn T nt ps bS body df,s.H[id]?=some (.loop r st pe fn T nt ps bS body df)/\cz n (s.H.set id (.loop r st' x8 fn T nt ps bS body df)) (.val (.bool b)) k
def agn (id n:Nat)(k kp:SF):an->AS->Prop
 |.normal,s=>pH id n k .ready none true s
 |.ret,s=>pH id n k .done (some .ret) false s
 |.exit i,s=>pH id n k .done (some (.exit i)) false s
 |.goto i,s=>pH id n k .done (some (.goto i)) false s
 |.panic pv,s=>cz n s.H pv kp
def va (lv:Bool)(P:Tl)(l nt id n:Nat)(body:U_)(k kp:SF):an->AS->Prop
 |.normal,s=>∃pe fn T jI ps bS fN df,s.H[id]?=some (.loop l .ready pe fn T jI ps bS fN df)/\aS lv P (some l) nt body ⟨s.T,s.H.set id (.loop l .busy pe fn T jI ps bS fN df)⟩ (agn id n k kp)
 |_,_=>False
def w8{l id fn nt df:Nat}{pe:Option U_}{T:SH}{ps:TD}{bS body:U_}{H:SA}{args:SC}{k kp:SF}(cg:H[id]?=some (.loop l .ready pe fn T nt ps bS body df))(hlen:args.length=ps.size)(ou:ps.all (·<nt)=true)
  (h:bJ H->(∀a∈args,Lt H.length a)->aS lv P (some l) nt bS ⟨tz ps.toList args T,H⟩ (va lv P l nt id H.length body k kp)):ju lv P (.fn (.yield l) [] []) H args k kp:=by
 intro E V cv vs hc hd pY;cases hd with
 |fn ep ft h1 h2=>
  rename_i fa ca;have e1:fa=#[]:=by apply WT;simpa using ep
  subst e1;have hlt:∀a∈args,Lt H.length a:=λa ha=>by
   obtain⟨i,hi⟩:=qq ha;rw[<- hc.n];exact(pY.2 i a hi).lt
  obtain⟨hb,fy,tmps,ho,aZ,hT,_⟩:=hc.Ag cg;unfold Wi;refine aA (ay ?_);unfold invoke;dsimp only;unfold Instr.yield XJ;refine aA (aA ?_);unfold getObj;refine oH ho rfl rfl fy (cN ?_);dsimp only;refine ay ?_;have mj:(#[]++vs).size=ps.size:=by simp[pY.1,hlen]
  rw[if_neg (by simp[pY.1,hlen])];refine ay ?_;show nK lv P _ V (iA E V k kp);have hz:=agb (nt:=nt) ps.toList args vs.toList T tmps (by simpa using pY.1) (λi a e=>by
   have:=pY.2 i a e;simpa[Ti,Tf]using this) (λt ht=>by
    have:=(VM.1 ou) t (by simpa using ht);simpa using this) aZ hT
  have ajx:(ps.zip (#[]++vs)).foldl (λtmps (x:Nat×Uf)=>tmps.setIfInBounds x.1 x.2) tmps=(ps.toList.zip vs.toList).foldl (λtmps (x:Nat×Uf)=>tmps.setIfInBounds x.1 x.2) tmps:=by
   rw[<- Array.foldl_toList,Array.toList_zip];simp
  have ajy:Array.foldl (λtmps x=>match x with|(t,a)=>tmps.setIfInBounds t a) tmps (ps.zip (#[]++vs))=(ps.toList.zip vs.toList).foldl (λtmps (x:Nat×Uf)=>tmps.setIfInBounds x.1 x.2) tmps:=ajx;rw[ajy];refine asE ?_;refine h hc.aq hlt E V _ _ ⟨hc,hz.1,hz.2⟩ λae e E' V' a' s' hk aX he hΦ=> ?_;cases ae<;>cases e<;>first
   |exact he.elim
   |exact hΦ.elim
   |skip
  obtain⟨x8,gg,T',jI,gX,gH,fN,gI,am1,hw⟩:=hΦ;obtain⟨dO,n9,rG,bt,NW,ua,ux⟩:=aX.bB.Ag am1;refine⟨_,bt,n9,rfl,?_⟩;refine hw E' _ a' _ ⟨ux .busy x8,aX.tok,aX.size⟩ λae e bY aV cD dA cp dw Ek IB=> ?_;have fin:∀(st':axk)(Jl:Option U_)(b:Bool),(∃r st pe fn T nt ps bS body df,dA.H[id]?=some (.loop r st pe fn T nt ps bS body df)/\cz H.length (dA.H.set id (.loop r st' Jl fn T nt ps bS body df)) (.val (.bool b)) k)->
    ∃r,aV.own l=some (.loop r)/\aV.role.chan≠some l/\iA E V k kp (.ret (.bool b)) (aV.upd l (.loop {r with state:=st',pending:=Jl})):=by
   intro st' Jl b ⟨r,st,pe3,fn3,T3,nt3,PP,av5,awe,df3,am2,ui⟩;obtain⟨ze,amx,awZ,Nz,awG,hT3,aoa⟩:=dw.bB.Ag am2;have hlt:id<E.n:=(by rw[hc.n];exact(Tq.1 cg).1);have hle:E.Le bY:=hk.le.trans cp.le;have hr:r=l:=(by rw[<- ze,<- hb];exact hle.blk id hlt);subst hr;obtain⟨x,E4,H4,q1,q2,q3,q4⟩:=yN ui (aoa st' Jl) (.val _) hle hc.n;exact⟨_,Nz,amx,x,E4,H4,q1,cp.role.trans hk.role,cp.deaf.trans hk.deaf,q2,q3,q4⟩
  cases ae<;>cases e<;>first
   |exact Ek.elim
   |exact fin .ready none true IB
   |exact fin .done (some .ret) false IB
   |(have e:_=_:=Ek
     subst e;exact fin .done _ false IB)
   |skip
  obtain⟨v,amw,bx⟩:=Ek;subst amw;obtain⟨x,E4,H4,q1,q2,q3,q4⟩:=yN IB dw.bB bx (hk.le.trans cp.le) hc.n;refine⟨by rw[cp.defers,hk.defers],x,v,E4,H4,rfl,q1,cp.role.trans hk.role,cp.deaf.trans hk.deaf,q2,q3,q4⟩
def Marks (E:Env)(ms:SE)(l:S5):Prop:=l=ms.map (λi=>({target:=.collected (E.blk i),args:=#[]}:Yd))/\∀i∈ms,i<E.n
def Marks.mono{E E':Env}(h:E.Le E'){ms:SE}{l:S5}(k:Marks E ms l):Marks E' ms l:=
 ⟨by rw[k.1];exact WR λi hi=>by rw[h.blk i (k.2 i hi)],λi hi=>Uk (k.2 i hi) h.n⟩
abbrev SN:=an->AS->SE->Prop
def m9 (lv:Bool)(P:Tl)(nt:Nat)(c:U_)(s:AS)(ms:SE)(Φ:SN):Prop:=
 ∀(E:Env)(V:View)(a:Act)(Q:SJ),At E V s a nt->Marks E ms a.defers->(∀ae e E' V' a' s' cJ,rM E E' V V' a a'->At E' V' s' a' nt->Marks E' cJ a'.defers->qB E' ae e->Φ ae s' cJ->Q e a' V')->WP lv P none c Q a V
variable {s:AS}{ms:SE}{nt:Nat}
def KF{c:U_}{Φ:SN}(h:aS lv P none nt c s λe s'=>Φ e s' ms):m9 lv P nt c s ms Φ:=λE V a Q aj hd hQ=>
 h E V a Q aj λae e E' V' a' s' hk aX he hΦ=>hQ ae e E' V' a' s' ms hk.d aX (by rw[hk.defers];exact hd.mono hk.le) he hΦ
def an.tp (next:AS->SE->Prop)(Φ:SN):an->AS->SE->Prop
 |.normal,s,ms=>next s ms
 |e,s,ms=>Φ e s ms
def KG{x y:U_}{Φ:SN}(h:m9 lv P nt x s ms (an.tp (λs' cJ=>m9 lv P nt y s' cJ Φ) Φ)):m9 lv P nt (.seq x y) s ms Φ:=by
 intro E V a Q aj hd hQ;refine wp_seq (h E V a _ aj hd λae e E' V' a' s' cJ hk aX cH he hΦ=> ?_);cases ae<;>cases e<;>first
  |exact he.elim
  |exact hΦ E' V' a' Q aX cH λae e bY aV cD dA Fx aI dw Bs kF uB=>hQ ae e bY aV cD dA Fx (hk.trans aI) dw Bs kF uB
  |exact hQ _ _ E' V' a' s' cJ hk aX cH he hΦ
def nQ{x y:U_}{Φ:SN}(h:aS lv P none nt x s (an.then (λs'=>m9 lv P nt y s' ms Φ) λe s'=>Φ e s' ms)):m9 lv P nt (.seq x y) s ms Φ:=by
 refine KG (KF (h.mono λe s' hs=> ?_));cases e<;>exact hs
def tL (Φ:SN)(s:AS)(ms:SE):Option U_->Prop
 |none=>Φ .normal s ms
 |some .ret=>Φ .ret s ms
 |some (.exit i)=>Φ (.exit i) s ms
 |some (.goto i)=>Φ (.goto i) s ms
 |_=>False
def ah5{f:Ur}{ps:TD}{bS body:U_}{fv:AV}{Φ:SN}(hf:s.ev f=some fv)
  (h:∀l fn:Nat,ju lv P fv (s.H++[.obj (.deferred (some [])),.loop l .ready none fn s.T nt ps bS body s.H.length]) [.fn (.yield l) [] []]
   (λ_ H'=>∃st pe gg T' jI gX gH fN gI,H'[s.H.length+1]?=some (.loop l st pe gg T' jI gX gH fN gI)/\st≠ .busy/\tL Φ ⟨s.T,H'.set (s.H.length+1) .gone⟩ (s.H.length::ms) pe)
   (λpv H'=>Φ (.panic pv) ⟨s.T,H'⟩ (s.H.length::ms))):m9 lv P nt (.rangeFunc f ps bS body) s ms Φ:=by
 intro E V a Q aj hm hQ;refine af6 λfn d l hd hl=> ?_;have hc:=aj.bB;have dE:Conc (E.add d V.ai) (V.upd d (.deferred (some []))) (s.H++[.obj (.deferred (some []))]):=by
  refine hc.add hd _ ⟨?_,rfl,rfl,λo=> ?_⟩ (λb e=> ?_)
  ·rw[Env.dZ];simp[View.upd]
  ·rw[Env.dZ];exact hd.2 o
  ·simp only[bT,Env.dZ,Us]at e;exact e.symm
 have Eu:E.Le (E.add d V.ai):=E.ru d (λb o v h=>by rw[<- hc.I];exact h);have Ea:(E.add d V.ai).blk s.H.length=d:=by rw[<- hc.n];exact E.dZ d _
 let E1:=E.add d V.ai;let V1:=V.upd d (.deferred (some []));have p9:E1.n=s.H.length+1:=by rw[dE.n];simp
 have qX:E1.Le (E1.add l V1.ai):=E1.ru l (λb o v h=>by rw[<- dE.I];exact h);have bZ:Conc (E1.add l V1.ai) (V1.upd l (.loop {state:=.ready,pending:=none,fn,tmps:=a.tmps,params:=ps,assign:=bS,body,defers:=d})) ((s.H++[.obj (.deferred (some []))])++[.loop l .ready none fn s.T nt ps bS body s.H.length]):=by
  refine dE.add hl _ ⟨⟨a.tmps,?_,aj.size,(aj.tok.mono Eu).mono qX⟩,?_,λo=> ?_,?_⟩ (λb e=> ?_)
  ·have e:(E1.add l V1.ai).blk s.H.length=d:=(by rw[qX.blk s.H.length (by rw[p9];omega)];exact Ea);rw[e,Env.dZ];simp[View.upd]
  ·show s.H.length<E1.n+1;omega
  ·rw[Env.dZ];exact hl.2 o
  ·exact Env.dZ _ _ _
  ·simp only[bT,Env.dZ,Us]at e;exact e.symm
 have hle:E.Le (E1.add l V1.ai):=Eu.trans qX;have cT:(E1.add l V1.ai).blk (s.H.length+1)=l:=by rw[<- p9];exact E1.dZ l _
 have MF:(E1.add l V1.ai).blk s.H.length=d:=by rw[qX.blk s.H.length (by rw[p9];omega)];exact Ea
 rw[Te]at bZ;have sG:∀E',(E1.add l V1.ai).Le E'->Marks E' (s.H.length::ms) (mark a d).defers:=λE' hE=>by
  refine Marks.mono hE ⟨?_,λi hi=> ?_⟩
  ·have:=(hm.mono hle).1;simp only[mark,Wd,MF];rw[<- this]
  ·rcases Tm.1 hi with rfl|hi
   ·show _<E1.n+1;omega
   ·exact Uk (hm.2 i hi) hle.n
 have bI:=au.ev aj.tok hf;have Ed:=h l fn (E1.add l V1.ai) (V1.upd l (.loop {state:=.ready,pending:=none,fn,tmps:=a.tmps,params:=ps,assign:=bS,body,defers:=d})) (a.eval f) #[.func (.yield l) #[] #[]] bZ (bI.mono hle) ⟨rfl,λi x hx=>by
  match i,hx with
  |0,hx=>cases hx;exact .fn rfl rfl (by simp) (by simp)⟩
 have key:∀o V',iA (E1.add l V1.ai) (V1.upd l (.loop {state:=.ready,pending:=none,fn,tmps:=a.tmps,params:=ps,assign:=bS,body,defers:=d}))
   (λ_ H'=>∃st pe gg T' jI gX gH fN gI,H'[s.H.length+1]?=some (.loop l st pe gg T' jI gX gH fN gI)/\st≠ .busy/\tL Φ ⟨s.T,H'.set (s.H.length+1) .gone⟩ (s.H.length::ms) pe)
   (λpv H'=>Φ (.panic pv) ⟨s.T,H'⟩ (s.H.length::ms)) o V'->Gt l d Q a o V':=by
  intro o V' hr;cases o with
  |ret v=>
   obtain⟨av,E',H',hE,cy,fz,_,bw,st,pe,gg,T',jI,gX,gH,fN,gI,cg,aP,hp⟩:=hr;obtain⟨dO,n9,rG,bt,NW,ua,ux⟩:=bw.Ag cg;refine⟨_,bt,n9,aP,?_⟩;have hg:Conc E' (V'.upd l (.loop {state:=.exhausted,pending:=pe,fn:=gg,tmps:=rG,params:=gX,assign:=gH,body:=fN,defers:=E'.blk gI})) (H'.set (s.H.length+1) .gone):=bw.FT _ cg _ (by simp only[bT,dO]);have aX:At E' (V'.upd l (.loop {state:=.exhausted,pending:=pe,fn:=gg,tmps:=rG,params:=gX,assign:=gH,body:=fN,defers:=E'.blk gI})) ⟨s.T,H'.set (s.H.length+1) .gone⟩ (mark a d) nt:=⟨hg,aj.tok.mono (hle.trans hE),aj.size⟩;have eV:rM E E' V (V'.upd l (.loop {state:=.exhausted,pending:=pe,fn:=gg,tmps:=rG,params:=gX,assign:=gH,body:=fN,defers:=E'.blk gI})) a (mark a d):=⟨hle.trans hE,rfl,cy,fz⟩;dsimp only
   match pe,hp,aX,eV with
   |none,hp,aX,eV=>exact hQ .normal .normal E' _ _ _ _ eV aX (sG E' hE) trivial hp
   |some .ret,hp,aX,eV=>exact hQ .ret .ret E' _ _ _ _ eV aX (sG E' hE) trivial hp
   |some (.exit i),hp,aX,eV=>exact hQ (.exit i) (.exit i) E' _ _ _ _ eV aX (sG E' hE) rfl hp
   |some (.goto i),hp,aX,eV=>exact hQ (.goto i) (.goto i) E' _ _ _ _ eV aX (sG E' hE) rfl hp
  |panic ch=>
   obtain⟨pv,v,E',H',rfl,hE,cy,fz,bx,bw,hp⟩:=hr;exact hQ (.panic pv) (.panic _) E' V' (mark a d) ⟨s.T,H'⟩ _ ⟨hle.trans hE,rfl,cy,fz⟩ ⟨bw,aj.tok.mono (hle.trans hE),aj.size⟩ (sG E' hE) ⟨v,rfl,bx⟩ hp
 exact Ed.mono (λnx V' hn=>Nx.mono key hn) (λv V' hr=>key _ _ hr)
def u_ (Φ:SI)(s:AS):Option U_->Prop
 |none=>Φ .normal s
 |some .ret=>Φ .ret s
 |some (.exit i)=>Φ (.exit i) s
 |some (.goto i)=>Φ (.goto i) s
 |_=>False
def ahV{f:Ur}{ps:TD}{bS body:U_}{fv:AV}{Φ:SI}{l0 ID L3 Pb df:Nat}{Qg:axk}{Pu:Option U_}{T0:SH}{PO:TD}{KA KO:U_}(hf:s.ev f=some fv)(h0:s.H[ID]?=some (.loop l0 Qg Pu L3 T0 Pb PO KA KO df))
  (h:∀l fn:Nat,ju lv P fv (s.H++[.loop l .ready none fn s.T nt ps bS body df]) [.fn (.yield l) [] []]
   (λ_ H'=>∃st pe gg T' jI gX gH fN gI,H'[s.H.length]?=some (.loop l st pe gg T' jI gX gH fN gI)/\st≠ .busy/\u_ Φ ⟨s.T,H'.set s.H.length .gone⟩ pe)
   (λpv H'=>Φ (.panic pv) ⟨s.T,H'⟩)):aS lv P (some l0) nt (.rangeFunc f ps bS body) s Φ:=by
 intro E V a Q aj hQ;have hc:=aj.bB;obtain⟨qU,amv,awY,ho0,NX,Mv,_⟩:=hc.Ag h0;obtain⟨_,bI,_⟩:=hc.obj ID _ h0;refine avp ho0 amv λfn l hl=> ?_;have hle:E.Le (E.add l V.ai):=E.ru l (λb o v h=>by rw[<- hc.I];exact h);have cT:(E.add l V.ai).blk s.H.length=l:=by rw[<- hc.n];exact E.dZ l _
 have bZ:Conc (E.add l V.ai) (V.upd l (.loop {state:=.ready,pending:=none,fn,tmps:=a.tmps,params:=ps,assign:=bS,body,defers:=E.blk df})) (s.H++[.loop l .ready none fn s.T nt ps bS body df]):=by
  refine hc.add hl _ ⟨⟨a.tmps,?_,aj.size,aj.tok.mono hle⟩,?_,λo=> ?_,?_⟩ (λb e=> ?_)
  ·rw[Env.dZ,hle.blk df bI];simp[View.upd]
  ·show df<E.n+1;omega
  ·rw[Env.dZ];exact hl.2 o
  ·exact Env.dZ _ _ _
  ·simp only[bT,Env.dZ,Us]at e;exact e.symm
 have amO:=au.ev aj.tok hf;have Ed:=h l fn (E.add l V.ai) (V.upd l (.loop {state:=.ready,pending:=none,fn,tmps:=a.tmps,params:=ps,assign:=bS,body,defers:=E.blk df})) (a.eval f) #[.func (.yield l) #[] #[]] bZ (amO.mono hle) ⟨rfl,λi x hx=>by
  match i,hx with
  |0,hx=>cases hx;exact .fn rfl rfl (by simp) (by simp)⟩
 have key:∀o V',iA (E.add l V.ai) (V.upd l (.loop {state:=.ready,pending:=none,fn,tmps:=a.tmps,params:=ps,assign:=bS,body,defers:=E.blk df}))
   (λ_ H'=>∃st pe gg T' jI gX gH fN gI,H'[s.H.length]?=some (.loop l st pe gg T' jI gX gH fN gI)/\st≠ .busy/\u_ Φ ⟨s.T,H'.set s.H.length .gone⟩ pe)
   (λpv H'=>Φ (.panic pv) ⟨s.T,H'⟩) o V'->yw l Q a o V':=by
  intro o V' hr;cases o with
  |ret v=>
   obtain⟨av,E',H',hE,cy,fz,_,bw,st,pe,gg,T',jI,gX,gH,fN,gI,cg,aP,hp⟩:=hr;obtain⟨dO,n9,rG,bt,NW,ua,ux⟩:=bw.Ag cg;refine⟨_,bt,n9,aP,?_⟩;have hg:Conc E' (V'.upd l (.loop {state:=.exhausted,pending:=pe,fn:=gg,tmps:=rG,params:=gX,assign:=gH,body:=fN,defers:=E'.blk gI})) (H'.set s.H.length .gone):=bw.FT _ cg _ (by simp only[bT,dO]);have aX:At E' (V'.upd l (.loop {state:=.exhausted,pending:=pe,fn:=gg,tmps:=rG,params:=gX,assign:=gH,body:=fN,defers:=E'.blk gI})) ⟨s.T,H'.set s.H.length .gone⟩ a nt:=⟨hg,aj.tok.mono (hle.trans hE),aj.size⟩;have eV:Kept E E' V (V'.upd l (.loop {state:=.exhausted,pending:=pe,fn:=gg,tmps:=rG,params:=gX,assign:=gH,body:=fN,defers:=E'.blk gI})) a a:=⟨hle.trans hE,rfl,rfl,cy,fz⟩;dsimp only
   match pe,hp,aX,eV with
   |none,hp,aX,eV=>exact hQ .normal .normal E' _ _ _ eV aX trivial hp
   |some .ret,hp,aX,eV=>exact hQ .ret .ret E' _ _ _ eV aX trivial hp
   |some (.exit i),hp,aX,eV=>exact hQ (.exit i) (.exit i) E' _ _ _ eV aX rfl hp
   |some (.goto i),hp,aX,eV=>exact hQ (.goto i) (.goto i) E' _ _ _ eV aX rfl hp
  |panic ch=>
   obtain⟨pv,v,E',H',rfl,hE,cy,fz,bx,bw,hp⟩:=hr;exact hQ (.panic pv) (.panic _) E' V' a ⟨s.T,H'⟩ ⟨hle.trans hE,rfl,rfl,cy,fz⟩ ⟨bw,aj.tok.mono (hle.trans hE),aj.size⟩ ⟨v,rfl,bx⟩ hp
 exact Ed.mono (λnx V' hn=>Nx.mono key hn) (λv V' hr=>key _ _ hr)
def yA (P:Tl)(fn:ZD)(R:SU):List Yd->Wo->Array Uf->View->Prop
 |[],.returning,tmps,V=>∃v,aU P V (results fn tmps) (λx V'=>x=v/\V'=V) (λ_ _=>False)/\R (.ret v) V
 |[],.panicking ch,_,V=>R (.panic ch) V
 |d::ds,md,tmps,V=>(md matches .run)=false/\∃b,d={target:=.collected b,args:=#[]}/\V.own b=some (.deferred (some []))/\V.role.chan≠some b/\yA P fn R ds md tmps (V.upd b (.deferred none))
 |[],.run,_,_=>False
def JO{f:UW}{fn:ZD}{kd:Yh}{R:SU}(hf:P.funcs[f]?=some fn){main:Bool}{J:SM}(C:Closed lv P main J){cs:SX}(hR:∀o V' DC,R o V'->Leaves P DC f kd o V'->J V' (G DC cs)):∀(ds:S5)(md:Wo)(V:View)(fr:VR),fr.fn=f->fr.kind=kd->fr.mode=md->fr.defers=ds->yA P fn R ds md fr.tmps V->J V (G fr cs)
 |[],.returning,V,fr,h1,h2,h3,h4,h=>by
  obtain⟨v,hs,hr⟩:=h;exact hR _ _ _ hr ⟨h1,h4,h2,fn,hf,h3,hs⟩
 |[],.panicking ch,V,fr,h1,h2,h3,h4,h=>hR _ _ _ h ⟨h1,h4,h2,fn,hf,h3⟩
 |[],.run,_,_,_,_,_,_,h=>h.elim
 |d::ds,md,V,fr,h1,h2,h3,h4,h=>by
  obtain⟨hm,b,rfl,ho,fy,hu⟩:=h;refine C.step _ _ rfl λw hw=> ?_;obtain⟨es,w',V',k1,k2,k3⟩:=(P7 (P:=P) ho fy).runs hw;rcases k3 with⟨x,k3,rfl,rfl⟩|⟨_,_,hx⟩
  ·refine⟨G {fr with defers:=ds} cs,w',seen P fr.fn es,_,?_,k1.seen P fr.fn,?_⟩
   ·have e:∀main,stepG P main (G fr cs) w=unwind P main fr cs none w:=λmain=>by
     cases md with
     |run=>cases hm
     |returning=>simp[G,stepG,h3]
     |panicking ch=>simp[G,stepG,h3]
    rw[e];simp only[unwind,h4];simp[UF,k3,k2,U8,G]
   ·exact JO hf C hR ds md _ {fr with defers:=ds} h1 h2 h3 rfl hu
  ·exact hx.elim
def agh (P:Tl)(fn:ZD)(R:SU):Ex->Act->View->Prop
 |.normal,a,V|.ret,a,V=>yA P fn R a.defers .returning a.tmps V
 |.panic ch,a,V=>yA P fn R a.defers (.panicking ch) a.tmps V
 |_,_,_=>False
def aiC{f:UW}{fn:ZD}{c:U_}{args:SG}{kd:Yh}{V:View}{R:SU}(hk:kd≠ .early)(hf:P.funcs[f]?=some fn)(hb:fn.body=some c)
  (h:WP lv P none c (agh P fn R) {tmps:=args++UT (fn.ntmps-args.size) undef,defers:=[]} V):Body lv P f args kd V R:=by
 intro main J C cs hR;let b:VR:={(default:VR)with fn:=f,kind:=kd,roundOf:=none};have vN:Frame.enter P f args kd=on b {tmps:=args++UT (fn.ntmps-args.size) undef,defers:=[]} [.code c]:=by
  simp[Frame.enter,on,hf,hb,b]
 rw[vN];refine h main J C b [] cs hk rfl λe a' V' q=> ?_;cases e with
 |normal=>exact C.idle rfl (λw=>FO rfl) (JO hf C hR _ _ _ _ rfl rfl rfl rfl q)
 |ret=>intro k;exact C.idle rfl (λw=>FQ rfl) (JO hf C hR _ _ _ _ rfl rfl rfl rfl q)
 |panic ch=>intro todo _;exact JO hf C hR _ _ _ _ rfl rfl rfl rfl q
 |exit id=>exact q.elim
 |goto l=>exact q.elim
def jh:SE->SA->Option (SA)
 |[],H=>some H
 |i::ms,H=>match H[i]?with
  |some (.obj (.deferred (some [])))=>jh ms (H.set i .gone)
  |_=>none
def tH (P:Tl)(rs:SW)(n:Nat)(k kp:SF):an->AS->SE->Prop
 |.normal,s,ms|.ret,s,ms=>ao (jh ms s.H) λH'=>ao (iH P ⟨s.T,H'⟩ rs) λl=>cz n H' (jq l) k
 |.panic pv,s,ms=>ao (jh ms s.H) λH'=>cz n H' pv kp
 |_,_,_=>False
def Qx{fn:ZD}{R:SU}{tmps:SG}{md:Wo}(hm:(md matches .run)=false):∀(ms:SE)(H H':SA)(E:Env)(V:View)(l:S5),jh ms H=some H'->Conc E V H->Marks E ms l->(∀V',V'.role=V.role->V'.deaf=V.deaf->Conc E V' H'->yA P fn R [] md tmps V')->yA P fn R l md tmps V
 |[],H,H',E,V,l,hg,hc,mK,hk=>by
  cases hg;have:l=[]:=mK.1;subst this;exact hk V rfl rfl hc
 |i::ms,H,H',E,V,l,hg,hc,mK,hk=>by
  simp only[jh]at hg;split at hg
  ·rename_i hi;obtain⟨e,hlt⟩:=mK;simp only[Wd]at e;subst e;obtain⟨p1,p2,p3,p4⟩:=hc.obj i _ hi;exact⟨hm,_,rfl,p1,(hc.jH hi rfl).2,Qx hm ms _ H' E _ _ hg (hc.FT _ hi _ rfl) ⟨rfl,λj hj=>hlt j (by simp[hj])⟩ λV' h1 h2 h3=>hk V' h1 h2 h3⟩
  ·cases hg
def aa1{f:UW}{fn:ZD}{c:U_}{rs:SW}{nt:Nat}{H:SA}{args:SC}{k kp:SF}(hf:P.funcs[f]?=some fn)(hb:fn.body=some c)(hr:fn.results=rs.toArray)(hn:fn.ntmps=nt)(cS:args.length<=nt)
  (h:bJ H->(∀a∈args,Lt H.length a)->m9 lv P nt c ⟨bm 0 args,H⟩ [] (tH P rs H.length k kp)):ba lv P f H args k kp:=by
 intro E V vs hc hd;have hlt:∀a∈args,Lt H.length a:=λa ha=>by
  obtain⟨i,hi⟩:=qq ha;rw[<- hc.n];exact(hd.2 i a hi).lt
 have aj:=Di (nt:=nt) hc hd cS;refine aiC (by simp) hf hb ?_;rw[hn];refine h hc.aq hlt E V _ _ aj ⟨rfl,by simp⟩ λae e E' V' a' s' cJ hk aX gD he hΦ=> ?_;have fin:tH P rs H.length k kp .ret s' cJ->yA P fn (iA E V k kp) a'.defers .returning a'.tmps V':=λhΦ=>by
  obtain⟨H',hg,hΦ⟩:=ao.out hΦ;exact Qx rfl cJ _ H' E' V' _ hg aX.bB gD λaV h1 h2 h3=>aes (s':=⟨s'.T,H'⟩) (a':=a') hr ⟨h3,aX.tok,aX.size⟩ hk.le hc.n (h1.trans hk.role) (h2.trans hk.deaf) hΦ
 cases ae<;>cases e<;>first
  |exact he.elim
  |exact fin hΦ
  |exact hΦ.elim
  |skip
 rename_i pv ch;obtain⟨v,fy,bx⟩:∃v,ch=[{v,recovered:=false}]/\au E' pv v:=he;subst fy;obtain⟨H',hg,hΦ⟩:=ao.out hΦ;refine Qx rfl cJ _ H' E' V' _ hg aX.bB gD λaV h1 h2 h3=> ?_;obtain⟨b,bY,u5,r1,r2,r3,r4⟩:=yN hΦ h3 bx hk.le hc.n;exact⟨b,v,bY,u5,rfl,r1,h1.trans hk.role,h2.trans hk.deaf,r2,r3,r4⟩
end
def Env.frame (E:Env)(f:Nat->Option Obj):Env:={E with fr:=f}
def au.frame{E:Env}{a:AV}{v:Uf}(h:au E a v)(f:Nat->Option Obj):au (E.frame f) a v:=by
 induction h with
 |val x=>exact .val x
 |agg hs _ ih=>exact .agg hs ih
 |aL hs _ ih=>exact .aL hs ih
 |sl b o cap g hc he h1 _ ih=>exact .sl b o cap g hc (by cases kF:‹End›<;>(subst kF;exact he)) h1 ih
 |nil he=>exact .nil (by cases kF:‹End›<;>(subst kF;exact he))
 |bC hi eo=>exact .bC (E:=E.frame f) hi eo
 |rp b o g h1 _ ih=>exact .rp b o g h1 ih
 |op hi=>exact .op (E:=E.frame f) hi
 |fn ep ft _ _ nw lP=>exact .fn ep ft nw lP
 |da _ ih=>exact .da ih
 |mp hi=>exact .mp (E:=E.frame f) hi
def cO.frame{E:Env}{l:SC}{cs:SG}(h:cO E l cs)(f:Nat->Option Obj):cO (E.frame f) l cs:=⟨h.1,λi a e=>(h.2 i a e).frame f⟩
def kv.frame{E:Env}{l:SC}{cs:SG}(h:kv E l cs)(f:Nat->Option Obj):kv (E.frame f) l cs:=⟨h.1,λi a e=>(h.2 i a e).frame f⟩
def cC.frame{E:Env}{T:SH}{tmps:SG}(h:cC E T tmps)(f:Nat->Option Obj):cC (E.frame f) T tmps:=λt a e=>⟨(h t a e).1,(h t a e).2.frame f⟩
def wZ(E:Env)(f:Nat->Option Obj)(k:Nat)(x:aa):bT (E.frame f) k x=bT E k x:=by cases x<;>rfl
def gw.frame{E:Env}{V:View}{k:Nat}{x:aa}(h:gw E V k x)(f:Nat->Option Obj):gw (E.frame f) V k x:=by
 cases x with
 |cells l el=>obtain⟨⟨cs,h1,h2⟩,h3⟩:=h;exact⟨⟨cs,h1,h2.frame f⟩,h3⟩
 |part p l el=>obtain⟨⟨cs,h1,h2,h4⟩,h3⟩:=h;exact⟨⟨cs,h1,h2.frame f,h4⟩,h3⟩
 |own sz l el=>obtain⟨⟨cs,h1,h2,h4⟩,h3⟩:=h;exact⟨⟨cs,h1,h2.frame f,h4⟩,h3⟩
 |tail n sz el=>exact h
 |obj x=>exact h
 |iter=>exact h
 |loop=>obtain⟨⟨tmps,h1,h2,h3⟩,h4,h5⟩:=h;exact⟨⟨tmps,h1,h2,h3.frame f⟩,h4,h5⟩
 |gone=>trivial
 |main=>exact h
def Conc.Aa{E:Env}{V V':View}{H:SA}(h:Conc E V H)(f:Nat->Option Obj)(hI:V'.ai=V.ai)
  (ho:∀b x k y,H[k]?=some y->bT E k y=some b->V.own b=some x->V'.own b=some x)
  (hg:∀g,V'.role.group=some g->V'.own g≠none/\(∀o,V'.ai g o=none)/\∀(k:Nat) x,H[k]?=some x->bT E k x≠some g)
  (hc:∀g,V'.role.chan=some g->V'.own g≠none/\(∀o,V'.ai g o=none)/\∀(k:Nat) x,H[k]?=some x->bT E k x≠some g)
  (ht:E.main=true->V'.role=.plain/\V'.deaf=0) (hf:∀b y,f b=some y->V'.own b=some y/\(∀o,V'.ai b o=none)/\∀(k:Nat) x,H[k]?=some x->bT E k x≠some b):Conc (E.frame f) V' H:=by
 have hlt:∀(k:Nat) y,H[k]?=some y->k<E.n:=λk y e=>by rw[h.n];exact(Tq.1 e).1
 refine⟨by rw[hI];exact h.I,h.n,λk x e=>gw.frame ((h.obj k x e).mono (Env.Le.refl E) (hlt k x e) rfl (λb y hb hy=>ho b y k x e hb hy) (λb _ o=>by rw[hI])) f,λi j x y b h1 h2 h3 h4=> ?_,λg e=> ?_,λg e=> ?_,ht,λb y e=> ?_⟩
 ·rw[wZ]at h3 h4;exact h.inj i j x y b h1 h2 h3 h4
 ·obtain⟨a,b,c⟩:=hg g e;exact⟨a,b,λk x e=>by rw[wZ];exact c k x e⟩
 ·obtain⟨a,b,c⟩:=hc g e;exact⟨a,b,λk x e=>by rw[wZ];exact c k x e⟩
 ·obtain⟨a,b',c⟩:=hf b y e;exact⟨a,b',λk x e=>by rw[wZ];exact c k x e⟩
def Conc.FB{E:Env}{V:View}{H:SA}(h:Conc E V H){b:Nat}{x:Obj}(hb:E.fr b=some x){k:Nat}{y:aa}(hk:H[k]?=some y){b':Nat}(dO:bT E k y=some b'):b'≠b:=λe=>by subst e;exact(h.fr _ x hb).2.2 k y hk dO
def Conc.alM{E:Env}{V:View}{H:SA}(h:Conc E V H){b:Nat}{x:Obj}(hb:E.fr b=some x)(y:Obj):Conc (E.frame λb'=>if b'=b then some y else E.fr b') (V.upd b y) H:=by
 obtain⟨p1,p2,p3⟩:=h.fr b x hb;refine h.Aa _ rfl (λb' z k w hk kT hz=> ?_) (λg hg=> ?_) (λg hg=> ?_) h.top (λb' z hz=> ?_)
 ·have:b'≠b:=h.FB hb hk kT;simpa[View.upd,this]using hz
 ·obtain⟨q1,q2,q3⟩:=h.group g hg;refine⟨?_,q2,q3⟩;simp only[View.upd];split
  ·simp
  ·exact q1
 ·obtain⟨q1,q2,q3⟩:=h.chan g hg;refine⟨?_,q2,q3⟩;simp only[View.upd];split
  ·simp
  ·exact q1
 ·by_cases e:b'=b
  ·subst e;rw[if_pos rfl]at hz;cases hz;exact⟨by simp[View.upd],p2,p3⟩
  ·rw[if_neg e]at hz;obtain⟨q1,q2,q3⟩:=h.fr b' z hz;exact⟨by simpa[View.upd,e]using q1,q2,q3⟩
def Conc.alK{E:Env}{V:View}{H:SA}(h:Conc E V H){b:Nat}(hb:V.fresh b)(y:Obj):Conc (E.frame λb'=>if b'=b then some y else E.fr b') (V.upd b y) H:=by
 have aF:∀(k:Nat) x,H[k]?=some x->bT E k x≠some b:=λk x hk e=>by
  obtain⟨z,hz⟩:=(h.obj k x hk).Dl e;rw[hb.1]at hz;cases hz
 refine h.Aa _ rfl (λb' z k w hk kT hz=> ?_) (λg hg=> ?_) (λg hg=> ?_) h.top (λb' z hz=> ?_)
 ·have:b'≠b:=λe=>by subst e;exact aF k w hk kT
  simpa[View.upd,this]using hz
 ·obtain⟨q1,q2,q3⟩:=h.group g hg;refine⟨?_,q2,q3⟩;simp only[View.upd];split
  ·simp
  ·exact q1
 ·obtain⟨q1,q2,q3⟩:=h.chan g hg;refine⟨?_,q2,q3⟩;simp only[View.upd];split
  ·simp
  ·exact q1
 ·by_cases e:b'=b
  ·subst e;rw[if_pos rfl]at hz;cases hz;exact⟨by simp[View.upd],hb.2,aF⟩
  ·rw[if_neg e]at hz;obtain⟨q1,q2,q3⟩:=h.fr b' z hz;exact⟨by simpa[View.upd,e]using q1,q2,q3⟩
def Conc.alL{E:Env}{V:View}{H:SA}(h:Conc E V H){id:Nat}{l:SC}{el:TypeId}(hk:H[id]?=some (.cells l el)):∃cs,cO E l cs/\V.own (E.blk id)=some (.cells cs el (0,0))/\(∀o,V.ai (E.blk id) o=none)/\
  Conc (E.frame λb'=>if b'=E.blk id then some (.cells cs el (0,0))else E.fr b') V (H.set id .gone):=by
 obtain⟨⟨cs,h1,h2⟩,h3⟩:=h.obj id _ hk;refine⟨cs,h2,h1,h3,?_⟩;have hg:Conc E V (H.set id .gone):=by
  refine h.ja id .gone (Env.Le.refl E) h.I (by simpa using h.n) lQ rfl (λ_ _ _=>rfl) (λb y _ hy=>⟨hy,λ_=>rfl⟩) trivial (λb e=>by cases e)
 have aF:∀(k:Nat) x,(H.set id .gone)[k]?=some x->bT E k x≠some (E.blk id):=λk x hx e=>by
  rcases lQ k x hx with⟨rfl,rfl⟩|⟨aF,hx⟩
  ·cases e
  ·exact aF (h.inj k id x _ _ hx hk e rfl)
 refine hg.Aa _ rfl (λ_ _ _ _ _ _ hz=>hz) hg.group hg.chan h.top (λb' z hz=> ?_);by_cases e:b'=E.blk id
 ·subst e;rw[if_pos rfl]at hz;cases hz;exact⟨h1,h3,aF⟩
 ·rw[if_neg e]at hz;exact hg.fr b' z hz
def Conc.Jp{E:Env}{V:View}{H:SA}(h:Conc E V H){id:Nat}{l:SC}{el:TypeId}(hk:H[id]?=some (.cells l el))(p:Nat)(hp:p<=l.length):∃V',ey V V'/\V'.own=V.own/\V'.role=V.role/\V'.deaf=V.deaf/\E.Le {E with I:=V'.ai}/\Conc {E with I:=V'.ai} V' (H.set id (.part p l el))/\
  au {E with I:=V'.ai} (.rp (l.take p)) (.pointer (some ⟨E.blk id,0,none⟩)):=by
 obtain⟨⟨cs,h1,h2⟩,h3⟩:=h.obj id _ hk;let V':=V.fe (E.blk id) cs λo=>decide (o<p);have lF:∀b o,b≠E.blk id->V'.ai b o=V.ai b o:=λb o hb=>by simp[V',View.fe,hb]
 have ce:∀o,o<p->V'.ai (E.blk id) o=cs[o]?:=λo ho=>by simp[V',View.fe,ho]
 have anC:∀o,p<=o->V'.ai (E.blk id) o=none:=λo ho=>by simp[V',View.fe,Nat.not_lt.2 ho,h3]
 have hle:E.Le {E with I:=V'.ai}:=⟨λb o v e=>by
  rw[h.I]at e;have hb:b≠E.blk id:=λhb=>by subst hb;rw[h3]at e;cases e
  show V'.ai b o=some v;rw[lF b o hb];exact e,Ts _,λ_ _=>rfl,λ_ _=>Ts _,λ_ _ _ _=>rfl,rfl,rfl⟩
 refine⟨V',yV h1 (λo _=>h3 o),rfl,rfl,rfl,hle,?_,?_⟩
 ·refine h.ja (E':={E with I:=V'.ai}) id (.part p l el) hle rfl (by simpa using h.n) lQ rfl (λ_ _ _=>rfl) (λb y hb hy=>⟨hy,λo=>lF b o λe=>hb _ hk (by rw[e];rfl)⟩) ⟨⟨cs,h1,(h2.mono hle).p,ce⟩,anC⟩ (λb e=> .inl ⟨_,hk,e⟩)
 ·refine .rp (E.blk id) 0 (λi=>cs.getD i undef) (λi hi=> ?_) λi x hx=> ?_
  ·have cI:i<p:=(by simp at hi;omega);rw[Xv];show V'.ai (E.blk id) i=_;rw[ce i cI];have:i<cs.size:=(by have:=h2.1;omega);simp[Ti,Tn this]
  ·rw[Vm]at hx;split at hx
   ·exact(h2.2 i x hx).mono hle
   ·cases hx
def Conc.apn{E:Env}{V V':View}{H:SA}(h:Conc E V H)(ho:V'.own=V.own)(lF:∀b o v,V.ai b o=some v->V'.ai b o=some v)(eW:∀b o,V.own b≠none->V.ai b o=none->V'.ai b o=none)
  (hg:V'.role.group=none) (hc:V'.role.chan=none) (ht:E.main=true->V'.role=.plain/\V'.deaf=0):E.Le {E with I:=V'.ai}/\Conc {E with I:=V'.ai} V' H:=by
 have hle:E.Le {E with I:=V'.ai}:=⟨λb o v e=>by rw[h.I]at e;exact lF b o v e,Ts _,λ_ _=>rfl,λ_ _=>Ts _,λ_ _ _ _=>rfl,rfl,rfl⟩;have hlt:∀(k:Nat) y,H[k]?=some y->k<E.n:=λk y e=>by rw[h.n];exact(Tq.1 e).1
 have key:∀b o,V.own b≠none->V'.ai b o=V.ai b o:=λb o hb=>by
  cases e:V.ai b o with
  |none=>exact eW b o hb e
  |some v=>exact lF b o v e
 refine⟨hle,rfl,h.n,λk x e=>(h.obj k x e).mono hle (hlt k x e) rfl (λb y _ hy=>by rw[ho];exact hy) (λb hb o=> ?_),h.inj,λg e=>(by rw[hg]at e;cases e),λg e=>(by rw[hc]at e;cases e),ht,λb y e=> ?_⟩
 ·obtain⟨y,hy⟩:=(h.obj k x e).Dl hb;exact key b o (by rw[hy];simp)
 ·obtain⟨q1,q2,q3⟩:=h.fr b y e;exact⟨by rw[ho];exact q1,λo=>by rw[key b o (by rw[q1];simp)];exact q2 o,q3⟩
section
variable {lv:Bool}{P:Tl}{nt id:Nat}{ops:SK}{s:AS}{E:Env}{V:View}{a:Act}{Q:SJ}{K:SV}
def JV(n m:Nat)(hn:ops.size=n+m)(dF:j8 nt ops=true)(aj:At E V s a nt)(h:iS lv P ops (ops.toList.take n) s K (λ_ _=>False))
  (hk:∀E' V' a' s',Kept E E' V V' a a'->At E' V' s' a' nt->K s'->dD lv P none ops Q (Vd n m) a' V'):WP lv P none (.region id ops false) Q a V:=by
 refine wp_region ?_;have hr:T1 ops.size=Vd 0 n++Vd n m:=by
  have:=aa_ (s:=0) (m:=n) (n:=m);rw[WE,hn,<- this];simp
 rw[hr];refine CG _ _ _ (Jb (r:=none) (Φ:=λe s'=>match e with
  |.normal=>K s'
  |_=>False) (λo ho d e=>(j8.out dF ho).1 d e) rfl n 0 s (by omega) (by simpa using h) E V a _ aj λae e E' V' a' s' aI aX he hΦ=> ?_)
 cases ae<;>cases e<;>first
  |exact he.elim
  |exact hΦ.elim
  |exact hk E' V' a' s' aI aX hΦ
def QK{n:Nat}{o:Vo}(ho:ops[n]?=some o)(hg:o.guard=none)(h:wS lv P o a V λa' V'=>Q .normal a' V'):dD lv P none ops Q (Vd n 1) a V:=by
 simp only[List.range'_one,dD,ho];rw[if_pos (by unfold Up;rw[hg])];exact .inr h
end
section
variable {lv main:Bool}{P:Tl}{J:SM}
def afU(C:Closed lv P main J){V:View}{fr:VR}{cs:SX}{g:UW}{ca aJ:SG}{ds:S5}(hd:fr.defers=⟨.fn (.func g) ca,aJ⟩::ds)(hm:(fr.mode matches .run)=false)(hg:rI P g=true)
  (h:J V (G (Frame.enter P g (aJ++ca) .deferred) ({fr with defers:=ds}::cs))):J V (G fr cs):=by
 refine C.step _ _ rfl λw hw=> ?_;have hs:aU P V (invoke (.fn (.func g) ca) aJ) (λnx V'=>nx=.enter g (aJ++ca)/\V'=V) (λ_ _=>False):=by
  unfold invoke;exact P3 hg ⟨rfl,rfl⟩
 obtain⟨es,w',V',k1,k2,k3⟩:=hs.runs hw;rcases k3 with⟨nx,k3,rfl,rfl⟩|⟨_,_,h⟩
 ·refine⟨G (Frame.enter P g (aJ++ca) .deferred) ({fr with defers:=ds}::cs),w',seen P fr.fn es,V',?_,k1.seen P fr.fn,h⟩;have e:stepG P main (G fr cs) w=unwind P main fr cs none w:=by
   obtain⟨fn,tmps,todo,defers,mode,kind,ro⟩:=fr;cases mode with
   |run=>cases hm
   |returning=>simp[G,stepG]
   |panicking ch=>simp[G,stepG]
  rw[e];simp only[unwind,hd];simp[callDeferred,UF,k3,k2,U8,G]
 ·exact h.elim
def ajD(C:Closed lv P main J){f:UW}{fn:ZD}{c:U_}{args:SG}{kd:Yh}{V:View}{cs:SX}{Q:S4}(hk:kd≠ .early)(hf:P.funcs[f]?=some fn)(hb:fn.body=some c)
  (h:WP lv P none c (λe a V=>(match e with|.normal|.ret=>True|_=>False)/\Q a V) {tmps:=args++UT (fn.ntmps-args.size) undef,defers:=[]} V)
  (hQ:∀a V todo,Q a V->J V (G {fn:=f,tmps:=a.tmps,todo,defers:=a.defers,mode:=.returning,kind:=kd,roundOf:=none} cs)):J V (G (Frame.enter P f args kd) cs):=by
 let b:VR:={(default:VR)with fn:=f,kind:=kd,roundOf:=none};have vN:Frame.enter P f args kd=on b {tmps:=args++UT (fn.ntmps-args.size) undef,defers:=[]} [.code c]:=by
  simp[Frame.enter,on,hf,hb,b]
 rw[vN];refine h main J C b [] cs hk rfl λe a' V' q=> ?_;cases e with
 |normal=>exact C.idle rfl (λw=>FO rfl) (hQ a' V' [] q.2)
 |ret=>intro k;exact C.idle rfl (λw=>FQ rfl) (hQ a' V' (.code .ret::k) q.2)
 |panic ch=>exact q.1.elim
 |exit id=>exact q.1.elim
 |goto l=>exact q.1.elim
end
def Env.fL (E:Env)(m:Bool):Env:={E with main:=m}
def au.fL{E:Env}{a:AV}{v:Uf}(h:au E a v)(m:Bool):au (E.fL m) a v:=by
 induction h with
 |val x=>exact .val x
 |agg hs _ ih=>exact .agg hs ih
 |aL hs _ ih=>exact .aL hs ih
 |sl b o cap g hc he h1 _ ih=>exact .sl b o cap g hc (by cases kF:‹End›<;>(subst kF;exact he)) h1 ih
 |nil he=>exact .nil (by cases kF:‹End›<;>(subst kF;exact he))
 |bC hi eo=>exact .bC (E:=E.fL m) hi eo
 |rp b o g h1 _ ih=>exact .rp b o g h1 ih
 |op hi=>exact .op (E:=E.fL m) hi
 |fn ep ft _ _ nw lP=>exact .fn ep ft nw lP
 |da _ ih=>exact .da ih
 |mp hi=>exact .mp (E:=E.fL m) hi
def cO.fL{E:Env}{l:SC}{cs:SG}(h:cO E l cs)(m:Bool):cO (E.fL m) l cs:=⟨h.1,λi a e=>(h.2 i a e).fL m⟩
def kv.fL{E:Env}{l:SC}{cs:SG}(h:kv E l cs)(m:Bool):kv (E.fL m) l cs:=⟨h.1,λi a e=>(h.2 i a e).fL m⟩
def cC.fL{E:Env}{T:SH}{tmps:SG}(h:cC E T tmps)(m:Bool):cC (E.fL m) T tmps:=λt a e=>⟨(h t a e).1,(h t a e).2.fL m⟩
def w5(E:Env)(m:Bool)(k:Nat)(x:aa):bT (E.fL m) k x=bT E k x:=by cases x<;>rfl
def gw.fL{E:Env}{V:View}{k:Nat}{x:aa}(h:gw E V k x)(m:Bool)(hm:x=.main->m=true):gw (E.fL m) V k x:=by
 cases x with
 |cells l el=>obtain⟨⟨cs,h1,h2⟩,h3⟩:=h;exact⟨⟨cs,h1,h2.fL m⟩,h3⟩
 |part p l el=>obtain⟨⟨cs,h1,h2,h4⟩,h3⟩:=h;exact⟨⟨cs,h1,h2.fL m,h4⟩,h3⟩
 |own sz l el=>obtain⟨⟨cs,h1,h2,h4⟩,h3⟩:=h;exact⟨⟨cs,h1,h2.fL m,h4⟩,h3⟩
 |tail n sz el=>exact h
 |obj x=>exact h
 |iter=>exact h
 |loop=>obtain⟨⟨tmps,h1,h2,h3⟩,h4,h5⟩:=h;exact⟨⟨tmps,h1,h2,h3.fL m⟩,h4,h5⟩
 |gone=>trivial
 |main=>exact hm rfl
def strip:aa->aa
 |.main=> .gone
 |x=>x
def ve(E:Env)(k:Nat)(x:aa):bT E k (strip x)=bT E k x:=by cases x<;>rfl
def Conc.ai7{E:Env}{V:View}{H:SA}(h:Conc E V H):Conc (E.fL false) V (H.map strip):=by
 have get:∀(k:Nat) y,(H.map strip)[k]?=some y->∃x,H[k]?=some x/\strip x=y:=λk y e=>by
  rw[Ut]at e;obtain⟨x,e1,e2⟩:=Uv.1 e;exact⟨x,e1,e2⟩
 refine⟨h.I,by rw[Ue];exact h.n,λk y e=> ?_,λi j x y b h1 h2 h3 h4=> ?_,λg hg=> ?_,λg hg=> ?_,(λe=>by cases e),λb y e=> ?_⟩
 ·obtain⟨x,hx,rfl⟩:=get k y e;have ma:=h.obj k x hx;cases x<;>first
   |exact gw.fL ma false (λe=>by cases e)
   |exact True.intro
 ·obtain⟨x',hx,rfl⟩:=get i x h1;obtain⟨y',hy,rfl⟩:=get j y h2;rw[w5,ve]at h3 h4;exact h.inj i j x' y' b hx hy h3 h4
 ·obtain⟨a,b,c⟩:=h.group g hg;exact⟨a,b,λk y e=>by obtain⟨x,hx,rfl⟩:=get k y e;rw[w5,ve];exact c k x hx⟩
 ·obtain⟨a,b,c⟩:=h.chan g hg;exact⟨a,b,λk y e=>by obtain⟨x,hx,rfl⟩:=get k y e;rw[w5,ve];exact c k x hx⟩
 ·obtain⟨a,b',c⟩:=h.fr b y e;exact⟨a,b',λk y e=>by obtain⟨x,hx,rfl⟩:=get k y e;rw[w5,ve];exact c k x hx⟩
def Conc.asl{E:Env}{V:View}{H:SA}(h:Conc E V (H.map strip))(m:Bool)(f:Nat->Option Obj)(hm:∀(k:Nat),H[k]?=some aa.main->m=true)(ht:m=true->V.role=.plain/\V.deaf=0)(hf:∀b y,f b=some y->E.fr b=some y):Conc ((E.fL m).frame f) V H:=by
 have get:∀(k:Nat) x,H[k]?=some x->(H.map strip)[k]?=some (strip x):=λk x e=>by rw[Ut,e];rfl
 refine⟨h.I,h.n.trans (by rw[Ue]),λk x e=>gw.frame ?_ f,λi j x y b h1 h2 h3 h4=> ?_,λg hg=> ?_,λg hg=> ?_,ht,λb y e=> ?_⟩
 ·have ma:=h.obj k _ (get k x e);cases x<;>first
   |exact gw.fL ma m (λe=>by cases e)
   |exact hm k e
 ·rw[wZ,w5]at h3 h4;exact h.inj i j _ _ b (get i x h1) (get j y h2) (by rw[ve];exact h3) (by rw[ve];exact h4)
 ·obtain⟨a,b,c⟩:=h.group g hg;exact⟨a,b,λk x e=>by rw[wZ,w5,<- ve];exact c k _ (get k x e)⟩
 ·obtain⟨a,b,c⟩:=h.chan g hg;exact⟨a,b,λk x e=>by rw[wZ,w5,<- ve];exact c k _ (get k x e)⟩
 ·obtain⟨a,b',c⟩:=h.fr b y (hf b y e);exact⟨a,b',λk x e=>by rw[wZ,w5,<- ve];exact c k _ (get k x e)⟩
section
variable {lv:Bool}{P:Tl}{nt id:Nat}{ops:SK}{s:AS}{E:Env}{V:View}{a:Act}{Q:SJ}{N:S4}{o:Vo}
def af7(ho:ops[0]?=some o)(hg:o.guard=none)(h:C1 lv P none o a V (dD lv P none ops Q (Vd 1 (ops.size-1))) Q):WP lv P none (.region id ops false) Q a V:=by
 refine wp_region ?_;have aZ:0<ops.size:=(T5.1 ho).1;have NK:T1 ops.size=0::Vd 1 (ops.size-1):=by
  rw[WE];obtain⟨n,hn⟩:∃n,ops.size=n+1:=⟨ops.size-1,by omega⟩;rw[hn,W9];rfl
 rw[NK];simp only[dD,ho];rw[if_pos (by unfold Up;rw[hg])];exact h
def avr{k n:Nat}(ho:ops[k]?=some o)(hg:o.guard=none)(h:C1 lv P none o a V (dD lv P none ops Q (Vd (k+1) n)) Q):dD lv P none ops Q (Vd k (n+1)) a V:=by
 rw[W9];simp only[dD,ho];rw[if_pos (by unfold Up;rw[hg])];exact h
def avt{k:Nat}(h:Q .normal a V):dD lv P none ops Q (Vd k 0) a V:=h
def QL{k n:Nat}(s3:AS)(hk:k+n=ops.size)(dF:j8 nt ops=true)(aj:At E V s a nt)(h:iS lv P ops (ops.toList.drop k) s (λs'=>s'.Sub s3) (λ_ _=>False))(hQ:∀E' V' a',Kept E E' V V' a a'->At E' V' s3 a' nt->Q .normal a' V'):dD lv P none ops Q (Vd k n) a V:=by
 refine Cc (r:=none) (Φ:=λe s'=>match e with
  |.normal=>s'.Sub s3
  |_=>False) (λo ho d e=>(j8.out dF ho).1 d e) (λ_ _=> .inl rfl) n k s hk h E V a Q aj λae e E' V' a' s' aI aX he hΦ=> ?_
 cases ae<;>cases e<;>first
  |exact he.elim
  |exact hΦ.elim
  |exact hQ E' V' a' aI (aX.sub hΦ)
def aqQ{c:Ys}{f:UW}(az:o.op=.call c)(bi:c.callee=.value (.func f))(hf:rI P f=true)(h:Body lv P f (c.args.map a.eval) .normal V (fun
  |.ret v,V'=>N (a.put o.dst v) V'
  |.panic _,_=>False)):C1 lv P none o a V N Q:=by
 refine .inl ⟨.inl rfl,?_⟩;unfold execOp;rw[az];dsimp only;unfold resolve;rw[bi];dsimp only;have e:a.eval (.func f)=.func (.func f) #[] #[]:=rfl;rw[e];unfold Wi;refine aA (ay ?_);unfold invoke;dsimp only;refine P3 hf ?_;have e2:#[]++c.args.map a.eval++#[]=c.args.map a.eval:=by simp
 rw[e2];exact h.mono λo V' hx=>by
  cases o with
  |ret v=>exact hx
  |panic ch=>exact hx.elim
def aqR{t el:TypeId}{d:ChanDir}{i:Xp}(az:o.op=.makeChan t (.const (.int .i64 0)))(h1:P.underlying t=some (.chan d el))(h2:P.info? el=some i)(h:∀c,V.fresh c->N (a.put o.dst (.chan (some c))) (V.upd c (.chan 0 #[] false 0 0 false))):C1 lv P none o a V N Q:=by
 refine .inl ⟨.inl rfl,?_⟩;unfold execOp;rw[az];dsimp only;have e:a.eval (.const (.int .i64 0))=.int .i64 0:=rfl;rw[e];unfold Instr.makeChan;refine aA (aA ?_);unfold asInt;refine ay ?_;refine eM h1 ?_;dsimp only;refine Af h2 ?_;rw[if_neg (by simp[IntKind.max,ax_,ax9])];refine aA ?_;unfold newObj;exact py λc hf=>cN (ay (ay (h c hf)))
end
def avq{lv:Bool}{P:Tl}{r:SL}{code:U_}{Q:SJ}{a:Act}{V:View}{c Wg:Nat}(un:lv=true)(hr:V.role=.plain)(aF:c≠Wg)(hc:V.own c=some (.chan 0 #[] false 0 0 false)) (hW:V.own Wg≠none) (oT:∀o,V.ai Wg o=none)
  (h:WP lv P r code Q a {V with role:=.fork c Wg []}):WP lv P r code Q a V:=λmain J C b k cs hb cy hL=>
 (C.more un).start _ _ c Wg hr aF hc hW oT (h main J C b k cs hb cy hL)
structure Env.Lo (E E':Env):Prop where
 I:∀b o v,E.I b o=some v->E'.I b o=some v
 n:E.n<=E'.n
 blk:∀k,k<E.n->E'.blk k=E.blk k
 fZ:∀k,k<E.n->E.fZ k<=E'.fZ k
 room:∀k v,k<E.n->v<=E.fZ k->E'.room k v=E.room k v
def Env.Le.lo{E E':Env}(h:E.Le E'):E.Lo E':=⟨h.I,h.n,h.blk,h.fZ,h.room⟩
def Env.Lo.refl(E:Env):E.Lo E:=(Env.Le.refl E).lo
def Env.Lo.trans{E E' bY:Env}(h:E.Lo E')(k:E'.Lo bY):E.Lo bY:=
 ⟨λb o v e=>k.I b o v (h.I b o v e),UK h.n k.n,λi hi=>(k.blk i (Uk hi h.n)).trans (h.blk i hi),λi hi=>UK (h.fZ i hi) (k.fZ i (Uk hi h.n)),
  λi v hi hv=>(k.room i v (Uk hi h.n) (UK hv (h.fZ i hi))).trans (h.room i v hi hv)⟩
def Env.Lo.le{E E':Env}(h:E.Lo E'):E.Le ((E'.fL E.main).frame E.fr):=⟨h.I,h.n,h.blk,h.fZ,h.room,rfl,rfl⟩
def au.lo{E E':Env}(h:E.Lo E'){a:AV}{v:Uf}(d:au E a v):au E' a v:=by
 have:=((d.mono h.le).fL E'.main).frame E'.fr;exact this
def Env.IS(E:Env)(f:Nat->Option Obj):E.Lo (E.frame f):=⟨λ_ _ _ h=>h,Ts _,λ_ _=>rfl,λ_ _=>Ts _,λ_ _ _ _=>rfl⟩
def Env.apG(E:Env)(m:Bool):E.Lo (E.fL m):=⟨λ_ _ _ h=>h,Ts _,λ_ _=>rfl,λ_ _=>Ts _,λ_ _ _ _=>rfl⟩
def Env.Lo.cut{E E':Env}(h:E.Lo E'){n:Nat}(hn:E.n<=n):E.Lo {E' with n:=n}:=⟨h.I,hn,h.blk,h.fZ,h.room⟩
def Env.bare (E:Env):Env:=((({E with n:=0}:Env).fL false).frame λ_=>none)
def au.bare{E:Env}{a:AV}{v:Uf}(h:au E a v)(hl:Lt 0 a):au E.bare a v:=((h.trim hl).fL false).frame _
def aiX{E:Env}{I:cG}{ro:nJ}(hI:E.I=I)(hg:ro.group=none)(hc:ro.chan=none):Conc E.bare {ai:=I,own:=λ_=>none,deaf:=0,role:=ro} []:=
 ⟨hI,rfl,λk x e=>(by cases e),λi j x y b h1=>(by cases h1),λg e=>(by rw[hg]at e;cases e),λg e=>(by rw[hc]at e;cases e),λe=>(by cases e),λb y e=>(by cases e)⟩
def At.avf{E:Env}{V:View}{s:AS}{a:Act}{nt t id off:Nat}(h:At E V s a nt)(hl:look s.T t=some (.op id off)):a.eval (.tmp t)=.pointer (some ⟨E.blk id,off,none⟩):=by
 have hd:=(h.tok t _ hl).2;show a.tmps.getD t undef=_;generalize a.tmps.getD t undef=v at hd;cases hd;rfl
section
variable {lv:Bool}{P:Tl}{s:AS}{ms:SE}{nt:Nat}
def an.qL (id:Nat)(Φ:SN):an->AS->SE->Prop
 |.exit i,s,ms=>if i=id then Φ .normal s ms else Φ (.exit i) s ms
 |e,s,ms=>Φ e s ms
def ah4{id:Nat}{c:U_}{Φ:SN}(h:m9 lv P nt c s ms (an.qL id Φ)):m9 lv P nt (.block id c) s ms Φ:=by
 intro E V a Q aj hd hQ;refine wp_block (h E V a _ aj hd λae e E' V' a' s' cJ hk aX cH he hΦ=> ?_);cases ae<;>cases e<;>first
  |exact he.elim
  |skip
 ·exact hQ .normal .normal E' V' a' s' cJ hk aX cH trivial hΦ
 ·rename_i i j;have e:i=j:=he;subst e;by_cases cg:i=id
  ·simp only[Ex.inBlock,cg,if_true];simp only[an.qL,cg,if_true]at hΦ;exact hQ .normal _ E' V' a' s' cJ hk aX cH trivial hΦ
  ·simp only[Ex.inBlock,cg,if_false];simp only[an.qL,cg,if_false]at hΦ;exact hQ (.exit i) _ E' V' a' s' cJ hk aX cH rfl hΦ
 ·exact hQ _ _ E' V' a' s' cJ hk aX cH he hΦ
 ·exact hQ _ _ E' V' a' s' cJ hk aX cH he hΦ
 ·exact hQ _ _ E' V' a' s' cJ hk aX cH he hΦ
def an.wG (Φ:SN):an->AS->SE->Prop
 |.goto _,_,_=>False
 |e,s,ms=>Φ e s ms
def ah7{c:U_}{Φ:SN}(h:m9 lv P nt c s ms (an.wG Φ)):m9 lv P nt (.scope c) s ms Φ:=by
 intro E V a Q aj hd hQ;refine af8 (λ_ _ _ _=>False) ⟨0,h E V a _ aj hd λae e E' V' a' s' cJ hk aX cH he hΦ=> ?_⟩ λ_ _ _ _ _ _ hf=>hf.elim;cases ae<;>cases e<;>first
  |exact he.elim
  |exact hΦ.elim
  |exact hQ _ _ E' V' a' s' cJ hk aX cH he hΦ
def aiq(id:Nat)(Φ:SN)(s:AS)(ms:SE):an.qL id Φ .normal s ms=Φ .normal s ms:=by rw[an.qL];simp
def atM(Φ:SN)(s:AS)(ms:SE):an.wG Φ .normal s ms=Φ .normal s ms:=by rw[an.wG];simp
def atO(Φ:SN)(s:AS)(ms:SE):an.wG Φ .ret s ms=Φ .ret s ms:=by rw[an.wG];simp
def auD(K:AS->SE->Prop)(Φ:SN)(s:AS)(ms:SE):an.tp K Φ .normal s ms=K s ms:=by rw[an.tp]
def auF(K:AS->SE->Prop)(Φ:SN)(s:AS)(ms:SE):an.tp K Φ .ret s ms=Φ .ret s ms:=by rw[an.tp];simp
@[congr] theorem awa {c : U_} {s s' : AS} {ms cJ : SE} {Φ : an -> AS -> SE -> Prop} (h : s = s') (hd : ms = cJ) : m9 lv P nt c s ms Φ = m9 lv P nt c s' cJ Φ := by rw[h, hd]
@[congr] theorem awW {K : AS -> SE -> Prop} {Φ : an -> AS -> SE -> Prop} {e e' : an} {s s' : AS} {ms cJ : SE} (he : e = e') (h : s = s') (hd : ms = cJ) : an.tp K Φ e s ms = an.tp K Φ e' s' cJ := by rw[he, h, hd]
@[congr] theorem awT {Φ : an -> AS -> SE -> Prop} {e e' : an} {s s' : AS} {ms cJ : SE} (he : e = e') (h : s = s') (hd : ms = cJ) : an.wG Φ e s ms = an.wG Φ e' s' cJ := by rw[he, h, hd]
@[congr] theorem awn {rs : List ac'} {n : Nat} {k kp : AV -> SA -> Prop} {e e' : an} {s s' : AS} {ms cJ : SE} (he : e = e') (h : s = s') (hd : ms = cJ) : tH P rs n k kp e s ms = tH P rs n k kp e' s' cJ := by rw[he, h, hd]
def alB(rs:SW)(n:Nat)(k kp:SF)(s:AS)(ms:SE):tH P rs n k kp .ret s ms=ao (jh ms s.H) λH'=>ao (iH P ⟨s.T,H'⟩ rs) λl=>cz n H' (jq l) k:=by rw[tH]
def A9(H:SA):jh [] H=some H:=by rw[jh]
def A8{i:Nat}{ms:SE}{H:SA}(h:H[i]?=some (.obj (.deferred (some [])))):jh (i::ms) H=jh ms (H.set i .gone):=by rw[jh];rw[h]
attribute [seval] aiq atM atO auD auF alB A9
end
section
variable {lv:Bool}{P:Tl}{r:SL}{s:AS}
def Sq{E:Env}{I:cG}(hI:∀b o v,E.I b o=some v->I b o=some v){n:Nat}{l:SC}{v:Uf}(h:au E (.sl n l .exact) v):∃a,au (E.tok I (a,n) n) (.sl n l (.opn E.n)) v:=by
 cases h with
 |sl b o cap f eo he q1 q2=>
  have HM:cap=n:=he;subst HM;refine⟨some ⟨b,o,none⟩,?_⟩;have hle:=E.OP (I:=I) hI (some ⟨b,o,none⟩,cap) cap;exact .sl b o cap f eo ⟨by simp[Env.tok],by simp[Env.tok],by simp[Env.tok]⟩ (λi hi=>hle.I _ _ _ (q1 i hi)) (λi x hx=>(q2 i x hx).mono hle)
 |nil he=>exact⟨_,.nil ⟨by simp[Env.tok],by simp[Env.tok],by simp[Env.tok];rfl⟩⟩
def nh{nt t n sz:Nat}{c:U_}{l:SC}{el:TypeId}{Φ:SI}(ht:look s.T t=some (.sl n l .exact))(h:aS lv P r nt c ⟨(t,.sl n l (.opn s.H.length))::s.T,s.H++[.tail n sz el]⟩ Φ):aS lv P r nt c s Φ:=λE V a Q aj hQ=>by
 obtain⟨hlt,hd⟩:=aj.tok t _ ht;obtain⟨ad,cH⟩:=Sq (I:=V.ai) (λb o v h=>by rw[<- aj.bB.I];exact h) hd;obtain⟨hc,hle⟩:=aj.bB.Qo (n:=n) sz el ad;refine h _ V a Q ⟨hc,λt' x hx=> ?_,aj.size⟩ λae e E' V' a' s' hk=>hQ ae e E' V' a' s' ((⟨hle,rfl,rfl,rfl,rfl⟩:Kept E _ V V a a).trans hk);simp only[look]at hx;split at hx
 ·rename_i e;subst e;cases hx;rw[<- aj.bB.n];exact⟨hlt,cH⟩
 ·exact⟨(aj.tok t' x hx).1,(aj.tok t' x hx).2.mono hle⟩
def Sr{E:Env}{l:SC}{cs:SG}{j:Nat}{a b:AV}(h:cO E l cs)(hj:l[j]?=some a)(hb:∀v,au E a v->au E b v):cO E (l.set j b) cs:=by
 refine⟨by rw[UM];exact h.1,λi x hx=> ?_⟩;by_cases e:i=j
 ·subst e;rw[Yb (Tq.1 hj).1]at hx;cases hx;exact hb _ (h.2 i a hj)
 ·rw[U6 (Ne.symm e)]at hx;exact h.2 i x hx
def ah0{nt id j n sz:Nat}{c:U_}{l l':SC}{el iB:TypeId}{Φ:SI}(cg:s.H[id]?=some (.cells l el))(hj:l[j]?=some (.sl n l' .exact))(h:aS lv P r nt c ⟨s.T,s.H.set id (.cells (l.set j (.sl n l' (.opn s.H.length))) el)++[aa.tail n sz iB]⟩ Φ):aS lv P r nt c s Φ:=λE V a Q aj hQ=>by
 have hc:=aj.bB;obtain⟨⟨cs,eW,hd⟩,lF⟩:=hc.obj id _ cg;obtain⟨ad,cH⟩:=Sq (I:=V.ai) (λb o v h=>by rw[<- hc.I];exact h) (hd.2 j _ hj);obtain⟨bw,hle⟩:=hc.Qo (n:=n) sz iB ad;have hlt:=(Tq.1 cg).1;have hn:(E.tok V.ai (ad,n) n).n=s.H.length+1:=by simp[Env.tok,hc.n]
 have e:s.H.set id (.cells (l.set j (.sl n l' (.opn s.H.length))) el)++[aa.tail n sz iB]=(s.H++[aa.tail n sz iB]).set id (.cells (l.set j (.sl n l' (.opn s.H.length))) el):=(VX _ _ hlt).symm;rw[e]at h;have HP:cO (E.tok V.ai (ad,n) n) (l.set j (.sl n l' (.opn s.H.length))) cs:=by
  have h0:=hd.mono hle;refine⟨by rw[UM];exact h0.1,λi x hx=> ?_⟩;by_cases ei:i=j
  ·subst ei;rw[Yb (Tq.1 hj).1]at hx;cases hx;rw[<- hc.n];exact cH
  ·rw[U6 (Ne.symm ei)]at hx;exact h0.2 i x hx
 have hb:(E.tok V.ai (ad,n) n).blk id=E.blk id:=hle.blk id (by rw[hc.n];exact hlt);have bZ:Conc (E.tok V.ai (ad,n) n) V ((s.H++[aa.tail n sz iB]).set id (.cells (l.set j (.sl n l' (.opn s.H.length))) el)):=by
  have de:(s.H++[aa.tail n sz iB])[id]?=some (.cells l el):=by rw[T4 hlt];exact cg
  refine bw.ja id _ (Env.Le.refl _) bw.I (by rw[bw.n,UM]) lQ rfl (λ_ _ _=>rfl) (λb y _ hy=>⟨hy,λ_=>rfl⟩) ⟨⟨cs,by rw[hb];exact eW,HP⟩,λo=>by rw[hb];exact lF o⟩ (λb dO=> .inl ⟨_,de,dO⟩)
 refine h _ V a Q ⟨bZ,aj.tok.mono hle,aj.size⟩ λae e E' V' a' s' hk=>hQ ae e E' V' a' s' ((⟨hle,rfl,rfl,rfl,rfl⟩:Kept E _ V V a a).trans hk)
def ah2{nt id j:Nat}{c:U_}{l:SC}{x y:AV}{el:TypeId}{Φ:SI}(cg:s.H[id]?=some (.cells l el))(hj:l[j]?=some x)(hw:Wk x y)(h:aS lv P r nt c ⟨s.T,s.H.set id (.cells (l.set j y) el)⟩ Φ):aS lv P r nt c s Φ:=λE V a Q aj hQ=>by
 have hc:=aj.bB;obtain⟨⟨cs,eW,hd⟩,lF⟩:=hc.obj id _ cg;have bZ:Conc E V (s.H.set id (.cells (l.set j y) el)):=
  hc.ja id _ (Env.Le.refl _) hc.I (by rw[hc.n,UM]) lQ rfl (λ_ _ _=>rfl) (λb y _ hy=>⟨hy,λ_=>rfl⟩) ⟨⟨cs,eW,Sr hd hj (hw E)⟩,lF⟩ (λb dO=> .inl ⟨_,cg,dO⟩)
 exact h E V a Q ⟨bZ,aj.tok,aj.size⟩ hQ
end
structure yq (X Y Z:Prop):Type where
 n:Nat
def UG (a:AV)(cw:Bool)(X Y Z:Prop)(_t:yq X Y Z):Prop:=(∃b,a=.val (.bool b)/\(b=cw->X)/\(b= !cw->Y))\/(a=.val undef/\Z)
def JN{b cw:Bool}{X Y Z:Prop}{t:yq X Y Z}:UG (.val (.bool b)) cw X Y Z t=((b=cw->X)/\(b= !cw->Y)):=by
 unfold UG;refine propext ⟨λh=> ?_,λh=> .inl ⟨b,rfl,h⟩⟩;rcases h with⟨b',e,h⟩|⟨e,_⟩
 ·cases e;exact h
 ·cases e
def au9(X Y Z:Prop)(t:yq X Y Z):UG (.val (.bool true)) true X Y Z t=X:=by rw[JN];simp
def au8(X Y Z:Prop)(t:yq X Y Z):UG (.val (.bool true)) false X Y Z t=Y:=by rw[JN];simp
def au7(X Y Z:Prop)(t:yq X Y Z):UG (.val (.bool false)) true X Y Z t=Y:=by rw[JN];simp
def au6(X Y Z:Prop)(t:yq X Y Z):UG (.val (.bool false)) false X Y Z t=X:=by rw[JN];simp
def ava(cw:Bool)(X Y Z:Prop)(t:yq X Y Z):UG (.val undef) cw X Y Z t=Z:=by
 unfold UG;refine propext ⟨λh=> ?_,λh=> .inr ⟨rfl,h⟩⟩;rcases h with⟨b',e,_⟩|⟨_,h⟩
 ·cases e
 ·exact h
section
variable (lv:Bool)(P:Tl)
def oL (all:SK):List Vo->AS->(SV)->(AV->SV)->Prop
 |[],s,next,_=>next s
 |o::rest,s,next,bad=>match o.guard with
  |none=>m8 lv P s o (λs'=>oL all rest s' next bad) bad
  |some (j,cw)=>ao ((all[j]?).bind (·.dst)) λd=>ao (look s.T d) λa=>UG a cw (m8 lv P ⟨(d,.val (.bool cw))::s.T,s.H⟩ o (λs'=>oL all rest s' next bad) bad) (oL all rest ((⟨(d,.val (.bool !cw))::s.T,s.H⟩:AS).put o.dst (.val undef)) next bad) (oL all rest (s.put o.dst (.val undef)) next bad) ⟨0⟩
end
def au5:type_of% @oL.eq_1:=by intros;rw[oL.eq_1]
def au4:type_of% @oL.eq_2:=by intros;rw[oL.eq_2]
@[congr] theorem aw0 {lv : Bool} {P : Tl} {s s' : AS} {all : Array Vo} {l : List Vo} {next : AS -> Prop} {bad : AV -> AS -> Prop} (h : s = s') : oL lv P all l s next bad = oL lv P all l s' next bad := by rw[h]
attribute [seval] au5 au4 au9 au8 au7 au6 ava
section
variable {lv:Bool}{P:Tl}{r:SL}{s:AS}
def JP{nt:Nat}{all:SK}{Φ:SI}(dF:∀o∈all,∀d,o.dst=some d->d<nt)(oc:∀o∈all,r=none\/mQ o.op=false):∀(n k:Nat)(s:AS),k+n=all.size->oL lv P all (all.toList.drop k) s (Φ .normal) (λpv s=>Φ (.panic pv) s)->
  ∀(E:Env)(V:View)(a:Act)(Q:SJ),At E V s a nt->(∀ae e E' V' a' s',Kept E E' V V' a a'->At E' V' s' a' nt->qB E' ae e->Φ ae s'->Q e a' V')->dD lv P r all Q (Vd k n) a V
 |0,k,s,hk,h,E,V,a,Q,aj,hQ=>by
  have:all.toList.drop k=[]:=by simp;omega
  rw[this]at h;exact hQ .normal .normal E V a s (Kept.refl E V a) aj trivial h
 |n+1,k,s,hk,h,E,V,a,Q,aj,hQ=>by
  have hlt:k<all.size:=by omega
  have hd:all.toList.drop k=all[k]::all.toList.drop (k+1):=by
   rw[UY (by simpa using hlt)];simp
  rw[hd]at h;have gk:all[k]∈all:=YV hlt;have ho:all[k]?=some all[k]:=Tn hlt;simp only[W9,dD,ho];have go:∀s:AS,At E V s a nt->m8 lv P s all[k] (λs'=>oL lv P all (all.toList.drop (k+1)) s' (Φ .normal) (λpv s=>Φ (.panic pv) s)) (λpv s=>Φ (.panic pv) s)->yu lv P r all[k] a V (dD lv P r all Q (Vd (k+1) n)) Q:=λs aj h=>by
   refine h.sound (lv:=lv) (r:=r) E V a _ Q aj.bB aj.tok (λd e=>by rw[aj.size];exact dF _ gk d e) (oc _ gk) (λE' V' a' s' aI bw mN hn=> ?_) (λE' V' s' pv v aI bw mN bx hb=> ?_)
   ·exact JP dF oc n (k+1) s' (by omega) hn E' V' a' Q ⟨bw,mN,aI.size.trans aj.size⟩ (λae e bY aV cD dA gC dw he hΦ=>hQ ae e bY aV cD dA (aI.trans gC) dw he hΦ)
   ·exact hQ (.panic pv) (.panic _) E' V' a s' aI ⟨bw,mN,aj.size⟩ ⟨v,rfl,bx⟩ hb
  simp only[oL]at h;split at h
  ·rename_i hg;have hw:Up all[k] (yielded all a.tmps)=true:=(by unfold Up;rw[hg]);rw[if_pos hw];exact .inl (go s aj h)
  ·rename_i j cw hg;obtain⟨d,gM,h⟩:=h.out;obtain⟨av,h1,h⟩:=h.out;rcases h with⟨b,rfl,h2,h3⟩|⟨rfl,h3⟩
   case inr=>
    have hv:=(aj.tok d _ h1).2;have hy:yielded all a.tmps j≠some cw:=by
     obtain⟨oj,kV,jB⟩:=Um.1 gM;generalize hx:a.tmps.getD d undef=x at hv;cases hv;have mJ:d<a.tmps.size:=(aj.tok d _ h1).1;rw[Ti,Tn mJ]at hx;simp only[Ua]at hx;simp[yielded,kV,jB,Tn mJ,hx,undef]
    have hw:¬Up all[k] (yielded all a.tmps)=true:=by
     unfold Up;rw[hg];intro h;exact hy (by simpa using h)
    rw[if_neg hw];exact JP dF oc n (k+1) (s.put all[k].dst (.val undef)) (by omega) h3 E V (a.put all[k].dst undef) Q
     ⟨by rw[fK];exact aj.bB,aj.tok.iG (λd e=>by rw[aj.size];exact dF _ gk d e) (.val undef),by rw[eF];exact aj.size⟩
     (λae e bY aV cD dA gC dw he hΦ=>hQ ae e bY aV cD dA ⟨gC.le,gC.size.trans (eF _ _ _),gC.defers.trans (put_defers _ _ _),gC.role,gC.deaf⟩ dw he hΦ)
   have hv:=(aj.tok d _ h1).2;have hy:yielded all a.tmps j=some b:=by
    obtain⟨oj,kV,jB⟩:=Um.1 gM;generalize hx:a.tmps.getD d undef=x at hv;cases hv;have mJ:d<a.tmps.size:=(aj.tok d _ h1).1;rw[Ti,Tn mJ]at hx;simp only[Ua]at hx;simp[yielded,kV,jB,Tn mJ,hx]
   have sU:∀b',b=b'->At E V ⟨(d,.val (.bool b'))::s.T,s.H⟩ a nt:=λb' dO=>by
    subst dO;refine⟨aj.bB,λt x e=> ?_,aj.size⟩;simp only[look]at e;split at e
    ·rename_i e';subst e';cases e;exact aj.tok d _ h1
    ·exact aj.tok t x e
   by_cases hb:b=cw
   ·have hw:Up all[k] (yielded all a.tmps)=true:=(by unfold Up;rw[hg];simp[hy,hb]);rw[if_pos hw];exact .inl (go _ (sU cw hb) (h2 hb))
   ·have hw:¬Up all[k] (yielded all a.tmps)=true:=(by unfold Up;rw[hg];simp[hy,hb]);rw[if_neg hw];have dO:b= !cw:=(by cases b<;>cases cw<;>simp_all);have xh:=h3 dO;have aj:=sU _ dO;exact JP dF oc n (k+1) ((⟨(d,.val (.bool !cw))::s.T,s.H⟩:AS).put all[k].dst (.val undef)) (by omega) xh E V (a.put all[k].dst undef) Q
     ⟨by rw[fK];exact aj.bB,aj.tok.iG (λd e=>by rw[aj.size];exact dF _ gk d e) (.val undef),by rw[eF];exact aj.size⟩
     (λae e bY aV cD dA gC dw he hΦ=>hQ ae e bY aV cD dA ⟨gC.le,gC.size.trans (eF _ _ _),gC.defers.trans (put_defers _ _ _),gC.role,gC.deaf⟩ dw he hΦ)
def KD{nt id:Nat}{ops:SK}{Φ:SI}(hd:j8 nt ops=true)(h:oL lv P ops ops.toList s (Φ .normal) (λpv s=>Φ (.panic pv) s)):aS lv P r nt (.region id ops false) s Φ:=by
 intro E V a Q aj hQ;refine wp_region ?_;rw[WE];exact JP (Φ:=Φ) (λo ho d e=>(j8.out hd ho).1 d e) (λo ho=> .inr (j8.out hd ho).2) ops.size 0 s (by omega) (by simpa using h) E V a Q aj hQ
end
section
variable (lv:Bool)(P:Tl)
def tM (all:SK):List Vo->AS->(SV)->Prop
 |[],s,K=>K s
 |o::rest,s,K=>match o.guard with
  |none=>AQ lv P s o λav=>tM all rest (s.put o.dst av) K
  |some (j,cw)=>ao ((all[j]?).bind (·.dst)) λd=>ao (look s.T d) λa=>UG a cw (AQ lv P ⟨(d,.val (.bool cw))::s.T,s.H⟩ o λav=>tM all rest ((⟨(d,.val (.bool cw))::s.T,s.H⟩:AS).put o.dst av) K) (tM all rest ((⟨(d,.val (.bool !cw))::s.T,s.H⟩:AS).put o.dst (.val undef)) K) (tM all rest (s.put o.dst (.val undef)) K) ⟨0⟩
end
def asd:type_of% @tM.eq_1:=by intros;rw[tM.eq_1]
def asc:type_of% @tM.eq_2:=by intros;rw[tM.eq_2]
@[congr] theorem awR {lv : Bool} {P : Tl} {s s' : AS} {all : Array Vo} {l l' : List Vo} {K : AS -> Prop} (hl : l = l') (h : s = s') : tM lv P all l s K = tM lv P all l' s' K := by rw[hl, h]
attribute [seval] asd asc
section
variable {lv:Bool}{P:Tl}{r:SL}{s:AS}{ops:SK}{nt p:Nat}
end
section
variable {P:Tl}
def Gj (P:Tl)(d:Nat)(t:TypeId):Prop:=(∃u,P.underlying t=some u/\AI u=false)/\∀x y:Int,cL P (WN d t (.int .i64 x) (.int .i64 y)) (x==y)
def Gk (P:Tl)(d:Nat)(t:TypeId)(n:Nat):Prop:=(∃u,P.underlying t=some u/\AI u=true)/\(∃i,P.info? t=some i/\i.size=n)/\∀xs ys:SD,xs.length=n->ys.length=n->cL P (WN d t (.agg (xs.map (Th .i64)).toArray) (.agg (ys.map (Th .i64)).toArray)) (xs==ys)
inductive tF (P:Tl)(d:Nat):Nat->List ZY->Nat->Prop
 |nil (o:Nat):tF P d o [] o
 | one {o n : Nat} {f : ZY} {fs : List ZY} (hn : f.name ≠ "_") (ho : f.offset = o) (h : Gj P d f.type) (t : tF P d (o + 1) fs n) : tF P d o (f :: fs) n
 | sub {o m n : Nat} {f : ZY} {fs : List ZY} (hn : f.name ≠ "_") (ho : f.offset = o) (h : Gk P d f.type m) (t : tF P d (o + m) fs n) : tF P d o (f :: fs) n
def tF.le{d o n:Nat}{fs:List ZY}(h:tF P d o fs n):o<=n:=by
 induction h with
 |nil=>exact Ts _
 |one _ _ _ _ ih=>omega
 |sub _ _ _ _ ih=>omega
def aat(xs:SD)(o m:Nat):(xs.map (Th .i64)).toArray.extract o (o+m)=(((xs.drop o).take m).map (Th .i64)).toArray:=by
 simp[List.extract_eq_take_drop,Xd,axB]
def auf {d n N : Nat} {xs ys : SD} {body : ZY -> Option Bool × Unit -> Sem (ForInStep (Option Bool × Unit))} (hx : xs.length = N) (hy : ys.length = N) (hb : ∀ f s, body f s = (if f.name ≠ "_" then (do
   let a<- part f.type (xs.map (Th .i64)).toArray f.offset;let b<- part f.type (ys.map (Th .i64)).toArray f.offset;let r<- WN d f.type a b
   if(!r)=true then pure (.done (some false,()))else pure (.yield (none,())))else pure (.yield (none,())))):
  ∀{o:Nat}{fs:List ZY},tF P d o fs n->n<=N->cL P (forIn fs (none,()) body) (if(xs.drop o).take (n-o)==(ys.drop o).take (n-o)then(none,())else(some false,())):=by
 intro o fs h hn;induction h with
 |nil o=>simpa using i_ (none,())
 |@one o n f fs Nu ho h t ih=>
  have hle:=t.le;have hox:o<xs.length:=by omega
  have hoy:o<ys.length:=by omega
  obtain⟨⟨u,hu,ET⟩,he⟩:=h;rw[X4,hb,if_pos Nu,ho];refine lU (a:=if xs[o]==ys[o]then .yield (none,())else .done (some false,())) ?_ ?_
  ·refine F0 hu ET (v:=.int .i64 xs[o]) (by simp[hox]) ?_;refine F0 hu ET (v:=.int .i64 ys[o]) (by simp[hoy]) ?_;refine lU (he _ _) ?_;cases hq:xs[o]==ys[o]<;>exact i_ _
  ·have e:((xs.drop o).take (n-o)==(ys.drop o).take (n-o))=((xs[o]==ys[o])&&((xs.drop (o+1)).take (n-(o+1))==(ys.drop (o+1)).take (n-(o+1)))):=by
    rw[UY hox,UY hoy,show n-o=(n-(o+1))+1 by omega,Xb,Xb];rfl
   rw[e];cases hq:xs[o]==ys[o]with
   |true=>simp only[if_true,Vt];exact ih hn
   |false=>simp only[UD,if_false,Wj];exact i_ _
 |@sub o m n f fs Nu ho h t ih=>
  have hle:=t.le;obtain⟨⟨u,hu,ET⟩,⟨i,hi,dx⟩,he⟩:=h;rw[X4,hb,if_pos Nu,ho];refine lU (a:=if(xs.drop o).take m==(ys.drop o).take m then .yield (none,())else .done (some false,())) ?_ ?_
  ·refine afv hu ET hi ?_;refine afv hu ET hi ?_;rw[dx,aat,aat];refine lU (he _ _ (by rw[Ux,Vr];omega) (by rw[Ux,Vr];omega)) ?_;cases hq:(xs.drop o).take m==(ys.drop o).take m<;>exact i_ _
  ·have e:((xs.drop o).take (n-o)==(ys.drop o).take (n-o))=(((xs.drop o).take m==(ys.drop o).take m)&&((xs.drop (o+m)).take (n-(o+m))==(ys.drop (o+m)).take (n-(o+m)))):=by
    have hs:∀zs:SD,(zs.drop o).take (n-o)=(zs.drop o).take m++(zs.drop (o+m)).take (n-(o+m)):=λzs=>by
     rw[show n-o=m+(n-(o+m)) by omega,List.take_add,axL]
    rw[hs,hs,Vh,Uh,beq_iff_eq,beq_iff_eq,beq_iff_eq];exact⟨λh=>List.append_inj h (by simp[Ux,Vr];omega),λh=>by rw[h.1,h.2]⟩
   rw[e];cases hq:(xs.drop o).take m==(ys.drop o).take m with
   |true=>simp only[if_true,Vt];exact ih hn
   |false=>simp only[UD,if_false,Wj];exact i_ _
def ajF{t:TypeId}{fs:Array ZY}{d n:Nat}{i:Xp}(ht:P.underlying t=some (.struct fs))(hs:P.stoodInHeld t=false)(hi:P.info? t=some i)(dx:i.size=n)(hf:tF P d 0 fs.toList n):Gk P (d+1) t n:=by
 refine ⟨⟨_, ht, rfl⟩, ⟨i, hi, dx⟩, λxs ys hx hy => ?_⟩;rw[WN];refine Am ht ?_;dsimp only;refine Qk ?_;rw[hs];simp only [UD, if_false];rw[<- Array.forIn_toList];refine lU (a := if (xs == ys) then (none, ()) else (some false, ())) ?_ (by cases xs == ys <;> exact i_ _);have := auf (body := λf (_ : Option Bool × Unit) => if f.name ≠ "_" then (do
   let a<- part f.type (xs.map (Th .i64)).toArray f.offset;let b<- part f.type (ys.map (Th .i64)).toArray f.offset;let r<- WN d f.type a b
   if(!r)=true then pure (ForInStep.done (some false,()))else pure (Z0 (none,())))else pure (Z0 (none,()))) hx hy (λf s=>rfl) hf (Ts _)
 simp only[YA,aw']at this;rw[Tx (by omega),Tx (by omega)]at this;exact this
def ajE{t:TypeId}{k0:U3}{d:Nat}(ht:P.underlying t=some (.int k0)):Gj P (d+1) t:=⟨⟨_,ht,rfl⟩,λ_ _=>afs ht⟩
def Dz (g:TypeId->Option (SL)):List ZY->Nat->Option Nat
 |[],o=>some o
 | f :: fs, o => if f.name ≠ "_" /\ f.offset = o then (match g f.type with
  |some none=>Dz g fs (o+1)
  |some (some m)=>Dz g fs (o+m)
  |none=>none)else none
def xe (P:Tl):Nat->TypeId->Option (SL)
 |0,_=>none
 |d+1,t=>match P.underlying t with
  |some (.int _)=>some none
  |some (.struct fs)=>if P.stoodInHeld t then none else(match Dz (xe P d) fs.toList 0,P.info? t with
   |some n,some i=>if i.size=n then some (some n)else none
   |_,_=>none)
  |_=>none
def LU{d n:Nat}{g:TypeId->Option (SL)}(h1:∀t,g t=some none->Gj P d t)(h2:∀t m,g t=some (some m)->Gk P d t m):∀(fs:List ZY)(o:Nat),Dz g fs o=some n->tF P d o fs n
 |[],o,h=>by cases h;exact .nil _
 |f::fs,o,h=>by
  rw[Dz]at h;split at h
  ·rename_i hc;split at h
   ·rename_i hg;exact .one hc.1 hc.2 (h1 _ hg) (LU h1 h2 fs _ h)
   ·rename_i m hg;exact .sub hc.1 hc.2 (h2 _ _ hg) (LU h1 h2 fs _ h)
   ·cases h
  ·cases h
def LS:∀(d:Nat)(t:TypeId),(xe P d t=some none->Gj P d t)/\∀n,xe P d t=some (some n)->Gk P d t n
 |0,t=>⟨λh=>by simp[xe]at h,λn h=>by simp[xe]at h⟩
 |d+1,t=>by
  have ih:=λt=>LS d t;rw[xe];split
  ·rename_i k0 hu;exact⟨λ_=>ajE hu,λn h=>by cases h⟩
  ·rename_i fs hu;split
   ·exact⟨λh=>(by cases h),λn h=>by cases h⟩
   ·rename_i hs;split
    ·rename_i n i hf hi;split
     ·rename_i dx;refine⟨λh=>(by cases h),λm h=> ?_⟩;cases h;exact ajF hu (by simpa using hs) hi dx (LU (λt=>(ih t).1) (λt=>(ih t).2) _ _ hf)
     ·exact⟨λh=>(by cases h),λn h=>by cases h⟩
    ·exact⟨λh=>(by cases h),λn h=>by cases h⟩
  ·exact⟨λh=>(by cases h),λn h=>by cases h⟩
def ag5{t:TypeId}{n:Nat}{xs ys:SD}(h:xe P 10000 t=some (some n))(hg:P.eqGuardType P.depth t=false)(hx:xs.length=n)(hy:ys.length=n)(k:SR):dH P .eql t (.agg (xs.map iv)) (.agg (ys.map iv)) k=k (bv (xs==ys)):=by
 have xM:cL P (XP t (.agg (xs.map (Th .i64)).toArray) (.agg (ys.map (Th .i64)).toArray)) (xs==ys):=((LS 10000 t).2 n h).2.2 xs ys hx hy;have e:dH P .eql t (.agg (xs.map iv)) (.agg (ys.map iv)) k=((YI=.eql\/YI=.neq)/\ao (AV.raw (.agg (xs.map iv))) λX=>ao (AV.raw (.agg (ys.map iv))) λY=>yO X Y=true/\P.eqGuardType P.depth t=false/\∃e,cL P (XP t X Y) e/\k (.val (.bool (if YI== .neq then !e else e)))):=rfl;rw[e,wz,wz,xY,xY];apply propext;constructor
 ·rintro⟨_,_,_,b,h1,h2⟩
  rw[xM.uniq h1];exact h2
 ·intro h;exact⟨.inl rfl,rfl,hg,_,xM,h⟩
def ag6{t:TypeId}{n:Nat}{xs ys:SD}(h:xe P 10000 t=some (some n))(hg:P.eqGuardType P.depth t=false)(hx:xs.length=n)(hy:ys.length=n)(k:SR):dH P .neq t (.agg (xs.map iv)) (.agg (ys.map iv)) k=k (bv (!(xs==ys))):=by
 have xM:cL P (XP t (.agg (xs.map (Th .i64)).toArray) (.agg (ys.map (Th .i64)).toArray)) (xs==ys):=((LS 10000 t).2 n h).2.2 xs ys hx hy;have e:dH P .neq t (.agg (xs.map iv)) (.agg (ys.map iv)) k=((WZ=.eql\/WZ=.neq)/\ao (AV.raw (.agg (xs.map iv))) λX=>ao (AV.raw (.agg (ys.map iv))) λY=>yO X Y=true/\P.eqGuardType P.depth t=false/\∃e,cL P (XP t X Y) e/\k (.val (.bool (if WZ== .neq then !e else e)))):=rfl;rw[e,wz,wz,xY,xY];apply propext;constructor
 ·rintro⟨_,_,_,b,h1,h2⟩
  rw[xM.uniq h1];exact h2
 ·intro h;exact⟨.inr rfl,rfl,hg,_,xM,h⟩
end
section
variable {lv:Bool}{P:Tl}{s:AS}{ms:SE}{bs:S5}{nt:Nat}
def u7 (E:Env)(ms:SE)(bs l:S5):Prop:=l=ms.map (λi=>({target:=.collected (E.blk i),args:=#[]}:Yd))++bs/\∀i∈ms,i<E.n
def u7.mono{E E':Env}(h:E.Le E'){ms:SE}{bs l:S5}(k:u7 E ms bs l):u7 E' ms bs l:=
 ⟨by rw[k.1];congr 1;exact WR λi hi=>by rw[h.blk i (k.2 i hi)],λi hi=>Uk (k.2 i hi) h.n⟩
def kL (lv:Bool)(P:Tl)(nt:Nat)(bs:S5)(c:U_)(s:AS)(ms:SE)(Φ:SN):Prop:=
 ∀(E:Env)(V:View)(a:Act)(Q:SJ),At E V s a nt->u7 E ms bs a.defers->(∀ae e E' V' a' s' cJ,rM E E' V V' a a'->At E' V' s' a' nt->u7 E' cJ bs a'.defers->qB E' ae e->Φ ae s' cJ->Q e a' V')->WP lv P none c Q a V
def GK{c:U_}{Φ:SN}(h:aS lv P none nt c s λe s'=>Φ e s' ms):kL lv P nt bs c s ms Φ:=λE V a Q aj hd hQ=>
 h E V a Q aj λae e E' V' a' s' hk aX he hΦ=>hQ ae e E' V' a' s' ms hk.d aX (by rw[hk.defers];exact hd.mono hk.le) he hΦ
def kL.mono{c:U_}{Φ Φ':SN}(h:kL lv P nt bs c s ms Φ)(hq:∀e s ms,Φ e s ms->Φ' e s ms):kL lv P nt bs c s ms Φ':=λE V a Q aj hd hQ=>
 h E V a Q aj hd λae e E' V' a' s' cJ hk aX cH he hΦ=>hQ ae e E' V' a' s' cJ hk aX cH he (hq _ _ _ hΦ)
def GL{x y:U_}{Φ:SN}(h:kL lv P nt bs x s ms (an.tp (λs' cJ=>kL lv P nt bs y s' cJ Φ) Φ)):kL lv P nt bs (.seq x y) s ms Φ:=by
 intro E V a Q aj hd hQ;refine wp_seq (h E V a _ aj hd λae e E' V' a' s' cJ hk aX cH he hΦ=> ?_);cases ae<;>cases e<;>first
  |exact he.elim
  |exact hΦ E' V' a' Q aX cH λae e bY aV cD dA Fx aI dw Bs kF uB=>hQ ae e bY aV cD dA Fx (hk.trans aI) dw Bs kF uB
  |exact hQ _ _ E' V' a' s' cJ hk aX cH he hΦ
def tO{x y:U_}{Φ:SN}(h:aS lv P none nt x s (an.then (λs'=>kL lv P nt bs y s' ms Φ) λe s'=>Φ e s' ms)):kL lv P nt bs (.seq x y) s ms Φ:=by
 refine GL (GK (h.mono λe s' hs=> ?_));cases e<;>exact hs
def yG{id:Nat}{c:U_}{Φ:SN}(h:kL lv P nt bs c s ms (an.qL id Φ)):kL lv P nt bs (.block id c) s ms Φ:=by
 intro E V a Q aj hd hQ;refine wp_block (h E V a _ aj hd λae e E' V' a' s' cJ hk aX cH he hΦ=> ?_);cases ae<;>cases e<;>first
  |exact he.elim
  |skip
 ·exact hQ .normal .normal E' V' a' s' cJ hk aX cH trivial hΦ
 ·rename_i i j;have e:i=j:=he;subst e;by_cases cg:i=id
  ·simp only[Ex.inBlock,cg,if_true];simp only[an.qL,cg,if_true]at hΦ;exact hQ .normal _ E' V' a' s' cJ hk aX cH trivial hΦ
  ·simp only[Ex.inBlock,cg,if_false];simp only[an.qL,cg,if_false]at hΦ;exact hQ (.exit i) _ E' V' a' s' cJ hk aX cH rfl hΦ
 ·exact hQ _ _ E' V' a' s' cJ hk aX cH he hΦ
 ·exact hQ _ _ E' V' a' s' cJ hk aX cH he hΦ
 ·exact hQ _ _ E' V' a' s' cJ hk aX cH he hΦ
def RD{α:Type}{lt:α->α->Prop}(wf:WellFounded lt){c:U_}{Φ:SN}(inv:α->AS)(mk:α->SE)(ok:α->Prop)(m:α)(h0:s.Sub (inv m))(o6:ms=mk m)(hm:ok m)
  (h:∀m,ok m->kL lv P nt bs c (inv m) (mk m) (an.tp (λs' cJ=>∃m',lt m' m/\ok m'/\s'.Sub (inv m')/\cJ=mk m') Φ)):kL lv P nt bs (.loop c) s ms Φ:=by
 subst o6;intro E V a Q aj hd hQ;refine QJ wf (I:=λm a' V'=>ok m/\∃E',rM E E' V V' a a'/\At E' V' (inv m) a' nt/\u7 E' (mk m) bs a'.defers) m ⟨hm,E,(Kept.refl E V a).d,aj.sub h0,hd⟩ λm a' V' hI=> ?_;obtain⟨aq,E',hk,aX,cH⟩:=hI;refine h m aq E' V' a' _ aX cH λae e bY aV cD dA Fx aI dw Bs he hΦ=> ?_;cases ae<;>cases e<;>first
  |exact he.elim
  |(obtain⟨m',h1,h2,h3,rfl⟩:=hΦ
    exact⟨m',h1,h2,bY,hk.trans aI,dw.sub h3,Bs⟩)
  |exact hQ _ _ bY aV cD dA Fx (hk.trans aI) dw Bs he hΦ
def ah9{f:Ur}{ps:TD}{bS body:U_}{fv:AV}{Φ:SN}(hf:s.ev f=some fv)
  (h:∀l fn:Nat,ju lv P fv (s.H++[.obj (.deferred (some [])),.loop l .ready none fn s.T nt ps bS body s.H.length]) [.fn (.yield l) [] []]
   (λ_ H'=>∃st pe gg T' jI gX gH fN gI,H'[s.H.length+1]?=some (.loop l st pe gg T' jI gX gH fN gI)/\st≠ .busy/\tL Φ ⟨s.T,H'.set (s.H.length+1) .gone⟩ (s.H.length::ms) pe)
   (λpv H'=>Φ (.panic pv) ⟨s.T,H'⟩ (s.H.length::ms))):kL lv P nt bs (.rangeFunc f ps bS body) s ms Φ:=by
 intro E V a Q aj hm hQ;refine af6 λfn d l hd hl=> ?_;have hc:=aj.bB;have dE:Conc (E.add d V.ai) (V.upd d (.deferred (some []))) (s.H++[.obj (.deferred (some []))]):=by
  refine hc.add hd _ ⟨?_,rfl,rfl,λo=> ?_⟩ (λb e=> ?_)
  ·rw[Env.dZ];simp[View.upd]
  ·rw[Env.dZ];exact hd.2 o
  ·simp only[bT,Env.dZ,Us]at e;exact e.symm
 have Eu:E.Le (E.add d V.ai):=E.ru d (λb o v h=>by rw[<- hc.I];exact h);have Ea:(E.add d V.ai).blk s.H.length=d:=by rw[<- hc.n];exact E.dZ d _
 let E1:=E.add d V.ai;let V1:=V.upd d (.deferred (some []));have p9:E1.n=s.H.length+1:=by rw[dE.n];simp
 have qX:E1.Le (E1.add l V1.ai):=E1.ru l (λb o v h=>by rw[<- dE.I];exact h);have bZ:Conc (E1.add l V1.ai) (V1.upd l (.loop {state:=.ready,pending:=none,fn,tmps:=a.tmps,params:=ps,assign:=bS,body,defers:=d})) ((s.H++[.obj (.deferred (some []))])++[.loop l .ready none fn s.T nt ps bS body s.H.length]):=by
  refine dE.add hl _ ⟨⟨a.tmps,?_,aj.size,(aj.tok.mono Eu).mono qX⟩,?_,λo=> ?_,?_⟩ (λb e=> ?_)
  ·have e:(E1.add l V1.ai).blk s.H.length=d:=(by rw[qX.blk s.H.length (by rw[p9];omega)];exact Ea);rw[e,Env.dZ];simp[View.upd]
  ·show s.H.length<E1.n+1;omega
  ·rw[Env.dZ];exact hl.2 o
  ·exact Env.dZ _ _ _
  ·simp only[bT,Env.dZ,Us]at e;exact e.symm
 have hle:E.Le (E1.add l V1.ai):=Eu.trans qX;have MF:(E1.add l V1.ai).blk s.H.length=d:=by rw[qX.blk s.H.length (by rw[p9];omega)];exact Ea
 rw[Te]at bZ;have sG:∀E',(E1.add l V1.ai).Le E'->u7 E' (s.H.length::ms) bs (mark a d).defers:=λE' hE=>by
  refine u7.mono hE ⟨?_,λi hi=> ?_⟩
  ·have:=(hm.mono hle).1;simp only[mark,Wd,MF,Wv];rw[<- this]
  ·rcases Tm.1 hi with rfl|hi
   ·show _<E1.n+1;omega
   ·exact Uk (hm.2 i hi) hle.n
 have bI:=au.ev aj.tok hf;have Ed:=h l fn (E1.add l V1.ai) (V1.upd l (.loop {state:=.ready,pending:=none,fn,tmps:=a.tmps,params:=ps,assign:=bS,body,defers:=d})) (a.eval f) #[.func (.yield l) #[] #[]] bZ (bI.mono hle) ⟨rfl,λi x hx=>by
  match i,hx with
  |0,hx=>cases hx;exact .fn rfl rfl (by simp) (by simp)⟩
 have key:∀o V',iA (E1.add l V1.ai) (V1.upd l (.loop {state:=.ready,pending:=none,fn,tmps:=a.tmps,params:=ps,assign:=bS,body,defers:=d}))
   (λ_ H'=>∃st pe gg T' jI gX gH fN gI,H'[s.H.length+1]?=some (.loop l st pe gg T' jI gX gH fN gI)/\st≠ .busy/\tL Φ ⟨s.T,H'.set (s.H.length+1) .gone⟩ (s.H.length::ms) pe)
   (λpv H'=>Φ (.panic pv) ⟨s.T,H'⟩ (s.H.length::ms)) o V'->Gt l d Q a o V':=by
  intro o V' hr;cases o with
  |ret v=>
   obtain⟨av,E',H',hE,cy,fz,_,bw,st,pe,gg,T',jI,gX,gH,fN,gI,cg,aP,hp⟩:=hr;obtain⟨dO,n9,rG,bt,NW,ua,ux⟩:=bw.Ag cg;refine⟨_,bt,n9,aP,?_⟩;have hg:Conc E' (V'.upd l (.loop {state:=.exhausted,pending:=pe,fn:=gg,tmps:=rG,params:=gX,assign:=gH,body:=fN,defers:=E'.blk gI})) (H'.set (s.H.length+1) .gone):=bw.FT _ cg _ (by simp only[bT,dO]);have aX:At E' (V'.upd l (.loop {state:=.exhausted,pending:=pe,fn:=gg,tmps:=rG,params:=gX,assign:=gH,body:=fN,defers:=E'.blk gI})) ⟨s.T,H'.set (s.H.length+1) .gone⟩ (mark a d) nt:=⟨hg,aj.tok.mono (hle.trans hE),aj.size⟩;have eV:rM E E' V (V'.upd l (.loop {state:=.exhausted,pending:=pe,fn:=gg,tmps:=rG,params:=gX,assign:=gH,body:=fN,defers:=E'.blk gI})) a (mark a d):=⟨hle.trans hE,rfl,cy,fz⟩;dsimp only
   match pe,hp,aX,eV with
   |none,hp,aX,eV=>exact hQ .normal .normal E' _ _ _ _ eV aX (sG E' hE) trivial hp
   |some .ret,hp,aX,eV=>exact hQ .ret .ret E' _ _ _ _ eV aX (sG E' hE) trivial hp
   |some (.exit i),hp,aX,eV=>exact hQ (.exit i) (.exit i) E' _ _ _ _ eV aX (sG E' hE) rfl hp
   |some (.goto i),hp,aX,eV=>exact hQ (.goto i) (.goto i) E' _ _ _ _ eV aX (sG E' hE) rfl hp
  |panic ch=>
   obtain⟨pv,v,E',H',rfl,hE,cy,fz,bx,bw,hp⟩:=hr;exact hQ (.panic pv) (.panic _) E' V' (mark a d) ⟨s.T,H'⟩ _ ⟨hle.trans hE,rfl,cy,fz⟩ ⟨bw,aj.tok.mono (hle.trans hE),aj.size⟩ (sG E' hE) ⟨v,rfl,bx⟩ hp
 exact Ed.mono (λnx V' hn=>Nx.mono key hn) (λv V' hr=>key _ _ hr)
@[congr] theorem awb {c : U_} {s s' : AS} {ms cJ : SE} {Φ : an -> AS -> SE -> Prop} (h : s = s') (hd : ms = cJ) : kL lv P nt bs c s ms Φ = kL lv P nt bs c s' cJ Φ := by rw[h, hd]
def vb (lv:Bool)(P:Tl)(fn:ZD)(R:SU):List Yd->Wo->Array Uf->View->Prop
 |[],.returning,tmps,V=>∃v,aU P V (results fn tmps) (λx V'=>x=v/\V'=V) (λ_ _=>False)/\R (.ret v) V
 |[],.panicking ch,_,V=>R (.panic ch) V
 |d::ds,md,tmps,V=>(md matches .run)=false/\((∃b,d={target:=.collected b,args:=#[]}/\V.own b=some (.deferred (some []))/\V.role.chan≠some b/\vb lv P fn R ds md tmps (V.upd b (.deferred none)))\/
   ((∃f cZ,d.target=.fn f cZ)/\aU P V (invoke d.target d.args) (λnx V'=>∃g args,nx=.enter g args/\Ax lv P g args md V' λoD aV=>vb lv P fn R ds oD tmps aV) (λ_ _=>False)))
 |[],.run,_,_=>False
def F5{f:UW}{fn:ZD}{kd:Yh}{R:SU}(hf:P.funcs[f]?=some fn){main:Bool}{J:SM}(C:Closed lv P main J){cs:SX}(hR:∀o V' DC,R o V'->Leaves P DC f kd o V'->J V' (G DC cs)):∀(ds:S5)(md:Wo)(V:View)(fr:VR),fr.fn=f->fr.kind=kd->fr.mode=md->fr.defers=ds->vb lv P fn R ds md fr.tmps V->J V (G fr cs)
 |[],.returning,V,fr,h1,h2,h3,h4,h=>by
  obtain⟨v,hs,hr⟩:=h;exact hR _ _ _ hr ⟨h1,h4,h2,fn,hf,h3,hs⟩
 |[],.panicking ch,V,fr,h1,h2,h3,h4,h=>hR _ _ _ h ⟨h1,h4,h2,fn,hf,h3⟩
 |[],.run,_,_,_,_,_,_,h=>h.elim
 |d::ds,md,V,fr,h1,h2,h3,h4,h=>by
  obtain⟨hm,⟨b,rfl,ho,fy,hu⟩|⟨⟨tf,cZ,ht⟩,hs⟩⟩:=h
  ·refine C.step _ _ rfl λw hw=> ?_;obtain⟨es,w',V',k1,k2,k3⟩:=(P7 (P:=P) ho fy).runs hw;rcases k3 with⟨x,k3,rfl,rfl⟩|⟨_,_,hx⟩
   ·refine⟨G {fr with defers:=ds} cs,w',seen P fr.fn es,_,?_,k1.seen P fr.fn,?_⟩
    ·have e:∀main,stepG P main (G fr cs) w=unwind P main fr cs none w:=λmain=>by
      cases md with
      |run=>cases hm
      |returning=>simp[G,stepG,h3]
      |panicking ch=>simp[G,stepG,h3]
     rw[e];simp only[unwind,h4];simp[UF,k3,k2,U8,G]
    ·exact F5 hf C hR ds md _ {fr with defers:=ds} h1 h2 h3 rfl hu
   ·exact hx.elim
  ·refine C.step _ _ rfl λw hw=> ?_;obtain⟨es,w',V',k1,k2,k3⟩:=hs.runs hw;rcases k3 with⟨nx,k3,g,args,rfl,hd⟩|⟨_,_,h⟩
   ·refine⟨G (Frame.enter P g args .deferred) ({fr with defers:=ds}::cs),w',seen P fr.fn es,V',?_,k1.seen P fr.fn,?_⟩
    ·have e:∀main,stepG P main (G fr cs) w=unwind P main fr cs none w:=λmain=>by
      cases md with
      |run=>cases hm
      |returning=>simp[G,stepG,h3]
      |panicking ch=>simp[G,stepG,h3]
     rw[e];obtain⟨tgt,ar⟩:=d;simp only at ht k3 k2;subst ht;simp only[unwind,h4];simp[callDeferred,UF,k3,k2,U8,G]
    ·refine hd main J C {fr with defers:=ds} cs h3 λoD aV hU=> ?_;exact F5 hf C hR ds oD aV {fr with defers:=ds,mode:=oD} h1 h2 rfl rfl hU
   ·exact h.elim
def agi (lv:Bool)(P:Tl)(fn:ZD)(R:SU):Ex->Act->View->Prop
 |.normal,a,V|.ret,a,V=>vb lv P fn R a.defers .returning a.tmps V
 |.panic ch,a,V=>vb lv P fn R a.defers (.panicking ch) a.tmps V
 |_,_,_=>False
def aiD{f:UW}{fn:ZD}{c:U_}{args:SG}{kd:Yh}{V:View}{R:SU}(hk:kd≠ .early)(hf:P.funcs[f]?=some fn)(hb:fn.body=some c)
  (h:WP lv P none c (agi lv P fn R) {tmps:=args++UT (fn.ntmps-args.size) undef,defers:=[]} V):Body lv P f args kd V R:=by
 intro main J C cs hR;let b:VR:={(default:VR)with fn:=f,kind:=kd,roundOf:=none};have vN:Frame.enter P f args kd=on b {tmps:=args++UT (fn.ntmps-args.size) undef,defers:=[]} [.code c]:=by
  simp[Frame.enter,on,hf,hb,b]
 rw[vN];refine h main J C b [] cs hk rfl λe a' V' q=> ?_;cases e with
 |normal=>exact C.idle rfl (λw=>FO rfl) (F5 hf C hR _ _ _ _ rfl rfl rfl rfl q)
 |ret=>intro k;exact C.idle rfl (λw=>FQ rfl) (F5 hf C hR _ _ _ _ rfl rfl rfl rfl q)
 |panic ch=>intro todo _;exact F5 hf C hR _ _ _ _ rfl rfl rfl rfl q
 |exit id=>exact q.elim
 |goto l=>exact q.elim
def afT{fn:ZD}{R:SU}{tmps:SG}{md:Wo}(hm:(md matches .run)=false):∀(ms:SE)(H H':SA)(E:Env)(V:View)(l:S5),jh ms H=some H'->Conc E V H->u7 E ms bs l->(∀V',V'.role=V.role->V'.deaf=V.deaf->Conc E V' H'->vb lv P fn R bs md tmps V')->vb lv P fn R l md tmps V
 |[],H,H',E,V,l,hg,hc,mK,hk=>by
  rw[jh]at hg;cases hg;have:l=bs:=mK.1;subst this;exact hk V rfl rfl hc
 |i::ms,H,H',E,V,l,hg,hc,mK,hk=>by
  simp only[jh]at hg;split at hg
  ·rename_i hi;obtain⟨e,hlt⟩:=mK;simp only[Wd,Wv]at e;subst e;obtain⟨p1,p2,p3,p4⟩:=hc.obj i _ hi;exact⟨hm,.inl ⟨_,rfl,p1,(hc.jH hi rfl).2,afT hm ms _ H' E _ _ hg (hc.FT _ hi _ rfl) ⟨rfl,λj hj=>hlt j (by simp[hj])⟩ λV' h1 h2 h3=>hk V' h1 h2 h3⟩⟩
  ·cases hg
def AC (lv:Bool)(P:Tl)(rs:SW)(n:Nat)(c:AV×SC)(k kp:SF):an->AS->SE->Prop
 |.normal,s,ms|.ret,s,ms=>ao (jh ms s.H) λH'=>rJ lv P c H' none (λH'=>ao (iH P ⟨s.T,H'⟩ rs) λl=>cz n H' (jq l) k) (λ_=>False)
 |.panic pv,s,ms=>ao (jh ms s.H) λH'=>rJ lv P c H' (some pv) (λH'=>ao (iH P ⟨s.T,H'⟩ rs) λl=>cz n H' (jq l) k) (λH'=>cz n H' pv kp)
 |_,_,_=>False
end
end Go.Gg
namespace Go.Gg.Tk
structure eG where
 min:Int
 max:Int
 deriving DecidableEq
structure aD where
 number:eG
 hour:eG
 deriving DecidableEq
structure Seen where
 hour:Int
 next:eG
 deriving DecidableEq
structure ak where
 first:Int
 hours:Int
 am:Int
 seen:List Seen
 pieces:List aD
 aC:List aD
 deriving DecidableEq
def iq (b:eG)(n:Int):Bool:=decide (b.min<=n)&&decide (n<=b.max)
def fM:Nat->SD->Int->Int
 |i,a::b::l,n=>if a<=n/\n<b then i else fM (i+1) (b::l) n
 |_,_,_=> -1
def iu (h:SD)(n:Int):Int:=fM 0 h n
def fits (h:SD)(y:aD)(n:Int):Bool:=decide (0<=iu h n)&&iq y.number n&&iq y.hour (iu h n)
def mW (x:ak)(hour:Nat)(n:Int):Bool:=x.seen.all λs=> !decide (s.hour=hour)||iq s.next n
def jD (x:ak):Nat->SD->List (SD)
 |0,pre=>if mW x (pre.length-1) (pre.getLastD 0)then[pre]else[]
 |d+1,pre=>if mW x (pre.length-1) (pre.getLastD 0)then(T1 (x.am.toNat+1)).flatMap λn:Nat=>jD x d (pre++[pre.getLastD 0+(n:Int)])else[]
def aM (x:ak):List (SD):=jD x x.hours.toNat [x.first]
def xC (x:ak)(t:Nat):List (SD):=if mW x 0 x.first then jD x (x.hours.toNat-1) [x.first,x.first+t]else[]
def FC (h:SD):SD:=(T1 (h.getLastD 0-h.headD 0).toNat).map λi:Nat=>h.headD 0+i
def lS (h:SD):List aD->SD->List (SD)
 |[],t=>[t]
 |y::ys,t=>((FC h).filter λn=>fits h y n&& !t.contains n).flatMap λn=>lS h ys (t++[n])
def nz (h:SD)(ns:SD):List aD->SE->List (SE)
 |[],t=>[t]
 |s::ss,t=>((T1 ns.length).filter λp=>fits h s (ns.getD p 0)&& !t.contains p).flatMap λp=>nz h ns ss (t++[p])
structure Tr where
 aK:SD
 ap:SD
 bR:SE
 deriving DecidableEq
def tu (x:ak)(h ns:SD):List Tr:=(nz h ns x.aC []).map λos=>⟨h,ns,os⟩
def gY (x:ak)(h:SD):List Tr:=(lS h x.pieces []).flatMap (tu x h)
def bc (x:ak):List Tr:=(aM x).flatMap (gY x)
def wH (x:ak)(h:SD):List Tr:=(lS h x.pieces []).flatMap λns=>(tu x h ns).take 1
def tr (x:ak)(deep:Int)(h:SD):List Tr:=if deep=0 then(wH x h).take 1 else if deep=1 then wH x h else gY x h
def JU (x:ak)(deep:Int)(t:Nat):List Tr:=(xC x t).flatMap (tr x deep)
def afI{i:Nat}:∀{h:SD}{n:Int},fM i h n<i+h.length:=by
 intro h;induction h generalizing i with
 |nil=>intro n;simp[fM];omega
 |cons a h ih=>
  intro n;cases h with
  |nil=>simp[fM];omega
  |cons b l=>
   simp only[fM];split
   ·simp;omega
   ·have:=ih (i:=i+1) (n:=n);simp at this⊢;omega
def Qq{i k:Nat}{z:Int}:∀{h:SD}{n:Int},h.getLastD z=z->h≠[]->fM i (h++UP k z) n=fM i h n:=by
 intro h;induction h generalizing i with
 |nil=>intro n _ h;exact absurd rfl h
 |cons a h ih=>
  intro n hz _;cases h with
  |nil=>
   simp only[al_,List.getLastD_nil]at hz;subst hz;have:∀(k i:Nat),fM i ([a]++UP k a) n= -1:=by
    intro k;induction k with
    |zero=>intro i;simp[fM]
    |succ k ihk=>
     intro i;rw[Xx,Z4];simp only[fM];rw[if_neg (by omega)];exact ihk (i+1)
   rw[this];simp[fM]
  |cons b l=>
   have:=ih (i:=i+1) (n:=n) (by simpa using hz) (by simp);simp only[Wv,fM]at this⊢;rw[this]
end Go.Gg.Tk
namespace Go.Gg.Tk
inductive dM (S:Type)where
 |go (s:S)
 |stop (s:S)
 |bad (s:S)
def bM {S α:Type}(f:S->α->dM S):List α->S->dM S
 |[],s=> .go s
 |a::l,s=>match f s a with
  |.go s'=>bM f l s'
  |r=>r
def rC{S α:Type}(f:S->α->dM S):∀(l m:List α)(s:S),bM f (l++m) s=match bM f l s with
  |.go s'=>bM f m s'
  |r=>r
 |[],m,s=>rfl
 |a::l,m,s=>by
  simp only[Wv,bM];cases f s a with
  |go s'=>exact rC f l m s'
  |stop s'=>rfl
  |bad s'=>rfl
def PX{S α:Type}(f:S->α->dM S)(a:α)(s:S):bM f [a] s=f s a:=by
 simp only[bM];cases f s a<;>rfl
def FN{S α:Type}{f:S->α->dM S}{g:S->α->S}(h:∀s a,f s a=.go (g s a)):∀(l:List α)(s:S),bM f l s=.go (l.foldl g s)
 |[],s=>rfl
 |a::l,s=>by simp only[bM,h,VO];exact FN h l _
def Cl{S α:Type}{f:S->α->dM S}{I:S->Prop}{A:α->Prop}(h:∀s a s',I s->A a->f s a=.go s'->I s'):∀(l:List α)(s s':S),(∀a∈l,A a)->I s->bM f l s=.go s'->I s'
 |[],s,s',_,hs,e=>by cases e;exact hs
 |a::l,s,s',ha,hs,e=>by
  simp only[bM]at e;cases hf:f s a with
  |go s1=>rw[hf]at e;exact Cl h l s1 s' (λb hb=>ha b (by simp[hb])) (h s a s1 hs (ha a (by simp)) hf) e
  |stop s1=>rw[hf]at e;cases e
  |bad s1=>rw[hf]at e;cases e
def cM (h:SD):SD:=h++UP (4-h.length) (h.getLastD 0)
def nq (x:ak)(bu:Nat):Nat->SD->List (SD)
 |0,pre=>if mW x (pre.length-1) (pre.getLastD 0)then[cM pre]else[]
 |d+1,pre=>if mW x (pre.length-1) (pre.getLastD 0)then(T1 (x.am.toNat+1)).flatMap λn:Nat=>if pre.length=1/\n≠bu then[]else nq x bu d (pre++[pre.getLastD 0+(n:Int)])else[]
def kU (x:ak)(bu:Nat):List (SD):=nq x bu x.hours.toNat [x.first]
def lZ (h:SD)(y:aD)(n:Nat):Bool:=decide (h.getD 0 0+n<h.getD 3 0)&&iq y.number (h.getD 0 0+n)&&iq y.hour (iu h (h.getD 0 0+n))
def jQ (p:Nat->Bool):Nat->Nat
 |0=>0
 |n+1=>if p n then jQ p n|||2^n else jQ p n
def Dk{p:Nat->Bool}:∀{n i:Nat},(jQ p n).testBit i=(decide (i<n)&&p i)
 |0,i=>by simp[jQ]
 |n+1,i=>by
  have ih:=Dk (p:=p) (n:=n) (i:=i);simp only[jQ];by_cases hp:p n=true
  ·rw[if_pos hp,Yq,ih,W8];by_cases hi:n=i
   ·subst hi;simp[hp]
   ·have:(i<n+1)<->i<n:=(by omega);simp[hi,this]
  ·rw[if_neg hp,ih];by_cases hi:i=n
   ·subst hi;simp at hp;simp[hp]
   ·have:(i<n+1)<->i<n:=(by omega);simp[this]
def GO{p:Nat->Bool}:∀{n:Nat},jQ p n<2^n
 |0=>by simp[jQ]
 |n+1=>by
  have ih:=GO (p:=p) (n:=n);have h1:2^n<2^(n+1):=Ye (by omega) (by omega);simp only[jQ];split
  ·exact XL (Xr ih h1) h1
  ·exact Xr ih h1
def cx (h:SD)(y:aD):Nat:=jQ (lZ h y) 9
def lc:SE->Nat->SE->List (SE)
 |[],_,t=>[t]
 |q::qs,used,t=>(T1 9).flatMap λn=>if used.testBit n|| !q.testBit n then[]else lc qs (used|||2^n) (t++[n])
def mV (k:Nat)(ns:SE):SE->Nat->SE->List (SE)
 |[],_,o=>[o]
 |q::qs,given,o=>(T1 k).flatMap λp=>if given.testBit p|| !q.testBit (ns.getD p 0)then[]else mV k ns qs (given|||2^p) (o++[p])
def lg (k:Nat)(l:SE):SD:=l.map (λn:Nat=>(n:Int))++UP (k-l.length) (-1)
def ew (h:SD)(ns:SE):SD:=h++lg 4 ns++[-1, -1, -1]
def dq (h:SD)(ns os:SE):SD:=h++lg 4 ns++lg 3 os
def gE (x:ak)(h:SD):List (SE):=lc (x.pieces.map (cx h)) 0 []
def iR (x:ak)(h:SD)(ns:SE):List (SE):=mV x.pieces.length ns (x.aC.map (cx h)) 0 []
def jL (x:ak)(deep:Int)(h:SD):List (SD):=
 let all:=(gE x h).map λns=>(iR x h ns).map λos=>dq h ns os
 if deep=0 then all.flatten.take 1 else if deep=1 then(all.map (·.take 1)).flatten else all.flatten
end Go.Gg.Tk
namespace Go.Gg.Tk
structure Kn where
 has:Bool
 aM:List (SD)
 ap:SE
 hours:SE
 less:SE
 aY:SE
 first:SD
def Kn.zero:Kn:=⟨false,[],[0,0,0,0],[0,0,0,0],[0,0,0,0],[0,0,0],UP 11 0⟩
def pI (l:SE)(p n:Nat):SE:=l.set p (l.getD p 0|||2^n)
abbrev SO:=List (SD)
def iZ (hs:SO)(h:SD):List (SD):=if h∈hs then hs else hs++[h]
def mY (t:SD)(p:Nat):Nat:=(t.getD (4+p) 0).toNat
def uW (t:SD)(p:Nat):Nat:=(iu (t.take 4) (t.getD (4+p) 0+t.getD 0 0)).toNat
def tj (t:SD)(s:Nat):Nat:=(t.getD (8+s) 0).toNat
def je (F:Kn)(t:SD):Kn:=if F.has then F else{F with has:=true,first:=t}
def nA (t:SD):Nat->SE->SE
 |0,l=>l
 |s+1,l=>pI (nA t s l) s (tj t s)
def sY (t:SD):Nat->SE->SE
 |0,l=>l
 |p+1,l=>pI (sY t p l) p (mY t p)
def sJ (t:SD):Nat->SE->SE
 |0,l=>l
 |p+1,l=>pI (sJ t p l) p (uW t p)
def qn (t:SD)(p:Nat):Nat->SE->SE
 |0,l=>l
 |q+1,l=>if t.getD (4+p) 0<t.getD (4+q) 0 then pI (qn t p q l) p q else qn t p q l
def qk (t:SD)(k:Nat):Nat->SE->SE
 |0,l=>l
 |p+1,l=>qn t p k (qk t k p l)
def eg (x:ak)(deep:Int)(F:Kn)(t:SD):Kn:=
 let F:=je F t
 if deep=2 then{F with aY:=nA t x.aC.length F.aY}
 else if deep=0 then{F with aM:=iZ F.aM (t.take 4)}
 else{F with ap:=sY t x.pieces.length F.ap,hours:=sJ t x.pieces.length F.hours,less:=qk t x.pieces.length x.pieces.length F.less}
def iw (x:ak)(deep:Int)(bu:Nat):Kn:=((kU x bu).flatMap (jL x deep)).foldl (eg x deep) Kn.zero
def ld (l m:SE):SE:=(List.zipWith (·|||·) l m)
end Go.Gg.Tk
namespace Go.Gg
open Go.Conc Go.Gg.Tk
def JW{n:Nat}(h:n<65536):Uc.wrap (n:Int)=n:=by
 have h1:Uc.bits=16:=rfl;have h2:Uc.signed=false:=rfl;unfold Yf;rw[h1,h2];simp;omega
def Do{n:Nat}(h:n<65536):(Vj Uc.bits (n:Int)).toNat=n:=by
 have h1:Uc.bits=16:=rfl;rw[h1,BitVec.ofInt_natCast,BitVec.toNat_ofNat];omega
def amh{m n:Nat}(hm:m<65536):(Uc.wrap (Vj Uc.bits ((m:Int).fdiv (2^(min n Uc.bits)))&&&Vj Uc.bits 1).toNat==1)=m.testBit n:=by
 have h1:Uc.bits=16:=rfl;have e:(m:Int).fdiv (2^(min n Uc.bits))=((m/2^(min n 16):Nat):Int):=by
  rw[h1,Int.fdiv_eq_ediv_of_nonneg _ (by exact_mod_cast YX _)];norm_cast
 have hlt:m/2^(min n 16)<65536:=ag_ (Nat.div_le_self _ _) hm;rw[e,BitVec.toNat_and,Do hlt,show (Vj Uc.bits 1).toNat=1 from rfl,JW (ag_ Nat.and_le_left hlt)];have hb:m/2^(min n 16)&&&1=(m/2^(min n 16)) % 2:=Nat.and_one_is_mod _;rw[hb];have ht:m.testBit n=decide (m/2^n % 2=1):=Nat.testBit_eq_decide_div_mod_eq;by_cases hn:n<=16
 ·rw[Xz hn,ht];by_cases h:m/2^n % 2=1
  ·simp[h]
  ·have:m/2^n % 2=0:=(by omega);simp[this]
 ·rw[Nat.min_eq_right (by omega)];have h0:m/2^16=0:=Nat.div_eq_of_lt (by omega);have h2:m.testBit n=false:=Nat.testBit_lt_two_pow (Uk hm (by calc 65536=2^16:=rfl
   _<=2^n:=VY (by omega) (by omega)))
  rw[h0,h2];rfl
def avh{m n:Nat}(hm:m<65536)(hn:n<16):Uc.wrap (Vj Uc.bits (m:Int)|||Vj Uc.bits (Uc.wrap (1* 2^(min n Uc.bits)))).toNat=((m|||2^n:Nat):Int):=by
 have h1:Uc.bits=16:=rfl;have hp:2^n<65536:=by calc 2^n<2^16:=Ye (by omega) hn
  _=65536:=rfl
 have e:Uc.wrap (1* 2^(min n Uc.bits))=((2^n:Nat):Int):=by
  rw[h1,Xz (by omega),Int.one_mul,<- JW hp];norm_cast
 rw[e,ak_,Do hm,Do hp];exact JW (XL (n:=16) hm hp)
def Jh{m n:Nat}(hm:m<65536)(hn:n<65536):Uc.wrap (Vj Uc.bits (m:Int)|||Vj Uc.bits (n:Int)).toNat=((m|||n:Nat):Int):=by
 rw[ak_,Do hm,Do hn];exact JW (XL (n:=16) hm hn)
def qw{m n:Nat}(hm:m<65536)(hn:n<65536):m|||n<65536:=XL (n:=16) hm hn
def yf{n:Nat}(hn:n<16):2^n<65536:=by calc 2^n<2^16:=Ye (by omega) hn
  _=65536:=rfl
abbrev wv (m:Nat):AV:=.val (.int .u16 m)
def db {S:Type}(Gf:S->SA)(pv:AV)(k kp:SF)(M:SA):dM S->Prop
 |.go s=>k (.val (.bool true)) (Gf s++M)
 |.stop s=>k (.val (.bool false)) (Gf s++M)
 |.bad s=>kp pv (Gf s++M)
def gG {S:Type}(Gf:S->SA)(pv:AV)(k kp:SF)(M:SA):dM S->Prop
 |.go s=>k (.aL []) (Gf s++M)
 |.stop s=>k (.aL []) (Gf s++M)
 |.bad s=>kp pv (Gf s++M)
structure j6 (lv:Bool)(P:Tl)(yv:AV){S:Type}(f:S->SD->dM S)(Gf:S->SA)(N:Nat)(I:S->Prop)(A:SD->Prop)(pv:AV):Prop where
 call:∀(σ:S)(a:SD)(M:SA)(k kp:SF),I σ->A a->db Gf pv k kp M (f σ a)->ju lv P yv (Gf σ++M) [.agg (a.map λn=> .val (.int .i64 n))] k kp
 inv:∀σ a σ',I σ->A a->f σ a=.go σ'->I σ'
 len:∀σ,(Gf σ).length=N
 ok:∀m σ σ',(∀z∈Gf σ,e9 m z)->∀z∈Gf σ',e9 m z
 sure:yv.sure=true
 parts:yv.parts=some [yv]
 leaf:yv.leaf=true
abbrev TK:=SD->Prop
def j6.get{lv:Bool}{P:Tl}{yv:AV}{S:Type}{f:S->SD->dM S}{Gf:S->SA}{N:Nat}{I:S->Prop}{A:TK}{pv:AV}(h:j6 lv P yv f Gf N I A pv)(σ:S)(L:SA)(i:Nat):(Gf σ++L)[N+i]?=L[i]?:=by
 rw[<- h.len σ,Ud (by omega)];congr 1;omega
def j6.set{lv:Bool}{P:Tl}{yv:AV}{S:Type}{f:S->SD->dM S}{Gf:S->SA}{N:Nat}{I:S->Prop}{A:TK}{pv:AV}(h:j6 lv P yv f Gf N I A pv)(σ:S)(L:SA)(i:Nat)(x:aa):(Gf σ++L).set (N+i) x=Gf σ++L.set i x:=by
 rw[<- h.len σ,Va _ _ (by omega)];congr 2;omega
def j6.aq{lv:Bool}{P:Tl}{yv:AV}{S:Type}{f:S->SD->dM S}{Gf:S->SA}{N:Nat}{I:S->Prop}{A:TK}{pv:AV}(h:j6 lv P yv f Gf N I A pv){σ:S}{M:SA}(hH:bJ (Gf σ++M))(σ':S):bJ (Gf σ'++M):=λz hz=>by
 have hl:(Gf σ'++M).length=(Gf σ++M).length:=by simp[h.len]
 rw[hl];rcases Tv.1 hz with h'|h'
 ·exact h.ok _ σ σ' (λw hw=>hH w (Ul _ hw)) z h'
 ·exact hH z (T_ _ h')
def tJ (l:Nat)(S:Nat->AS)(ok:S7)(m:Nat)(Φ:SI):an->AS->Prop
 |.goto l',s=>l'=l/\∃m',m'<m/\ok m'/\s.Sub (S m')
 |e,s=>Φ e s
section
variable {lv:Bool}{P:Tl}{r:SL}{s:AS}
end
def apC(l:Nat)(S:Nat->AS)(ok:S7)(m:Nat)(Φ:SI)(s:AS):tJ l S ok m Φ .normal s=Φ .normal s:=by rw[tJ];simp
def apE(l:Nat)(S:Nat->AS)(ok:S7)(m:Nat)(Φ:SI)(s:AS):tJ l S ok m Φ .ret s=Φ .ret s:=by rw[tJ];simp
def apB(l:Nat)(S:Nat->AS)(ok:S7)(m:Nat)(Φ:SI)(i:Nat)(s:AS):tJ l S ok m Φ (.exit i) s=Φ (.exit i) s:=by rw[tJ];simp
def apD(l:Nat)(S:Nat->AS)(ok:S7)(m:Nat)(Φ:SI)(a:AV)(s:AS):tJ l S ok m Φ (.panic a) s=Φ (.panic a) s:=by rw[tJ];simp
@[congr] theorem awN {l m : Nat} {S : Nat -> AS} {ok : Nat -> Prop} {s s' : AS} {Φ : an -> AS -> Prop} {e e' : an} (he : e = e') (h : s = s') : tJ l S ok m Φ e s = tJ l S ok m Φ e' s' := by rw[he, h]
attribute [seval] apC apE apB apD
open Go.Proofs
namespace Tk
def eG.l (b:eG):SC:=[iv b.min,iv b.max]
def eG.av (b:eG):AV:=.agg b.l
def aD.l (y:aD):SC:=[iv y.number.min,iv y.number.max,iv y.hour.min,iv y.hour.max]
def aD.av (y:aD):AV:=.agg y.l
def Seen.l (s:Seen):SC:=[iv s.hour,iv s.next.min,iv s.next.max]
def Seen.av (s:Seen):AV:=.agg s.l
def aO (xs:SD):AV:=.sl xs.length (xs.map iv) .shut
def lr (ls:SO):AV:=.sl ls.length (ls.map aO) .shut
abbrev SY:=List aD
def aR (xs:SY):AV:=.sl xs.length (xs.flatMap aD.l) .shut
def dl (xs:List Seen):AV:=.sl xs.length (xs.flatMap Seen.l) .shut
def ak.l (x:ak):SC:=[iv x.first,iv x.hours,iv x.am,dl x.seen,aR x.pieces,aR x.aC]
def ak.av (x:ak):AV:=.agg x.l
def aD.len(b:aD):b.l.length=4:=rfl
def Seen.len(b:Seen):b.l.length=3:=rfl
end Tk
section
variable {i:Nat}
def dp{xs:SD}{x:Int}(h:xs[i]?=some x):AV.shift i (.rp (xs.map iv))=some (.rp (iv x::(xs.drop (i+1)).map iv)):=by have:=Qb (f:=iv) h;rwa[YE]at this
def wF{xs:SO}{x:SD}(h:xs[i]?=some x):AV.shift i (.rp (xs.map aO))=some (.rp (aO x::(xs.drop (i+1)).map aO)):=by have:=Qb (f:=aO) h;rwa[YE]at this
def Cu{xs:SY}{x:aD}(h:xs[i]?=some x):AV.shift (i* 4) (.rp (xs.flatMap aD.l))=some (.rp (iv x.number.min::iv x.number.max::iv x.hour.min::iv x.hour.max::(xs.drop (i+1)).flatMap aD.l)):=Qa aD.len h
def P_{xs:List Seen}{x:Seen}(h:xs[i]?=some x):AV.shift (i* 3) (.rp (xs.flatMap Seen.l))=some (.rp (iv x.hour::iv x.next.min::iv x.next.max::(xs.drop (i+1)).flatMap Seen.l)):=Qa Seen.len h
end
def xU(n:Nat)(xs:SD):Lt n (aO xs)=True:=by simp[aO,pq,dj]
def B6(n:Nat)(xs:SO):Lt n (lr xs)=True:=by
 simp only[lr,pq,Uo,eq_iff_iff,iff_true]
 rintro a ⟨b,_,rfl⟩
 rw[xU];trivial
def IU(n:Nat)(xs:SY):Lt n (aR xs)=True:=by
 simp only[aR,pq,T9,eq_iff_iff,iff_true]
 rintro a ⟨b,_,h⟩
 simp only[aD.l,Tm,T7,or_false]at h;rcases h with rfl|rfl|rfl|rfl<;>exact .val _
def adq(n:Nat)(xs:List Seen):Lt n (dl xs)=True:=by
 simp only[dl,pq,T9,eq_iff_iff,iff_true]
 rintro a ⟨b,_,h⟩
 simp only[Seen.l,Tm,T7,or_false]at h;rcases h with rfl|rfl|rfl<;>exact .val _
def Fv(n:Nat)(x:ak):∀a∈x.l,Lt n a:=by
 intro a ha;simp only[ak.l,Tm,T7,or_false]at ha;rcases ha with rfl|rfl|rfl|rfl|rfl|rfl
 ·exact .val _
 ·exact .val _
 ·exact .val _
 ·rw[adq];trivial
 ·rw[IU];trivial
 ·rw[IU];trivial
def IV(n:Nat)(x:ak):Lt n x.av=True:=by simp only[ak.av,qp,eq_iff_iff,iff_true];exact Fv n x
open Go.Conc Go.Proofs Go.Gg.Tk
namespace Tk
structure jO (h:SD):Prop where
 len:h.length=4
 lo:∀a∈h,0<=a
 hi:∀a∈h,a<=1000
 span:h.getD 3 0<=h.getD 0 0+9
def jO.out{h:SD}(k:jO h):∃a b c d,h=[a,b,c,d]/\(0<=a/\a<=1000)/\(0<=b/\b<=1000)/\(0<=c/\c<=1000)/\(0<=d/\d<=1000)/\d<=a+9:=by
 match h,k with
 |[a,b,c,d],k=>exact⟨a,b,c,d,rfl,⟨k.lo a (by simp),k.hi a (by simp)⟩,⟨k.lo b (by simp),k.hi b (by simp)⟩,⟨k.lo c (by simp),k.hi c (by simp)⟩,⟨k.lo d (by simp),k.hi d (by simp)⟩,by simpa using k.span⟩
def als{h:SD}{y:aD}{n:Nat}(hn:(h.getD 3 0-h.getD 0 0).toNat<=n):lZ h y n=false:=by
 unfold lZ;rw[show decide (h.getD 0 0+(n:Int)<h.getD 3 0)=false from decide_eq_false (by omega)];rfl
def alt{h:SD}{y:aD}(hs:h.getD 3 0<=h.getD 0 0+9):cx h y=jQ (lZ h y) (h.getD 3 0-h.getD 0 0).toNat:=by
 apply Nat.eq_of_testBit_eq;intro i;unfold cx;rw[Dk,Dk];by_cases hi:i<(h.getD 3 0-h.getD 0 0).toNat
 ·have h9:i<9:=by omega
  rw[decide_eq_true hi,decide_eq_true h9]
 ·rw[als (by omega)];simp
def aaX(h:SD)(y:aD):cx h y<512:=GO (n:=9)
end Tk
def xb{α:Type}{xs:List α}{i:Nat}{x:α}(h:xs[i]?=some x):xs.drop i=x::xs.drop (i+1):=by
 obtain⟨h1,h2⟩:=Tq.1 h;rw[UY h1,h2]
section
variable {lv:Bool}{H:SA}{k kp:SF}
def LJ{b:eG}{n:Int}(hk:k (bv (iq b n)) H):ba lv S_ 88 H [b.av,iv n] k kp:=by
 refine bH (rs:=[.tmp 4]) (nt:=15) Tryz.f88 λhH hA=> ?_;simp only[bm,Tu,eG.av,eG.l];refine ah ?_;refine ah ?_;refine yX (λh=> ?_) (λh=> ?_)
 ·(try simp only[seval]);refine aT ?_;exact jg hH (by simpa[iq,h]using hk)
 ·(try simp only[seval]);refine aT ?_;exact jg hH (by simpa[iq,h]using hk)
def aaQ{h:SD}{n:Int}(h4:h.length=4)(hk:k (iv (iu h n)) H):ba lv S_ 90 H [.agg (h.map iv),iv n] k kp:=by
 refine bH (rs:=[.tmp 4]) (nt:=24) Tryz.f90 λhH hA=> ?_;simp only[bm,Tu];have o4:(h.map iv).length=4:=by simp[h4]
 refine ah ?_;refine ah ?_;refine bF ?_;refine pL 3 (λi:Nat=>[(6,iv i)]) (λ_=>_) (λi=>iu h n=fM i (h.drop i) n) rfl (λbz bE i ce hi R hR=> ?_);refine ah ?_;refine aB ?_;refine⟨λhc=> ?_,λhc=> ?_⟩
 ·
  have qV:i<3:=by omega
  obtain⟨a,ha⟩:=bA (xs:=h) (i:=i) (by omega);obtain⟨b,hb⟩:=bA (xs:=h) (i:=i+1) (by omega);have e4:(0<=(i:Int)/\(i:Int)<4)=True:=by simp;omega
  have e4':(0<=(i:Int)+1/\(i:Int)+1<4)=True:=by simp;omega
  have hw:Tg.wrap ((i:Int)+1)=(i:Int)+1:=a_ _ (by omega);have p9:((i:Int)+1).toNat=i+1:=by omega
  have lM:fM i (h.drop i) n=if a<=n/\n<b then(i:Int)else fM (i+1) (h.drop (i+1)) n:=by
   rw[xb ha,xb hb];simp only[fM]
  refine aE ?_;refine ah ?_;refine ab ?_;simp only[seval,e4,e4',hw,p9,ky ha,ky hb];refine yX (λh2=> ?_) (λh2=> ?_)
  ·(try simp only[seval,e4,e4',hw,p9,ky ha,ky hb]);refine aB ?_;refine⟨λh3=> ?_,λh3=> ?_⟩
   ·refine ah ?_;refine aT ?_;rw[hi,lM,if_pos ⟨of_decide_eq_true h2,h3⟩]at hk;exact jg hH hk
   ·refine aE ?_;refine ab ?_;simp only[seval,hw];refine hR _ ⟨by omega,?_,bX⟩;rw[hi,lM,if_neg (λq=>h3 q.2)]
  ·(try simp only[seval]);refine aB ?_;refine aE ?_;refine ab ?_;simp only[seval,hw];refine hR _ ⟨by omega,?_,bX⟩;rw[hi,lM,if_neg (λq=>by simp at h2;omega)]
 ·
  have:i=3:=by omega
  subst this;refine bD ?_;refine ah ?_;refine aT ?_;have hm:fM 3 (h.drop 3) n= -1:=by
   match h,h4 with
   |[a,b,c,d],_=>rfl
  rw[hi,hm]at hk;exact jg hH hk
def vu{m n:Nat}(hm:m<65536)(hk:k (bv (m.testBit n)) H):ba lv S_ 67 H [wv m,iv n] k kp:=by
 refine bH (rs:=[.tmp 4]) (nt:=10) Tryz.f67 λhH hA=> ?_;simp only[bm,Tu];refine ah ?_;refine ab ?_;simp only[seval,Dc,agW];refine aT ?_;refine b8 ?_;rw[amh hm];exact hk
def vv{m n:Nat}(hm:m<65536)(hn:n<16)(hk:k (wv (m|||2^n)) H):ba lv S_ 68 H [wv m,iv n] k kp:=by
 refine bH (rs:=[.tmp 4]) (nt:=9) Tryz.f68 λhH hA=> ?_;simp only[bm,Tu];refine ah ?_;refine ab ?_;simp only[seval,ag8,Db];refine aT ?_;refine b8 ?_;rw[avh hm hn];exact hk
def Hc{h:SD}{y:aD}(hh:jO h)(hk:k (wv (cx h y)) H):ba lv S_ 65 H [.agg (h.map iv),y.av] k kp:=by
 refine bH (rs:=[.tmp 4]) (nt:=34) Tryz.f65 λhH hA=> ?_;simp only[bm,Tu,aD.av,aD.l];obtain⟨a,b,c,d,rfl,ha,hb,hc,hd,hs⟩:=hh.out;have pU:cx [a,b,c,d] y=jQ (lZ [a,b,c,d] y) (d-a).toNat:=alt hs;have hz:wv (jQ (lZ [a,b,c,d] y) 0)=wv 0:=rfl;refine ah ?_;refine ah ?_;refine ah ?_;refine bF ?_;refine ej (d-a).toNat (λi:Nat=>[(6,iv (a+i)),(5,wv (jQ (lZ [a,b,c,d] y) i))]) (λ_=>_) (λi=>True) (λ_ _=>rfl) (by rw[hz];simp only[seval];simp[bh,Wk.refl];exact Wk.refl _) rfl (λ_ _ _=>rfl) trivial (λbz bE i ce hi R hR=> ?_);refine ah ?_;refine aB ?_;have cT:jQ (lZ [a,b,c,d] y) i<65536:=Uk GO (UK (VY (by omega) (show i<=16 by omega)) (by decide));refine⟨λhc=> ?_,λhc=> ?_⟩
 ·
  have hlt:i<(d-a).toNat:=by omega
  have hw:Tg.wrap (a+(i:Int)+1)=a+((i+1:Nat):Int):=by rw[a_ _ (by omega)];push_cast;omega
  have c_:Tg.wrap (a+(i:Int)-a)=(i:Int):=by rw[a_ _ (by omega)];omega
  have HJ:lZ [a,b,c,d] y i=(iq y.number (a+i)&&iq y.hour (iu [a,b,c,d] (a+i))):=by
   unfold lZ;rw[show decide ([a,b,c,d].getD 0 0+(i:Int)<[a,b,c,d].getD 3 0)=true from decide_eq_true (show a+(i:Int)<d by omega),Vt];rfl
  refine aE ?_;refine bF ?_;refine eA 12 ?_;simp only[seval];refine fE (bv (iq y.number (a+i))) (cP (LJ (b:=y.number) ⟨rfl,rfl⟩)) ?_;(try simp only[seval]);refine yX (λh2=> ?_) (λh2=> ?_)
  ·(try simp only[seval]);refine fE (iv (iu [a,b,c,d] (a+i))) (cP (aaQ (h:=[a,b,c,d]) rfl ⟨rfl,rfl⟩)) ?_;(try simp only[seval]);refine fE (bv (iq y.hour (iu [a,b,c,d] (a+i)))) (cP (LJ (b:=y.hour) ⟨rfl,rfl⟩)) ?_;(try simp only[seval]);refine aB ?_;rw[h2,Vt]at HJ;refine⟨λh3=> ?_,λh3=> ?_⟩
   ·refine ab ?_;simp only[seval,c_];refine aG (vv cT (show i<16 by omega) ?_);(try simp only[seval]);refine ab ?_;simp only[seval,hw];refine hR _ ⟨by omega,trivial,?_⟩;rw[show jQ (lZ [a,b,c,d] y) (i+1)=jQ (lZ [a,b,c,d] y) i|||2^i from by rw[jQ,HJ,h3];rfl];exact bX
   ·refine aE ?_;refine ab ?_;simp only[seval,hw];refine hR _ ⟨by omega,trivial,?_⟩;rw[show jQ (lZ [a,b,c,d] y) (i+1)=jQ (lZ [a,b,c,d] y) i from by rw[jQ,HJ,h3];rfl];exact bX
  ·(try simp only[seval]);refine aB ?_;refine aE ?_;refine ab ?_;simp only[seval,hw];refine hR _ ⟨by omega,trivial,?_⟩;rw[show jQ (lZ [a,b,c,d] y) (i+1)=jQ (lZ [a,b,c,d] y) i from by rw[jQ,HJ,show iq y.number (a+i)=false by simpa using h2];rfl];exact bX
 ·have:i=(d-a).toNat:=by omega
  subst this;refine bD ?_;refine ah ?_;refine aT ?_;rw[pU]at hk;exact jg hH hk
end
end Go.Gg
