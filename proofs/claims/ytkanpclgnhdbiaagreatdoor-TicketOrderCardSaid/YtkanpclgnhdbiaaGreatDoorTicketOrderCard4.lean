/- A part of the proof. -/
import Derived.Test.YtkanpclgnhdbiaaGreatDoorTicketOrderCard3
set_option linter.all false
set_option maxRecDepth 4000
set_option maxHeartbeats 4000000
open Array renaming getD_eq_getD_getElem?->SI,getElem?_eq_getElem->SJ,getElem?_eq_some_iff->SS,getElem?_modify->Wj,getElem_mem->XX,replicate->TE
open Bool renaming and_eq_true->Ti,and_false->Yb,and_self->ac',eq_iff_iff->UI,false_and->Xr,false_or->Zv,not_eq_true'->TV,or_false->YE,true_and->U5
open Classical renaming byContradiction->Tt
open Function renaming comp_apply->Wi
open Go renaming Code->T7,Oper->Tx,Program->SK,Value->SO
open Go.BinOp renaming neq->VW
open Go.IntKind renaming i64->SF,u16->S7
open Go.Obj renaming deferred->atI
open Go.Op renaming equal->Xj
open Go.Proofs.Tryz renaming f15->XC,f34->ZK,f39->ZJ,f53->ao',prog->SC
open Go.Region renaming linearise->XB,schedule->Vf,wanted->Tc
open Go.Region.linearise renaming go->Us
open Go.Value renaming agg->TD,bool->Xd,int->SG,slice->Ur
open Int renaming le_refl->Zq,le_trans->XH,mul_le_mul->Yg,toNat->X_,toNat_natCast->Vz
open List renaming all_eq_true->Tv,any_append->Zy,any_cons->YS,any_eq_true->UL,append_assoc->SD,append_eq->Vq,append_eq_nil_iff->YC,append_nil->SZ,cons_append->VE,contains_append->YQ,contains_eq_mem->Up,contains_iff_mem->YI,countP_le_length->Xa,drop->UD,drop_append->Vv,drop_append_of_le_length->Wq,drop_eq_getElem_cons->TW,drop_length->ZH,drop_of_length_le->WY,drop_zero->XA,exists_mem_of_ne_nil->WO,ext_getElem?->Yo,filter_congr->Vj,filter_eq_nil_iff->YB,flatMap_append->Vs,flatMap_cons->Uo,flatMap_def->WT,flatMap_eq_nil_iff->WS,flatMap_map->WR,foldl_append->XP,foldl_cons->UY,forall_mem_cons->Xi,getD_cons_succ->Xh,getD_cons_zero->Xp,getD_eq_getElem?_getD->SE,getElem?_append_left->SW,getElem?_append_right->Tg,getElem?_drop->Ul,getElem?_eq_getElem->SP,getElem?_eq_none->Uu,getElem?_eq_some_iff->SN,getElem?_map->Tj,getElem?_of_mem->VI,getElem?_range->Xz,getElem?_set->UT,getElem?_set_ne->T5,getElem?_take->Ua,getElem_mem->VF,getLast?_eq_getElem?->Ye,getLastD_cons->Zp,getLastD_eq_getLast?->Vh,head?_append->WQ,head?_cons->ZR,length->Z8,length_append->SQ,length_cons->Uh,length_drop->Uk,length_eraseIdx_of_lt->X9,length_map->To,length_nil->UQ,length_pos_iff->Vx,length_replicate->YH,length_set->TQ,length_singleton->T6,length_take->T_,map->U2,mapM_cons->Ue,mapM_nil->UF,map_append->TF,map_congr_left->VA,map_cons->UW,map_flatMap->Vu,map_map->X2,map_take->VU,mem_append->SV,mem_append_left->Th,mem_append_right->S5,mem_cons->SL,mem_cons_of_mem->Ta,mem_cons_self->TC,mem_filter->Uj,mem_flatMap->S6,mem_iff_getElem?->UP,mem_map->Tn,mem_of_getElem?->Tf,mem_of_mem_take->Wu,mem_range->TG,mem_reverse->XN,mem_singleton->Tb,nil_append->Uw,nodup_append->U8,nodup_cons->VS,nodup_iff_pairwise_ne->Uv,nodup_nil->WN,nodup_range->XZ,not_mem_nil->S4,pairwise_iff_getElem->WM,pairwise_map->XM,range->S0,range'->T4,range'_succ->VR,range_eq_range'->Vo,range_succ->Vk,range_zero->Zx,replicate->TL,reverse_cons->Zg,set_append_left->Wz,set_append_right->UO,set_cons_succ->UC,set_cons_zero->TY,take->Un,take_add_one->VJ,take_append_drop->Vg,take_append_of_le_length->Tw,take_eq_nil_iff->YP,take_length->TP,take_of_length_le->SY,take_set->Z7,take_sublist->Zf,take_succ_cons->VQ,take_succ_eq_append_getElem->XL,take_take->U1,take_zero->an_
open List.Nodup renaming sublist->Yp
open List.Pairwise renaming imp->Y_,imp_of_mem->Xw
open List.Perm renaming nodup_iff->ap',refl->ae'
open List.cons renaming injEq->YR
open Nat renaming add_assoc->XG,add_sub_cancel->VH,add_sub_cancel_left->UR,add_zero->UK,le_refl->SU,le_trans->UB,lt_irrefl->ai_,lt_or_ge->YG,lt_succ_self->Um,min_eq_left->Wx,pow_le_pow_right->ZO,reduceAdd->SX,reduceSub->Yt,sub_self->U6,sub_zero->Z0,succ_mul->XF,testBit_or->Xo,testBit_two_pow->VP,zero_add->Wt,zero_testBit->WV
open Option renaming bind_eq_bind->TS,getD_some->S8,map_some->UN,pure_def->Uf
open Option.some renaming injEq->Tm
namespace Go.Gg
open Go.Conc Go.Proofs Go.Gg.Tk
namespace Tk
def vz (hour:Nat)(hs:List (List Int)):ie:=hs.foldl (λb h=>b.add (h.getD hour 0)) ⟨0,0,false⟩
end Tk
section
variable {lv:Bool}{H:List aa}{k kp:AV->List aa->Prop}
theorem ah2{x:aj}{hour:Nat}{ih ir:Nat}(hh:(hour:Int)<=x.hours)(h1:H[ih]?=some (.cells [iv hour] 3))(hr:H[ir]?=some (.cells x.l 26))(hk:k (bv true) H):bc lv SC 73 H [.op ih 0,.op ir 0] k kp:=by
 refine bH (rs:=[.tmp 2]) (nt:=8) Tryz.f73 λhH hA=> ?_;simp only[br,SX];have bO:x.l=[iv x.first,iv x.hours,iv x.an,ek x.seen,bi x.pieces,bi x.aB]:=rfl;have cW:(decide ((hour:Int)<0)||decide ((hour:Int)>x.hours))=false:=by simp;omega
 refine ai ?_;refine ak ?_;simp only[seval,h1,hr,bO];refine aK ((sI ?_));(try simp only[seval,cW]);refine aZ ?_;exact cm hk
theorem ahN{x:aj}{hour:Nat}(hx:x.Ok)(hh:(hour:Int)<=x.hours)(hm:H[0]?=some .main)(hk:∀D,eB x 0 D->(D.has=false->k (.aJ [.agg [iv 0,iv 0],iv 11]) H)/\(D.has=true->∀hs:List (List Int),hs.Perm D.aL->k (.aJ [.agg [iv (vz hour hs).lo,iv (vz hour hs).hi],iv 0]) H)):bc true SC 36 H [x.av,iv hour] k kp:=by
 refine bH (rs:=[.cell 4 46,.tmp 5]) (nt:=41) Tryz.f36 λhH hA=> ?_;simp only[br,SX,aj.av];have hp:=hx.an;have Kf:=hx.hours;obtain⟨p,dY⟩:∃p:Nat,x.an=p:=⟨x.an.toNat,by omega⟩;have aS:∀(L:List aa),(H++L)[H.length]?=L[0]?:=λL=>aW H L 0;have de:∀(L:List aa),(H++L)[H.length+1]?=L[1]?:=λL=>aW H L 1;have ki:∀(L:List aa),(H++L)[H.length+2]?=L[2]?:=λL=>aW H L 2;have fY:∀(L:List aa)(y:aa),(H++L).set (H.length+2) y=H++L.set 2 y:=λL y=>ez H L 2 y;have bf:x.l.length=6:=rfl;have dZ:Un 6 x.l=x.l:=rfl;refine ai ?_;refine ak ?_;simp only[seval,aS,bf,dZ,Ue,UF,Uf,TS];refine aK ((xe (x:=x) (b:=true) hx dY (fF hm) (λL k kp hk=>cO (ah2 hh (by rw[SD,de];rfl) (by rw[SD,aS];rfl) hk)) (λh=>by cases h) λ_ js D L mp gU gT bS rB hg=> ?_));have eD:eB x 0 D:=⟨p,js,dY,gU,gT,bS⟩;have bR:=Kn.len bS mp;have ep:=tr D mp;obtain⟨gV,ce⟩:=hk D eD;obtain⟨Bf,oi⟩:∃Bf:List AV->List aa,∀l,Bf l=H++([aa.cells x.l 26,.cells [iv hour] 3,.cells l 46]++L):=⟨_,λ_=>rfl⟩;have oX:H++[aa.cells x.l 26,.cells [iv hour] 3,.cells [iv 0,iv 0] 46]++L=Bf [iv 0,iv 0]:=by rw[oi,SD]
 obtain⟨N,hN⟩:∃N,N=H.length+3+L.length:=⟨_,rfl⟩;have fS:∀l,(Bf l).length=N:=λl=>by rw[oi,hN];simp;omega
 have b1:∀l (L':List aa),(Bf l++L')[H.length+1]?=some (.cells [iv hour] 3):=λl L'=>by rw[oi,SD,de];rfl
 have b2:∀l (L':List aa),(Bf l++L')[H.length+2]?=some (.cells l 46):=λl L'=>by rw[oi,SD,ki];rfl
 have tZ:∀l l' (L':List aa),(Bf l++L').set (H.length+2) (.cells l' 46)=Bf l'++L':=λl l' L'=>by rw[oi,SD,fY,oi];simp
 have bn:∀l (L':List aa)(j:Nat),(Bf l++L')[N+j]?=L'[j]?:=λl L' j=>by rw[<- fS l,aW]
 have vA:∀l (L':List aa)(j:Nat)(y:aa),(Bf l++L').set (N+j) y=Bf l++L'.set j y:=λl L' j y=>by rw[<- fS l,ez]
 rw[oX]at hg⊢;have eK:∀(l:List AV)(L':List aa)(a b:Int)(m:Int),k (.aJ [.agg [iv a,iv b],iv m]) H->cw H.length (Bf l++L') (.aJ [.agg [iv a,iv b],iv m]) k:=λl L' a b m h=>by
  rw[oi,SD];exact iJ hH (Wk.refl _) (by simp[iE,eG,tu]) h
 (try simp only[seval,aj.av,bf,bR,fS]);refine⟨kx x,ep,?_⟩;cases gr:D.has with
 |false=>
  have hE:dQ D=11:=by rw[dQ,gr];rfl
  refine ak ?_;simp only[seval,hE,show ((11:Int)!=0)=true from rfl];refine aD ?_;refine ak ?_;simp only[seval,b2,tZ];refine oU ?_;simp only[seval,b2];exact eK _ _ 0 0 11 (gV gr)
 |true=>
  have hE:dQ D=0:=by rw[dQ,gr];rfl
  refine ak ?_;simp only[seval,hE,show ((0:Int)!=0)=false from rfl];refine aD ?_;refine aN ?_;refine ak ?_;simp only[seval,fS];refine ak ?_;simp only[seval,Ue,UF,Uf,TS];have o0:(D.l mp).drop 1=.mp mp::((D.l mp).drop 2):=rfl;obtain⟨ts,dV⟩:∃ts,ts=D.aL.zipIdx:=⟨_,rfl⟩;obtain⟨ck,EX⟩:∃ck,ck=D.aL.length:=⟨_,rfl⟩;have v5:∀l (L':List aa),(Bf l++L')[mp]?=some (.obj (.map (ts.map eI).toArray ck)):=λl L'=>by
   have h0:(Bf [iv 0,iv 0])[mp]?=some (setH D.aL):=hg;have aC:mp≠H.length+2:=λe=>by
    have:=b2 [iv 0,iv 0] [];rw[SZ,<- e,h0]at this;cases this
   have h1:(Bf l)[mp]?=some (setH D.aL):=by
    have:=tZ [iv 0,iv 0] l [];rw[SZ,SZ]at this;rw[<- this,T5 (λe=>aC e.symm)];exact h0
   rw[dV,EX];exact fF h1
  have p8:∀y∈ts,y.2<ck:=λy hy=>by rw[dV]at hy;have:=List.snd_lt_add_of_mem_zipIdx hy;omega
  have Cc:(ts.map (·.2)).Nodup:=by rw[dV,show (λy:List Int×Nat=>y.2)=Prod.snd from rfl,List.zipIdx_map_snd];exact List.nodup_range'
  have h4:∀y∈ts,y.1.length=4:=λy hy=>by rw[dV]at hy;exact bS.h4 _ (Ds hy)
  have dX:=OD ts ck p8;have K3:ts.map (·.1)=D.aL:=by rw[dV,show (λy:List Int×Nat=>y.1)=Prod.fst from rfl,List.zipIdx_map_fst]
  clear dV;refine ak ?_;simp only[seval,fS,bn,o0,v5];obtain⟨jY,ff⟩:∃jY:ie->Array Nat->List aa,∀b sn,jY b sn=Bf [iv 0,iv 0]++[.cells x.l 76,.cells (D.l mp) 88,.cells b.l 112,.iter mp ck sn ck]:=⟨_,λ_ _=>rfl⟩;have p1:∀b sn (L':List aa),(jY b sn++L')[H.length+1]?=some (.cells [iv hour] 3):=λb sn L'=>by rw[ff,SD];exact b1 _ _
  have p2:∀b sn (L':List aa),(jY b sn++L')[N+2]?=some (.cells b.l 112):=λb sn L'=>by rw[ff,SD,bn];rfl
  have p3:∀b sn (L':List aa),(jY b sn++L')[N+3]?=some (.iter mp ck sn ck):=λb sn L'=>by rw[ff,SD,bn];rfl
  have p3':∀b sn,(jY b sn)[N+3]?=some (.iter mp ck sn ck):=λb sn=>by have:=p3 b sn [];rwa [SZ]at this
  have p4:∀b sn (L':List aa),(jY b sn++L')[N+4]?=L'[0]?:=λb sn L'=>by rw[ff,SD,bn];rfl
  have pm:∀b sn (L':List aa),(jY b sn++L')[mp]?=some (.obj (.map (ts.map eI).toArray ck)):=λb sn L'=>by rw[ff,SD];exact v5 _ _
  have Mp:∀b sn,(jY b sn)[mp]?=some (.obj (.map (ts.map eI).toArray ck)):=λb sn=>by have:=pm b sn [];rwa [SZ]at this
  have s2:∀b sn b' (L':List aa),(jY b sn++L').set (N+2) (.cells (ie.l b') 112)=jY b' sn++L':=λb sn b' L'=>by rw[ff,SD,vA,ff,SD];rfl
  have s3:∀b sn M0,(jY b sn).set (N+3) (.iter mp ck M0 ck)=jY b M0:=λb sn M0=>by rw[ff,vA,ff];rfl
  have pl:∀b sn,(jY b sn).length=N+4:=λb sn=>by rw[ff];simp[fS]
  have aT:Bf [AV.val (SG SF 0),AV.val (SG SF 0)]++[.cells x.l 76,.cells (D.l mp) 88,.cells [AV.val (SG SF 0),AV.val (SG SF 0),AV.val (Xd false)] 112,.iter mp ck #[] ck]=jY ⟨0,0,false⟩ #[]:=by rw[ff];rfl
  rw[aT];have o6:hour<4:=by omega
  have b4:(0<=(hour:Int)/\(hour:Int)<4)=True:=by simp;omega
  have s46:∀b sn l,(jY b sn).set (H.length+2) (.cells l 46)=Bf l++[.cells x.l 76,.cells (D.l mp) 88,.cells b.l 112,.iter mp ck sn ck]:=λb sn l=>by rw[ff,tZ]
  have p46:∀b sn,(jY b sn)[H.length+2]?=some (.cells [iv 0,iv 0] 46):=λb sn=>by rw[ff,b2]
  have p2':∀b sn,(jY b sn)[N+2]?=some (.cells (ie.l b) 112):=λb sn=>by have:=p2 b sn [];rwa [SZ]at this
  refine cJ ?_;refine yL (measure λvs:List (List Int×Nat)=>ts.length-vs.length).wf (λvs=>[]) (λvs=>jY (vz hour (vs.map (·.1))) (vs.map (·.2)).toArray) (λvs=>(vs.map (·.2)).Nodup/\∀y∈vs,y∈ts) [] (λ_ _=>rfl) (by simp) rfl (λ_ _=>by simp[pl]) ⟨by simp,by simp⟩ (λcp dz vs am R hR=> ?_);refine ak ?_;simp only[seval,p3',Mp,s3];refine⟨dX.elim .inl (λh=> .inr (.inl h)),λe he hn=> ?_,λhs=> ?_⟩
  ·obtain⟨y,hy,rfl⟩:∃y∈ts,eI y=e:=(by simpa using he);refine aD ?_;refine aN ?_;refine cJ ?_;have sL:=h4 y hy;have JL:(eI y).born=y.2:=rfl;have hlen:(y.1.map iv).length=4:=(by simp[sL]);have JV:UD 4 [AV.val (SG SF 0),AV.val (SG SF 0),AV.val (SG SF 0),AV.val (SG SF 0)]=[]:=rfl;obtain⟨w,hw⟩:=cz (xs:=y.1) (i:=hour) (by omega);have K6:y.1.getD hour 0=w:=(by rw[SE,hw];rfl);have La:y.2∉vs.map (·.2):=(by simpa[eI]using hn);have FC:((vs.map (·.2)).toArray.push y.2)=((vs++[y]).map (·.2)).toArray:=(by simp);have ajq:(vz hour (vs.map (·.1))).add w=vz hour ((vs++[y]).map (·.1)):=by
    unfold vz;rw[TF,XP];show _=ie.add _ (y.1.getD hour 0);rw[K6]
   have sZ:((vs++[y]).map (·.2)).Nodup/\∀z∈vs++[y],z∈ts:=by
    refine⟨?_,λz hz=> ?_⟩
    ·rw[TF,U8];refine⟨am.1,by simp,λa ha b hb=> ?_⟩;simp at hb;subst hb;intro e;subst e;exact La ha
    ·rcases SV.1 hz with h|h
     ·exact am.2 z h
     ·rw[Tb.1 h];exact hy
   have asZ:vs.length<ts.length:=by
    have h1:(vs++[y]).Nodup:=CS _ sZ.1;have:=h1.length_le_of_subset sZ.2;simp at this;omega
   have rG:ts.length-(vs++[y]).length<ts.length-vs.length:=(by simp;omega);have Fv:∀b sn,bQ (jY b sn):=λb sn z hz=>by
    have Qj:bQ (jY ⟨0,0,false⟩ #[]):=cp;rw[pl];rw[ff]at hz;have cW:∀z,z∈jY ⟨0,0,false⟩ #[]->fj (N+4) z:=λz hz=>by
     have:=Qj z hz;rwa [pl]at this
    rcases SV.1 hz with h|h
    ·exact cW z (by rw[ff];exact Th _ h)
    ·simp only[SL,S4,or_false]at h;rcases h with rfl|rfl|rfl|rfl
     ·exact cW _ (by rw[ff];simp)
     ·exact cW _ (by rw[ff];simp)
     ·intro a ha;simp only[ie.l,SL,S4,or_false]at ha;rcases ha with rfl|rfl|rfl<;>exact .val _
     ·show mp<N+4;have:=eX (Mp ⟨0,0,false⟩ #[]);rwa [pl]at this
   refine ak ?_;simp only[seval,p3',Mp,s3,pl,p4,JL,Array.back?_push,PK Cc hy,abc,sL,hlen,JV];refine ak ?_;simp only[seval,p1,p4,b4,kW hw];refine aK ((ah3 (b:=vz hour (vs.map (·.1))) (v:=w) (i:=N+2) (p2 _ _ _) ?_));rw[s2,ajq,FC];(try simp only[seval]);refine hR _ ⟨vs++[y],rG,sZ,?_⟩;exact abJ (qv rfl rfl) (by simp only[seval]<;>simp[bA,Wk.refl]) (Fv _ _) (by simp[eG])
  ·have nL:vs.Perm ts:=abU am.1 Cc am.2 λy hy=>by
    have:=hs (eI y) (by simp;exact⟨y.1,y.2,hy,rfl⟩) (p8 y hy);simpa[eI]using this
   have KJ:(vs.map (·.1)).Perm D.aL:=by
    have:=nL.map (·.1);rw[K3]at this;exact this
   have aE:=ce gr _ KJ;generalize ET:vz hour (vs.map (·.1))=bv' at aE;refine aD ?_;refine bU ?_;refine ak ?_;simp only[seval,p2',p46,s46,ie.l,ET];refine oU ?_;simp only[seval,b2];exact eK _ _ _ _ 0 aE
end
open Go.Conc Go.Proofs Go.Gg.Tk
namespace Tk
end Tk
section
variable {lv:Bool}{H:List aa}{k kp:AV->List aa->Prop}
end
open Go.Conc Go.Proofs Go.Gg.Tk
namespace Tk
def zU (out n:Int):Int:=if 0<=n/\(out<0\/n<out)then n else out
def x7 (l:List Int):Int:=l.foldl zU (-1)
def ui (aV:List Nat)(i:Nat):List Int:=(S0 i).flatMap λs=>if 1<(fC (aV.getD s 0) 0 16).length then[-1]else fC (aV.getD s 0) 0 16
theorem Qa(aV:List Nat)(i:Nat):ui aV (i+1)=ui aV i++(if 1<(fC (aV.getD i 0) 0 16).length then[-1]else fC (aV.getD i 0) 0 16):=by
 unfold ui;rw[Vk,Vs];simp
theorem P_(aV:List Nat):∀i,(ui aV i).length<=i
 |0=>by simp[ui]
 |i+1=>by
  have:=P_ aV i;rw[Qa,SQ];split
  ·simp;omega
  ·omega
end Tk
theorem Dm{a a' b b':AV}(h1:Wk a a')(h2:Wk b b'):Wk (.aJ [a,b]) (.aJ [a',b']):=λE v h=>by
 cases h with
 |aJ hs h=>
  refine .aJ hs λi x e=> ?_
  match i with
  |0=>cases e;exact h1 _ _ (h 0 a rfl)
  |1=>cases e;exact h2 _ _ (h 1 b rfl)
open Go.Conc Go.Proofs Go.Gg.Tk
section
variable {lv:Bool}{H:List aa}{k kp:AV->List aa->Prop}
theorem ahF{x:aj}(hx:x.Ok)(hm:H[0]?=some .main)(hk:∀D,eB x 2 D->(D.has=false->k (.aJ [bk [],iv 11]) H)/\(D.has=true->k (.aJ [bk (ui D.aV x.aB.length),iv 0]) H)):bc true SC 26 H [x.av] k kp:=by
 refine bH (rs:=[.tmp 2,.tmp 3]) (nt:=39) Tryz.f26 λhH hA=> ?_;simp only[br,SX,aj.av];have hp:=hx.an;have aT:=hx.fi;obtain⟨p,dY⟩:∃p:Nat,x.an=p:=⟨x.an.toNat,by omega⟩;have bO:x.l=[iv x.first,iv x.hours,iv x.an,ek x.seen,bi x.pieces,bi x.aB]:=rfl;have aS:∀(L:List aa),(H++L)[H.length]?=L[0]?:=λL=>aW H L 0;have bf:x.l.length=6:=rfl;have dZ:Un 6 x.l=x.l:=rfl;refine ai ?_;refine ak ?_;simp only[seval,aS,bf,dZ];refine aK ((xe (x:=x) hx dY (fF hm) D4 (λh=>by cases h) λ_ js D L mp gU gT bS rB hg=> ?_));have eD:eB x 2 D:=⟨p,js,dY,gU,gT,bS⟩;have bR:=Kn.len bS mp;have ep:=tr D mp;obtain⟨gV,ce⟩:=hk D eD;obtain⟨Y,hY⟩:∃Y:List aa,Y=[aa.cells x.l 26]++L:=⟨_,rfl⟩;obtain⟨B,hB⟩:∃B,B=H++Y:=⟨_,rfl⟩;have oX:H++[aa.cells x.l 26]++L=B:=by rw[hB,hY,SD]
 have zm:∀(L':List aa),(B++L')[H.length]?=some (.cells x.l 26):=λL'=>by rw[hB,hY,SD,aS];rfl
 have bn:∀(L':List aa)(j:Nat),(B++L')[B.length+j]?=L'[j]?:=λL' j=>aW B L' j;have vA:∀(L':List aa)(j:Nat)(y:aa),(B++L').set (B.length+j) y=B++L'.set j y:=λL' j y=>ez B L' j y;have eK:∀(L':List aa)(ns:List Int)(e:End)(m:Int),k (.aJ [bk ns,iv m]) H->cw H.length (B++L') (.aJ [.sl ns.length (ns.map iv) e,iv m]) k:=λL' ns e m h=>by
  rw[hB,SD];exact iJ hH (Dm (iX _ _ _) (Wk.refl _)) (by simp[iE,eG,bk,tw]) h
 rw[oX];clear oX hg;(try simp only[seval,aj.av,bf,bR]);refine⟨kx x,ep,?_⟩;cases gr:D.has with
 |false=>
  have hE:dQ D=11:=by rw[dQ,gr];rfl
  refine ak ?_;simp only[seval,hE,show ((11:Int)!=0)=true from rfl];refine aD ?_;refine ai ?_;refine aZ ?_;exact eK _ [] .exact 11 (gV gr)
 |true=>
  have hE:dQ D=0:=by rw[dQ,gr];rfl
  refine ak ?_;simp only[seval,hE,show ((0:Int)!=0)=false from rfl];refine aD ?_;refine aN ?_;refine ai ?_
  (repeat apply gQ);refine vu (t:=7) (sz:=1) (el:=3) (by simp only[seval]<;>rfl) ?_
  have uq:UD 5 x.l=[.sl x.aB.length (x.aB.flatMap aH.l) .shut]:=rfl;refine ak ?_;simp only[seval,zm,uq];have Ba:∀(L':List aa),(B++L')[B.length+1]?=L'[1]?:=λL'=>bn L' 1;have yN:∀(L':List aa),(B++L')[B.length+2]?=L'[2]?:=λL'=>bn L' 2;have tZ:∀(L':List aa)(y:aa),(B++L').set (B.length+2) y=B++L'.set 2 y:=λL' y=>vA L' 2 y;obtain⟨gl,oz⟩:∃gl:Nat->List Int,∀i,gl i=ui D.aV i:=⟨_,λ_=>rfl⟩;have B1:gl 0=[]:=by rw[oz];rfl
  have Kc:∀i,(gl i).length<=i:=λi=>by rw[oz];exact P_ _ _
  refine cJ ?_;refine gP x.aB.length (λi:Nat=>[(7,.sl (gl i).length ((gl i).map iv) (.opn (B.length+2))),(22,iv i)]) (λi=>B++[.cells x.l 76,.cells (D.l mp) 88,.tail (gl i).length 1 3]) (λi=>True) (λ_ _=>rfl) (by rw[B1];simp only[seval];simp[bA,Wk.refl]) (by rw[B1];rfl) (λ_ _ _=>by simp) trivial (λcp dz i cW _ R hR=> ?_);refine ai ?_;refine aD ?_;refine⟨λh=> ?_,λh=> ?_⟩
  ·have bG:i<x.aB.length:=(by omega);obtain⟨u,hu⟩:=cz (xs:=D.aV) (i:=i) (by rw[bS.aV];omega);have lu:=bS.lX _ (Tf hu);have b3:(0<=(i:Int)/\(i:Int)<3)=True:=(by simp;omega);have fU:SF.wrap ((i:Int)+1)=((i+1:Nat):Int):=(by rw[bI _ (by omega)];rfl);have us:=Kn.C1 bS (mp:=mp) hu;have dg:gl (i+1)=gl i++(if 1<(fC u 0 16).length then[-1]else fC u 0 16):=by
    rw[oz,oz,Qa,SE,hu];rfl
   have Rh:=Kc i;have je:=LV u 0 16;refine aN ?_;refine ai ?_;refine ak ?_;simp only[seval,Ba,b3,us];refine aK ((En lu (by decide) ?_));(try simp only[seval,bk]);refine ai ?_;refine aD ?_;refine⟨λhb=> ?_,λhb=> ?_⟩
   ·refine ak ?_;simp only[seval,z1];(try refine⟨by decide,?_⟩);refine ak ?_;simp only[seval,yN,tZ];refine⟨by omega,?_⟩;refine ak ?_;simp only[seval,fU];have mN:1<(fC u 0 16).length:=(by have h2:(1:Int)<((fC u 0 16).length:Int):=(by simpa using hb);omega);rw[if_pos mN]at dg;refine hR _ ⟨bG,trivial,?_⟩;rw[dg,TF,SQ];exact dE
   ·refine aN ?_;refine ak ?_;simp only[seval,yN,tZ];refine⟨by omega,?_⟩;refine ak ?_;simp only[seval,fU];have mN:¬1<(fC u 0 16).length:=(by have h2:((fC u 0 16).length:Int)<=1:=(by simpa using hb);omega);rw[if_neg mN]at dg;refine hR _ ⟨bG,trivial,?_⟩;rw[dg,TF,SQ];exact dE
  ·have cS:i=x.aB.length:=(by omega);subst cS;refine bU ?_;refine ai ?_;refine aZ ?_;have aE:=ce gr;rw[<- oz]at aE;exact eK _ _ _ 0 aE
theorem ahZ{ns:List Int}{e:End}(jf:ns.length<=16)(hk:k (iv (x7 ns)) H):bc lv SC 69 H [.sl ns.length (ns.map iv) e] k kp:=by
 refine bH (rs:=[.tmp 2]) (nt:=26) Tryz.f69 λhH hA=> ?_;simp only[br,SX];refine ai ?_;refine ai ?_;refine ai ?_;refine cJ ?_;refine gP ns.length (λi:Nat=>[(3,iv (x7 (ns.take i))),(8,iv i)]) (λ_=>_) (λi=>True) (λ_ _=>rfl) (by simp only[seval];simp[bA,Wk.refl];exact Wk.refl _) rfl (λ_ _ _=>rfl) trivial (λcp dz i cW _ R hR=> ?_);refine ai ?_;refine aD ?_;refine⟨λh=> ?_,λh=> ?_⟩
 ·have bG:i<ns.length:=by omega
  obtain⟨n,hn⟩:=cz bG;have fU:SF.wrap ((i:Int)+1)=((i+1:Nat):Int):=by rw[bI _ (by omega)];rfl
  have dg:x7 (ns.take (i+1))=zU (x7 (ns.take i)) n:=by
   unfold x7;rw[VJ,hn,XP];rfl
  generalize x7 (ns.take i)=o at dg hR⊢;refine aN ?_;refine ak ?_;simp only[seval,fN hn,jR bG];by_cases c1:0<=n
  ·have d1:decide (n>=0)=true:=decide_eq_true c1;by_cases c2:o<0
   ·have d2:decide (o<0)=true:=decide_eq_true c2;refine ak ?_;simp only[seval,d1,d2];refine aD ?_;refine ai ?_;refine ak ?_;simp only[seval,fU];rw[zU,if_pos ⟨c1,.inl c2⟩]at dg;refine hR _ ⟨bG,trivial,?_⟩;rw[dg];exact dE
   ·have d2:decide (o<0)=false:=decide_eq_false c2;by_cases c3:n<o
    ·have d3:decide (n<o)=true:=decide_eq_true c3;refine ak ?_;simp only[seval,d1,d2,d3];refine aD ?_;refine ai ?_;refine ak ?_;simp only[seval,fU];rw[zU,if_pos ⟨c1,.inr c3⟩]at dg;refine hR _ ⟨bG,trivial,?_⟩;rw[dg];exact dE
    ·have d3:decide (n<o)=false:=decide_eq_false c3;refine ak ?_;simp only[seval,d1,d2,d3];refine aD ?_;refine aN ?_;refine ak ?_;simp only[seval,fU];rw[zU,if_neg (λhc=>hc.2.elim c2 c3)]at dg;refine hR _ ⟨bG,trivial,?_⟩;rw[dg];exact dE
  ·have d1:decide (n>=0)=false:=decide_eq_false c1;(repeat apply gQ);refine ae8 (by kernel_rfl) ?_;simp only[seval,d1];refine aD ?_;refine aN ?_;refine ak ?_;simp only[seval,fU];rw[zU,if_neg (λhc=>c1 hc.1)]at dg;refine hR _ ⟨bG,trivial,?_⟩;rw[dg];exact dE
 ·have:i=ns.length:=by omega
  subst this;refine bU ?_;refine ai ?_;refine aZ ?_;rw[TP];exact cm hk
end
namespace Tk
def aH.more (y:aH)(n:Int):aH:=⟨⟨y.number.min+n,y.number.max+n⟩,y.hour⟩
def l5 (h:List Int)(n:Int):Nat->Int
 |0=> -1
 |i+1=>if h.getD i 0<=n/\n<h.getD (i+1) 0 then i else l5 h n i
end Tk
section
variable {lv:Bool}{H:List aa}{k kp:AV->List aa->Prop}
theorem ahE{a b:Int}(hk:k (.agg [iv a,iv b]) H):bc lv SC 24 H [iv a,iv b] k kp:=by
 refine bH (rs:=[.cell 4 46]) (nt:=8) Tryz.f24 λhH hA=> ?_;simp only[br,SX];refine ai ?_;refine ai ?_;refine aZ ?_;exact iJ hH (Wk.refl _) (by simp[tu,eG]) hk
theorem PD{a b c:Int}(hk:k (Seen.av ⟨a,⟨b,c⟩⟩) H):bc lv SC 78 H [iv a,iv b,iv c] k kp:=by
 refine bH (rs:=[.cell 6 61]) (nt:=12) Tryz.f78 λhH hA=> ?_;simp only[br,SX];refine ai ?_;refine ai ?_;refine aZ ?_;exact iJ hH (Wk.refl _) (by simp[tu,eG]) hk
theorem qZ{a b c d:Int}(hk:k (aH.av ⟨⟨a,b⟩,⟨c,d⟩⟩) H):bc lv SC 79 H [iv a,iv b,iv c,iv d] k kp:=by
 refine bH (rs:=[.cell 8 48]) (nt:=16) Tryz.f79 λhH hA=> ?_;simp only[br,SX];refine ai ?_;refine ai ?_;refine aZ ?_;exact iJ hH (Wk.refl _) (by simp[tu,eG]) hk
theorem ahQ{h:List Int}{n:Int}{e:End}(hl:h.length<=4)(hk:k (iv (l5 h n (h.length-1))) H):bc lv SC 40 H [.sl h.length (h.map iv) e,iv n] k kp:=by
 refine bH (rs:=[.tmp 4]) (nt:=31) Tryz.f40 λhH hA=> ?_;simp only[br,SX];refine ai ?_;refine ai ?_;refine ai ?_;refine cJ ?_;refine gP (h.length-1) (λi:Nat=>[(5,iv (l5 h n i)),(6,iv i)]) (λ_=>_) (λi=>True) (λ_ _=>rfl) (by simp only[seval];simp[bA,Wk.refl];exact Wk.refl _) rfl (λ_ _ _=>rfl) trivial (λcp dz i cW _ R hR=> ?_);have fU:SF.wrap ((i:Int)+1)=((i+1:Nat):Int):=by rw[bI _ (by omega)];rfl
 refine ak ?_;simp only[seval,fU];refine aD ?_;refine⟨λhc=> ?_,λhc=> ?_⟩
 ·have bG:i+1<h.length:=by omega
  obtain⟨a,ha⟩:=cz (xs:=h) (i:=i) (by omega);obtain⟨b,hb⟩:=cz (xs:=h) (i:=i+1) bG;have gq:h.getD i 0=a:=by rw[SE,ha];rfl
  have dq:h.getD (i+1) 0=b:=by rw[SE,hb];rfl
  have iM:=jR (show i<h.length by omega);have uo:(0<=(i:Int)+1/\(i:Int)+1<(h.length:Int))=True:=by simp;omega
  have lS:((i:Int)+1).toNat=i+1:=by omega
  have dg:l5 h n (i+1)=if a<=n/\n<b then(i:Int)else l5 h n i:=by rw[l5,gq,dq]
  refine aN ?_;refine cJ ?_;by_cases c1:a<=n
  ·have d1:decide (a<=n)=true:=decide_eq_true c1;by_cases c2:n<b
   ·have d2:decide (n<b)=true:=decide_eq_true c2;refine ak ?_;simp only[seval,fN ha,fN hb,iM,uo,lS,d1,d2,fU];refine aD ?_;refine ai ?_;refine ak ?_;simp only[seval,fU];rw[if_pos ⟨c1,c2⟩]at dg;refine hR _ ⟨by omega,trivial,?_⟩;rw[dg];exact dE
   ·have d2:decide (n<b)=false:=decide_eq_false c2;refine ak ?_;simp only[seval,fN ha,fN hb,iM,uo,lS,d1,d2,fU];refine aD ?_;refine aN ?_;refine ak ?_;simp only[seval,fU];rw[if_neg (λhh=>c2 hh.2)]at dg;refine hR _ ⟨by omega,trivial,?_⟩;rw[dg];exact dE
  ·have d1:decide (a<=n)=false:=decide_eq_false c1;refine ak ?_;simp only[seval,fN ha,iM,d1];refine aD ?_;refine aN ?_;refine ak ?_;simp only[seval,fU];rw[if_neg (λhh=>c1 hh.1)]at dg;refine hR _ ⟨by omega,trivial,?_⟩;rw[dg];exact dE
 ·have cS:i=h.length-1:=by omega
  subst cS;refine bU ?_;refine ai ?_;refine aZ ?_;exact cm hk
end
open Go.Conc Go.Proofs Go.Gg.Tk
namespace Tk
end Tk
section
variable {lv:Bool}{H:List aa}{k kp:AV->List aa->Prop}
end
open Go.Conc Go.Proofs Go.Gg.Tk
def vH (τ:bt)(ns:List Int):Int:=ns.getD (dI τ (ns.length-1)).toNat 0
section
variable {lv:Bool}{H:List aa}{k kp:AV->List aa->Prop}{Gf:bt->List aa}{t N:Nat}{τ:bt}{b:Int}
theorem IX{ns:List Int}{e:End}(hT:eg Gf t N)(hτ:τ.Ok b)(hb:b<2^60)(hn:1<=ns.length)(kH:ns.length<2^20)(hk:k (iv (vH τ ns)) (Gf (tick τ))):bc lv SC 45 (Gf τ) [.op t 0,.sl ns.length (ns.map iv) e] k kp:=by
 refine bH (rs:=[.tmp 4]) (nt:=13) Tryz.f45 λhH hA=> ?_;simp only[br,SX];have bZ:SF.wrap ((ns.length:Int)-1)=(ns.length:Int)-1:=bI _ (by omega);have hr:=mY τ ((ns.length:Int)-1);unfold vH at hk;obtain⟨j,hj⟩:=Int.eq_ofNat_of_zero_le hr.1;have eR:j<ns.length:=by omega
 obtain⟨v,hv⟩:=cz eR;rw[hj]at hk;have uF:ns.getD ((j:Int)).toNat 0=v:=by rw[Vz,SE,hv];rfl
 rw[uF]at hk;refine ai ?_;refine ak ?_;simp only[seval,bZ];refine aK ((sH hT hτ hb (by omega) ?_));rw[hj];(try simp only[seval,fN hv,jR eR]);refine aZ ?_;exact cm hk
end
def mH (τ:bt)(n m lo hi:Int):jq:=⟨max lo (n-dI τ m),min hi (n+dI (tick τ) m)⟩
def lL (τ:bt)(h:List Int)(n hours:Int):aH:=⟨mH τ n 2 0 99,mH (tick (tick τ)) (l5 h n (h.length-1)) 1 0 (hours-1)⟩
section
variable {lv:Bool}{k kp:AV->List aa->Prop}{Gf:bt->List aa}{t N:Nat}{τ:bt}{b:Int}
theorem IY{n m lo hi:Int}(hT:eg Gf t N)(hτ:τ.Ok b)(hb:b<2^30)(hn: -1000<=n/\n<=1000)(hm:0<=m/\m<=3)(hk:k (mH τ n m lo hi).av (Gf (tick (tick τ)))):bc lv SC 48 (Gf τ) [.op t 0,iv n,iv m,.agg [iv lo,iv hi]] k kp:=by
 refine bH (rs:=[.cell 8 46]) (nt:=26) Tryz.f48 λhH hA=> ?_;simp only[br,SX];have oq:eg (λτ=>Gf τ++[.cells [iv lo,iv hi] 46,.cells [iv 0,iv 0] 46]) t (N+2):=hT.more [_,_];have r1:=mY τ m;have r2:=mY (tick τ) m;have bZ:SF.wrap (n-dI τ m)=n-dI τ m:=bI _ (by omega);have gY:SF.wrap (n+dI (tick τ) m)=n+dI (tick τ) m:=bI _ (by omega);have Ca:(if lo<n-dI τ m then n-dI τ m else lo)=max lo (n-dI τ m):=by split<;>omega
 have qi:(if n+dI (tick τ) m<hi then n+dI (tick τ) m else hi)=min hi (n+dI (tick τ) m):=by split<;>omega
 refine ai ?_;refine qU [5,13,17] [0,1,2,3,4,5,6,7,8,9,10,11,12,13,14,15,16,17] [⟨0,false,[],[([5],[5]),([5,13],[5,13])]⟩,⟨1,false,[],[([5],[5]),([5,13],[5,13])]⟩,⟨2,false,[],[([5],[5]),([5,13],[5,13])]⟩,⟨3,false,[],[]⟩,⟨4,false,[],[]⟩,⟨5,true,[5],[]⟩,⟨6,false,[5],[([5,13],[5,13])]⟩,⟨7,false,[5],[([5,13],[5,13])]⟩,⟨8,false,[5],[([],[]),([5,13],[5,13])]⟩,⟨9,false,[5],[([],[]),([5,13],[5,13])]⟩,⟨10,false,[5],[([],[]),([5,13],[5,13])]⟩,⟨11,false,[5],[([],[])]⟩,⟨12,false,[5],[([],[])]⟩,⟨13,true,[5,13],[]⟩,⟨14,false,[5,13],[]⟩,⟨15,false,[5,13],[]⟩,⟨16,false,[5,13],[]⟩,⟨17,true,[5,13,17],[]⟩] (λD=>bif isDone 17 D then Gf (tick (tick τ))++[.cells [iv lo,iv hi] 46,.cells [iv (max lo (n-dI τ m)),iv (min hi (n+dI (tick τ) m))] 46]else bif isDone 13 D then Gf (tick (tick τ))++[.cells [iv lo,iv hi] 46,.cells [iv 0,iv 0] 46]else bif isDone 5 D then Gf (tick τ)++[.cells [iv lo,iv hi] 46,.cells [iv 0,iv 0] 46]else Gf τ++[.cells [iv lo,iv hi] 46,.cells [iv 0,iv 0] 46]) ?_;simp only[seval,hT.len,hT.g0,hT.g1,hT.g2,hT.g3,hT.h2,hT.h3,hT.s0,hT.s1,hT.s2,hT.s3,hT.t2,hT.t3,bZ,gY,Ca,qi];refine kY _ _ (cO (sH (oq) hτ (by omega) (by omega) ⟨rfl,rfl⟩)) ?_;(try simp only[seval,hT.len,hT.g0,hT.g1,hT.g2,hT.g3,hT.h2,hT.h3,hT.s0,hT.s1,hT.s2,hT.s3,hT.t2,hT.t3,bZ,gY,Ca,qi]);refine kY _ _ (cO (sH (oq) hτ.tick (by omega) (by omega) ⟨rfl,rfl⟩)) ?_;(try simp only[seval,hT.len,hT.g0,hT.g1,hT.g2,hT.g3,hT.h2,hT.h3,hT.s0,hT.s1,hT.s2,hT.s3,hT.t2,hT.t3,bZ,gY,Ca,qi]);refine oU ?_;simp only[seval,hT.len,hT.g0,hT.g1,hT.g2,hT.g3,hT.h2,hT.h3,hT.s0,hT.s1,hT.s2,hT.s3,hT.t2,hT.t3];exact jU (b:=(mH τ n m lo hi).av) (H':=Gf (tick (tick τ))) (Wk.refl _) rfl (by simp[hT.len]) (hT.am hH _) (by simp[jq.av,jq.l,tu,eG]) hk
theorem PB{h:List Int}{n hours:Int}{e:End}(hT:eg Gf t N)(hτ:τ.Ok b)(hb:b<2^20)(hl:h.length<=4)(hn: -1000<=n/\n<=1000)(hh:1<=hours/\hours<=3)(qt: -1<=l5 h n (h.length-1)/\l5 h n (h.length-1)<=4)(hk:k (lL τ h n hours).av (Gf (tick (tick (tick (tick τ)))))):bc lv SC 47 (Gf τ) [.op t 0,.sl h.length (h.map iv) e,iv n,iv hours] k kp:=by
 refine bH (rs:=[.cell 8 48]) (nt:=22) Tryz.f47 λhH hA=> ?_;simp only[br,SX];have um:∀o:aa,eg (λτ=>Gf τ++[o]) t (N+1):=λo=>hT.more [o];have bZ:SF.wrap (hours-1)=hours-1:=bI _ (by omega);refine ai ?_;refine ak ?_;simp only[seval,bZ];refine aK ((IY (n:=n) (m:=2) (lo:=0) (hi:=99) (um _) hτ (by omega) hn (by decide) ?_));(try simp only[seval]);refine aK ((ahQ (h:=h) (n:=n) hl ?_));(try simp only[seval,bZ]);refine aK ((IY (n:=l5 h n (h.length-1)) (m:=1) (lo:=0) (hi:=hours-1) (um _) hτ.tick.tick (by omega) (by omega) (by decide) ?_));(try simp only[seval,hT.len,hT.g0,hT.g1,hT.g2,hT.g3,hT.h2,hT.h3,hT.s0,hT.s1,hT.s2,hT.s3,hT.t2,hT.t3,jq.av,jq.l]);refine oU ?_;simp only[seval,hT.len,hT.g0,hT.g1,hT.g2,hT.g3,hT.h2,hT.h3,hT.s0,hT.s1,hT.s2,hT.s3,hT.t2,hT.t3];exact jU (b:=(lL τ h n hours).av) (H':=Gf (tick (tick (tick (tick τ))))) (Wk.refl _) rfl (by simp[hT.len]) (hT.am hH _) (by simp[aH.av,aH.l,tu,eG]) hk
end
end Go.Gg
namespace Go.Gg.Tk
def sr:List Int->Prop
 |a::b::l=>a<=b/\sr (b::l)
 |_=>True
theorem arc{h:List Int}{n:Int}(hl:2<=h.length)(qe:h.length<=4)(hm:sr h):l5 h n (h.length-1)=gK h n:=by
 match h,hl,qe,hm with
 |[a,b],_,_,hm=>
  simp only[gK,dK,l5,Uh,UQ,Xp,Xh,SX,Yt]
 |[a,b,c],_,_,hm=>
  obtain⟨h1,h2,_⟩:=hm;simp only[gK,dK,l5,Uh,UQ,Xp,Xh,SX,Yt];split<;>split<;>first|rfl|omega
 |[a,b,c,d],_,_,hm=>
  obtain⟨h1,h2,h3,_⟩:=hm;simp only[gK,dK,l5,Uh,UQ,Xp,Xh,SX,Yt];split<;>split<;>first|rfl|omega|(split<;>first|rfl|omega)
end Go.Gg.Tk
namespace Go.Gg
open Go.Conc
section
variable {lv:Bool}{P:SK}{r:Option Nat}{o:Tx}{s:AS}{next:AS->Prop}{bad:AV->AS->Prop}
end
section
variable (lv:Bool)(P:SK)(r:Option Nat)
def AP:List Tx->AS->(AS->Prop)->(AV->AS->Prop)->Prop
 |[],s,K,_=>K s
 |o::rest,s,K,bad=>o.guard=none/\Step lv P r o s (λs'=>AP rest s' K bad) bad
end
section
variable {lv:Bool}{P:SK}{r:Option Nat}{s:AS}
theorem aco{nt:Nat}{all:Array Tx}{Φ:ao->AS->Prop}(cR:∀o∈all,∀d,o.dst=some d->d<nt)(nB:∀o∈all,r=none\/mo o.op=false):∀(n k:Nat)(s:AS),k+n=all.size->AP lv P r (all.toList.drop k) s (Φ .normal) (λpv s=>Φ (.panic pv) s)->
  ∀(E:Env)(V:View)(a:Act)(Q:Ex->Act->View->Prop),At E V s a nt->(∀ae e E' V' a' s',Kept E E' V V' a a'->At E' V' s' a' nt->pI E' ae e->Φ ae s'->Q e a' V')->da lv P r all Q (T4 k n) a V
 |0,k,s,hk,h,E,V,a,Q,ah,hQ=>by
  have:all.toList.drop k=[]:=by simp;omega
  rw[this]at h;exact hQ .normal .normal E V a s (Kept.refl E V a) ah trivial h
 |n+1,k,s,hk,h,E,V,a,Q,ah,hQ=>by
  have hlt:k<all.size:=by omega
  have hd:all.toList.drop k=all[k]::all.toList.drop (k+1):=by
   rw[TW (by simpa using hlt)];simp
  rw[hd]at h;have fI:all[k]∈all:=XX hlt;have ho:all[k]?=some all[k]:=SJ hlt;simp only[VR,da,ho];obtain⟨hg,h⟩:=h;have hw:Tc all[k] (yielded all a.tmps)=true:=by unfold Tc;rw[hg]
  rw[if_pos hw];refine .inl (h E V a _ Q ah.bm ah.tok (λd e=>by rw[ah.size];exact cR _ fI d e) (nB _ fI) (λE' V' a' s' aE ba ml hn=> ?_) (λE' V' s' pv v aE ba ml bp hb=> ?_))
  ·exact aco cR nB n (k+1) s' (by omega) hn E' V' a' Q ⟨ba,ml,aE.size.trans ah.size⟩ (λae e bE aP bT b8 fW cQ he hΦ=>hQ ae e bE aP bT b8 (aE.trans fW) cQ he hΦ)
  ·exact hQ (.panic pv) (.panic _) E' V' a s' aE ⟨ba,ml,ah.size⟩ ⟨v,rfl,bp⟩ hb
theorem ae7{nt id:Nat}{ops:Array Tx}{Φ:ao->AS->Prop}(hd:jT nt ops=true)(h:AP lv P r ops.toList s (Φ .normal) (λpv s=>Φ (.panic pv) s)):aX lv P r nt (.region id ops false) s Φ:=by
 intro E V a Q ah hQ;refine wp_region ?_;rw[Vo];exact aco (Φ:=Φ) (λo ho d e=>(jT.out hd ho).1 d e) (λo ho=> .inr (jT.out hd ho).2) ops.size 0 s (by omega) (by simpa using h) E V a Q ah hQ
end
section
variable {lv:Bool}{P:SK}{r:Option Nat}{o:Tx}{s:AS}{next:AS->Prop}{bad:AV->AS->Prop}
theorem H9{nt id:Nat}{c:T7}{l:List AV}{el:TypeId}{Φ:ao->AS->Prop}(cu:s.H[id]?=some (.cells l el))(h:aX lv P r nt c ⟨s.T,s.H.set id (.part l.length l el)⟩ Φ):aX lv P r nt c s Φ:=λE V a Q ah hQ=>by
 have hc:=ah.bm;obtain⟨⟨cs,jg,hd⟩,nE⟩:=hc.obj id _ cu;have g:ee V (V.iz (E.blk id) cs (λo=>decide (o<l.length))):=y8 jg (λo _=>nE o);refine WP.ghost g ?_;have hI:∀b o v,E.I b o=some v->(V.iz (E.blk id) cs (λo=>decide (o<l.length))).ab b o=some v:=λb o v e=>by
  rw[hc.I]at e;have hb:b≠E.blk id:=λhb=>by rw[hb,nE]at e;cases e
  simp only[View.iz];rw[if_neg (λx=>hb x.1)];exact e
 have hle:E.Le {E with I:=(V.iz (E.blk id) cs (λo=>decide (o<l.length))).ab}:=⟨hI,SU _,λ_ _=>rfl,λ_ _=>SU _,λ_ _ _ _=>rfl,rfl,rfl⟩;have cE:Conc {E with I:=(V.iz (E.blk id) cs (λo=>decide (o<l.length))).ab} (V.iz (E.blk id) cs (λo=>decide (o<l.length))) (s.H.set id (.part l.length l el)):=by
  refine hc.iW id _ hle rfl (by rw[TQ];exact hc.n) lW rfl (λ_ _ _=>rfl) (λb y fq hy=>⟨hy,λo=> ?_⟩) ⟨⟨cs,jg,(hd.mono hle).p,λo ho=> ?_⟩,λo ho=> ?_⟩ (λb hb=> .inl ⟨_,cu,hb⟩)
  ·have hb:b≠E.blk id:=λhb=>fq _ cu (by rw[hb];rfl);simp only[View.iz];rw[if_neg (λx=>hb x.1)]
  ·simp only[View.iz];rw[if_pos ⟨trivial,by simpa using ho⟩]
  ·simp only[View.iz];rw[if_neg (λx=>by have:=x.2;simp at this;omega)];exact nE o
 exact h _ _ a Q ⟨cE,ah.tok.mono hle,ah.size⟩ λae e E' aP a' s' hk=>hQ ae e E' aP a' s' ((⟨hle,rfl,rfl,rfl,rfl⟩:Kept E _ V (V.iz (E.blk id) cs (λo=>decide (o<l.length))) a a).trans hk)
def AW (H:List aa)(b a:AV):Prop:=∀E V v,Conc E V H->aq E b v->aq E a v
theorem AW.of{H:List aa}{b a:AV}(h:Wk b a):AW H b a:=λE _ v _ d=>h E v d
theorem No{H:List aa}{id n cap m p:Nat}{l:List AV}{el:TypeId}(cu:H[id]?=some (.part p l el))(hm:m<=p)(hp:p<=l.length):AW H (.bK id 0 n cap) (.sl n (l.take m) .shut):=λE V v hc hd=>by
 cases hd with
 |bK hi dT=>
  rename_i cap';obtain⟨⟨cs,ho,E_,uu⟩,_⟩:=hc.obj id _ cu;refine .sl (E.blk id) 0 cap' (λi=>cs.getD i undef) dT.1 trivial (λi cG=> ?_) (λi x hx=> ?_)
  ·rw[T_]at cG;have hlt:i<cs.size:=(by have:=E_.1;omega);rw[hc.I,Wt,uu i (by omega),SI,SJ hlt];rfl
  ·rw[Ua]at hx;split at hx
   ·exact E_.2 i x hx
   ·cases hx
theorem afc{nt id j:Nat}{c:T7}{l:List AV}{x y:AV}{el:TypeId}{Φ:ao->AS->Prop}(cu:s.H[id]?=some (.cells l el))(hj:l[j]?=some x)(hw:AW s.H x y)(h:aX lv P r nt c ⟨s.T,s.H.set id (.cells (l.set j y) el)⟩ Φ):aX lv P r nt c s Φ:=λE V a Q ah hQ=>by
 have hc:=ah.bm;obtain⟨⟨cs,jg,hd⟩,nE⟩:=hc.obj id _ cu;have cE:Conc E V (s.H.set id (.cells (l.set j y) el)):=
  hc.iW id _ (Env.Le.refl _) hc.I (by rw[hc.n,TQ]) lW rfl (λ_ _ _=>rfl) (λb y _ hy=>⟨hy,λ_=>rfl⟩) ⟨⟨cs,jg,O4 hd hj (λv d=>hw E V v hc d)⟩,nE⟩ (λb dq=> .inl ⟨_,cu,dq⟩)
 exact h E V a Q ⟨cE,ah.tok,ah.size⟩ hQ
theorem Oj{nt t:Nat}{c:T7}{x y:AV}{Φ:ao->AS->Prop}(ht:look s.T t=some x)(hw:AW s.H x y)(h:aX lv P r nt c ⟨(t,y)::s.T,s.H⟩ Φ):aX lv P r nt c s Φ:=λE V a Q ah hQ=>by
 refine h E V a Q ⟨ah.bm,λt' b e=> ?_,ah.size⟩ hQ;simp only[look]at e;split at e
 ·rename_i e';subst e';cases e;exact⟨(ah.tok t x ht).1,hw E V _ ah.bm (ah.tok t x ht).2⟩
 ·exact ah.tok t' b e
end
open Go.Proofs Go.Gg.Tk
def iw (τ:bt)(n:Nat):Nat->List Int×bt
 |0=>(TL n 0,τ)
 |i+1=>(((iw τ n i).1.set i ((iw τ n i).1.getD (dI (iw τ n i).2 i).toNat 0)).set (dI (iw τ n i).2 i).toNat i,tick (iw τ n i).2)
theorem zW(τ:bt)(n:Nat):∀i,(iw τ n i).1.length=n
 |0=>YH
 |i+1=>by rw[iw,TQ,TQ,zW τ n i]
theorem Gq{τ:bt}{b:Int}(h:τ.Ok b)(n:Nat):∀i:Nat,(iw τ n i).2.Ok (b+i)
 |0=>h.mono (by simp)
 |i+1=>(Gq h n i).tick.mono (by simp;omega)
theorem ado(n:Nat):gM (SG .i64 0) n=(TL n (0:Int)).map iv:=by
 have h:∀i∈S0 n,AV.pB ((SG SF 0).cells[i % (SG SF 0).cells.size]!)=iv 0:=λi _=>by
  rw[show (SG SF 0).cells.size=1 from rfl,Nat.mod_one];rfl
 rw[List.map_replicate];unfold gM;rw[VA h,List.map_const',List.length_range]
section
variable {lv:Bool}{k kp:AV->List aa->Prop}{Gf:bt->List aa}{t N:Nat}{τ:bt}{b:Int}
theorem Px{n:Nat}(hT:eg Gf t N)(hτ:τ.Ok b)(hb:b<2^30)(hn:n<=2^20)(hk:k (bk (iw τ n n).1) (Gf (iw τ n n).2)):bc lv SC 37 (Gf τ) [.op t 0,iv n] k kp:=by
 refine bH (rs:=[.tmp 4]) (nt:=30) Tryz.f37 λhH hA=> ?_;simp only[br,SX];have um:∀o:aa,eg (λτ=>Gf τ++[o]) t (N+1):=λo=>hT.more [o];refine ai ?_;refine ak ?_;simp only[seval,ado,hT.len];refine⟨by omega,by omega,?_⟩;refine ai ?_;refine cJ ?_;refine gP n (λi:Nat=>[(6,iv i)]) (λi=>Gf (iw τ n i).2++[.cells ((iw τ n i).1.map iv) 3]) (λ_=>True) (λ_ _=>rfl) (by simp only[seval];simp[bA,Wk.refl]) rfl (λ_ _ _=>by simp[hT.len]) trivial (λcp dz i cW hi R hR=> ?_);clear cp dz;refine ai ?_;refine aD ?_;refine⟨λh=> ?_,λh=> ?_⟩
 ·have bG:i<n:=by omega
  have am:=Gq hτ n i;have hlen:=zW τ n i;have xV:SF.wrap ((i:Int)+1)=i+1:=bI _ (by omega);have eZ:iw τ n (i+1)=(((iw τ n i).1.set i ((iw τ n i).1.getD (dI (iw τ n i).2 i).toNat 0)).set (dI (iw τ n i).2 i).toNat i,tick (iw τ n i).2):=rfl;generalize iw τ n i=m at am hlen eZ⊢;obtain⟨l,σ⟩:=m;simp only at am hlen eZ;have hr:=mY σ i;refine aN ?_;refine ai ?_;refine aK ((sH (um _) am (by omega) (by omega) ?_));(try simp only[seval]);generalize dI σ i=u at hr eZ⊢;obtain⟨u,rfl⟩:∃w:Nat,u=w:=⟨u.toNat,by omega⟩;rw[Vz]at eZ;have Sf:u<n:=by omega
  obtain⟨a,ha⟩:=cz (xs:=l) (i:=u) (by omega);have J8:l.getD u 0=a:=by rw[SE,ha];rfl
  rw[J8]at eZ;obtain⟨a2,BJ⟩:=cz (xs:=l) (i:=i) (by omega);have Fu:(i+1<=l.length)=True:=by simp;omega
  have hou:(u+1<=(l.set i a).length)=True:=by simp;omega
  refine ak ?_;simp only[seval,jR bG,jR Sf,hT.len,hT.g0,hT.g1,hT.g2,hT.g3,hT.h2,hT.h3,hT.s0,hT.s1,hT.s2,hT.s3,hT.t2,hT.t3,kW ha,To,Fu,wC (y:=a) (show i<l.length by omega)];refine ak ?_;simp only[seval,jR Sf,hT.len,hT.g0,hT.g1,hT.g2,hT.g3,hT.h2,hT.h3,hT.s0,hT.s1,hT.s2,hT.s3,hT.t2,hT.t3,To,hou,wC (xs:=l.set i a) (y:=i) (show u<(l.set i a).length by simp;omega)];refine ak ?_;simp only[seval,xV];refine hR _ ⟨bG,trivial,?_⟩;rw[eZ];exact dE
 ·have sW:i=n:=by omega
  subst sW;clear hR;refine bU ?_;have hlen:=zW τ i i;generalize iw τ i i=m at hlen hk⊢;obtain⟨l,σ⟩:=m;simp only at hlen hk
  (repeat apply gQ);refine H9 (id:=N) (by simp only[seval,hT.len,hT.g0,hT.g1,hT.g2,hT.g3,hT.h2,hT.h3,hT.s0,hT.s1,hT.s2,hT.s3,hT.t2,hT.t3]<;>rfl) ?_
  simp only[seval,hT.len,hT.g0,hT.g1,hT.g2,hT.g3,hT.h2,hT.h3,hT.s0,hT.s1,hT.s2,hT.s3,hT.t2,hT.t3]
  (repeat apply gQ);refine Oj (t:=5) (y:=bk l) (by simp only[seval]<;>rfl) ?_ ?_
  ·have e:bk l=.sl i ((l.map iv).take i) .shut:=by
    rw[SY (by simp;omega),bk,hlen]
   rw[e];exact No (p:=l.length) (by simp only[seval,hT.len,hT.g0,hT.g1,hT.g2,hT.g3,hT.h2,hT.h3,hT.s0,hT.s1,hT.s2,hT.s3,hT.t2,hT.t3]<;>rfl) (by omega) (by simp)
  refine ai ?_;refine aZ ?_;exact jU (b:=bk l) (H':=Gf σ) (G:=[.part l.length (l.map iv) 3]) (Wk.refl _) rfl (by simp[hT.len]) (hT.am hH σ) (by rw[zV];trivial) hk
end
structure HO (p:List Int)(n:Nat):Prop where
 len:p.length=n
 nodup:p.Nodup
 GW:∀v∈p,0<=v/\v<(n:Int)
theorem set_perm{t:List Int}{k:Nat}{a b:Int}(h:t[k]?=some a):(t.set k b++[a]).Perm (t++[b]):=by
 obtain⟨hk,rfl⟩:=SN.1 h;have e:t=t.take k++t[k]::t.drop (k+1):=by rw[<- TW hk,Vg]
 rw[List.set_eq_take_append_cons_drop,if_pos hk]
 conv=>rhs;rw[e]
 rw[List.perm_iff_count];intro v;simp only[List.count_append,List.count_cons,List.count_nil];omega
theorem aaM(τ:bt)(n:Nat):∀i:Nat,i<=n->((iw τ n i).1.take i).Nodup/\∀v∈(iw τ n i).1.take i,0<=v/\v<(i:Int)
 |0,_=>by simp
 |i+1,hi=>by
  obtain⟨h1,h2⟩:=aaM τ n i (by omega);have hlen:=zW τ n i;rw[iw];generalize iw τ n i=m at h1 h2 hlen⊢;obtain⟨l,σ⟩:=m;simp only at h1 h2 hlen⊢;have hr:=mY σ i;generalize dI σ i=u at hr⊢;obtain⟨k,rfl⟩:∃w:Nat,u=w:=⟨u.toNat,by omega⟩;rw[Vz];obtain⟨a,ha⟩:=cz (xs:=l) (i:=k) (by omega);obtain⟨c,hc⟩:=cz (xs:=l) (i:=i) (by omega);have J8:l.getD k 0=a:=by rw[SE,ha];rfl
  have wb:(l.take i).length=i:=by rw[T_];omega
  have hp:(((l.set i a).set k (i:Int)).take (i+1)).Perm (l.take i++[(i:Int)]):=by
   rw[Z7,Z7,VJ,hc];show ((((l.take i)++[c]).set i a).set k (i:Int)).Perm _;rw[UO _ _ (by omega),wb,U6];show (((l.take i)++[a]).set k (i:Int)).Perm _;by_cases e:k=i
   ·subst e;rw[UO _ _ (by omega),wb,U6];exact ae' _
   ·rw[Wz _ _ (by omega)];exact set_perm (by rw[Ua,if_pos (by omega)];exact ha)
  rw[J8];refine⟨(ap' hp).2 ?_,λv hv=> ?_⟩
  ·exact U8.2 ⟨h1,by simp,λx hx y hy e=>by
    have:=h2 x hx;simp at hy;omega⟩
  ·rcases SV.1 (hp.mem_iff.1 hv)with hv|hv
   ·have:=h2 v hv;omega
   ·simp at hv;omega
theorem aaN(τ:bt)(n:Nat):HO (iw τ n n).1 n:=by
 obtain⟨h1,h2⟩:=aaM τ n n (SU _);rw[SY (by rw[zW];exact SU _)]at h1 h2;exact⟨zW τ n n,h1,h2⟩
theorem D2{τ:bt}{n m lo hi:Int}(hn:lo<=n/\n<=hi)(pc:0<=lo):va (mH τ n m lo hi) hi/\kL (mH τ n m lo hi) n=true:=by
 have r1:=mY τ m;have r2:=mY (tick τ) m;unfold mH;refine⟨⟨?_,?_,?_⟩,?_⟩
 ·dsimp only;omega
 ·dsimp only;omega
 ·dsimp only;omega
 ·unfold kL;rw[Ti,decide_eq_true_eq,decide_eq_true_eq];dsimp only;omega
theorem IN(τ:bt){ns:List Int}(h:ns≠[]):vH τ ns∈ns:=by
 unfold vH;have hl:0<ns.length:=Vx.2 h;have r:=mY τ ((ns.length:Int)-1);have hi:(dI τ ((ns.length:Int)-1)).toNat<ns.length:=by omega
 rw[SE,SP hi];exact VF hi
def wE (τ:bt)(an:Int):Int:=vH (tick τ) [0,an,dI τ an]
theorem acs(τ:bt){an:Int}(h:0<=an):0<=wE τ an/\wE τ an<=an:=by
 have r:=mY τ an;have:=IN (tick τ) (ns:=[0,an,dI τ an]) (by simp);unfold wE;simp only[SL,S4,or_false]at this;omega
def lh (τ:bt)(first an:Int):Nat->List Int×bt
 |0=>([first],τ)
 |i+1=>((lh τ first an i).1++[(lh τ first an i).1.getD i 0+wE (lh τ first an i).2 an],tick (tick (lh τ first an i).2))
structure m8 (first an:Int)(l:List Int)(i:Nat):Prop where
 len:l.length=i+1
 head:l.getD 0 0=first
 step:∀j,j<i->l.getD j 0<=l.getD (j+1) 0/\l.getD (j+1) 0<=l.getD j 0+an
theorem Ey{l:List Int}{v:Int}{j:Nat}(h:j<l.length):(l++[v]).getD j 0=l.getD j 0:=by
 rw[SE,SE,SW h]
theorem ai0{l:List Int}{v:Int}{j:Nat}(h:l.length=j):(l++[v]).getD j 0=v:=by
 subst h;rw[SE,Tg (SU _),U6];rfl
theorem Ra(τ:bt)(first:Int){an:Int}(h:0<=an):∀i,m8 first an (lh τ first an i).1 i
 |0=>⟨rfl,rfl,λj hj=>by omega⟩
 |i+1=>by
  have ih:=Ra τ first h i
  rw[lh];have hs:=acs (lh τ first an i).2 h;generalize wE (lh τ first an i).2 an=v at hs⊢;generalize(lh τ first an i).1=l at ih⊢;have hl:=ih.len;refine⟨by rw[SQ,hl];rfl,by rw[Ey (by omega)];exact ih.head,λj hj=> ?_⟩;by_cases cx:j<i
  ·rw[Ey (by omega),Ey (by omega)];exact ih.step j cx
  ·have:j=i:=(by omega);subst this;rw[Ey (by omega),ai0 (by omega)];omega
theorem Rb{τ:bt}{b:Int}(h:τ.Ok b)(first an:Int):∀i:Nat,(lh τ first an i).2.Ok (b+2* i)
 |0=>h.mono (by simp)
 |i+1=>(Rb h first an i).tick.tick.mono (by simp;omega)
theorem m8.ge{first an:Int}{l:List Int}{i:Nat}(h:m8 first an l i)(hp:0<=an):∀j,j<=i->first<=l.getD j 0/\l.getD j 0<=first+an* j
 |0,_=>by rw[h.head];simp
 |j+1,hj=>by
  have ih:=h.ge hp j (by omega);have:=h.step j (by omega);have e:an* ((j+1:Nat):Int)=an* j+an:=by rw[Int.natCast_add,Int.mul_add];simp
  omega
def kM (first:Int)(order:List Int)(i:Nat):List Int:=(S0 i).map λj=>first+order.getD j 0
theorem aaZ(first:Int)(order:List Int)(i:Nat):kM first order (i+1)=kM first order i++[first+order.getD i 0]:=by
 unfold kM;rw[Vk,TF];rfl
theorem aaY(first:Int)(order:List Int)(i:Nat):(kM first order i).length=i:=by simp[kM]
def kD (h:List Int)(hours:Int)(num:Nat->Int)(τ:bt):Nat->List aH×bt
 |0=>([],τ)
 |i+1=>((kD h hours num τ i).1++[lL (tick (kD h hours num τ i).2) h (num i) hours],tick (tick (tick (tick (tick (kD h hours num τ i).2)))))
theorem zk(h:List Int)(hours:Int)(num:Nat->Int)(τ:bt):∀i,(kD h hours num τ i).1.length=i
 |0=>rfl
 |i+1=>by rw[kD,SQ,zk h hours num τ i];rfl
theorem JF{τ:bt}{b:Int}(hτ:τ.Ok b)(h:List Int)(hours:Int)(num:Nat->Int):∀i:Nat,(kD h hours num τ i).2.Ok (b+5* i)
 |0=>hτ.mono (by simp)
 |i+1=>(JF hτ h hours num i).tick.tick.tick.tick.tick.mono (by simp;omega)
def rW (h:List Int)(hours:Int)(τ:bt):Nat->List Seen×bt
 |0=>([],τ)
 |i+1=>((rW h hours τ i).1++[⟨dI (rW h hours τ i).2 hours,mH (tick (rW h hours τ i).2) (h.getD (dI (rW h hours τ i).2 hours).toNat 0) 1 0 99⟩],tick (tick (tick (rW h hours τ i).2)))
theorem abV(h:List Int)(hours:Int)(τ:bt):∀i,(rW h hours τ i).1.length=i
 |0=>rfl
 |i+1=>by rw[rW,SQ,abV h hours τ i];rfl
theorem abX{τ:bt}{b:Int}(hτ:τ.Ok b)(h:List Int)(hours:Int):∀i:Nat,(rW h hours τ i).2.Ok (b+3* i)
 |0=>hτ.mono (by simp)
 |i+1=>(abX hτ h hours i).tick.tick.tick.mono (by simp;omega)
theorem abW{h:List Int}{hours:Int}{τ:bt}(hu:∀τ,0<=dI τ hours/\dI τ hours<=hours):∀i,∀s∈(rW h hours τ i).1,0<=s.hour/\s.hour<=hours/\∃σ,s.next=mH σ (h.getD s.hour.toNat 0) 1 0 99
 |0,s,hs=>by cases hs
 |i+1,s,hs=>by
  rw[rW]at hs;rcases SV.1 hs with hs|hs
  ·exact abW hu i s hs
  ·rw[Tb]at hs;subst hs;exact⟨(hu _).1,(hu _).2,_,rfl⟩
structure DJ (h:List Int)(hours n:Int)(y:aH):Prop where
 num:va y.number 99
 hour:va y.hour (hours-1)
 fits:fits h y n=true
theorem JE{h:List Int}{hours:Int}{num:Nat->Int}{τ:bt}{P:Int->aH->Prop}(hP:∀τ n,P n (lL τ h n hours)):∀i j y,(kD h hours num τ i).1[j]?=some y->P (num j) y
 |0,j,y,hy=>by cases hy
 |i+1,j,y,hy=>by
  rw[kD]at hy;have hl:=zk h hours num τ i;by_cases hj:j<i
  ·rw[SW (by omega)]at hy;exact JE hP i j y hy
  ·rw[Tg (by omega),hl]at hy;have:j=i:=(by have:=(SN.1 hy).1;simp at this;omega);subst this;rw[U6]at hy;cases hy;exact hP _ _
section
variable {lv:Bool}{P:SK}{r:Option Nat}{s:AS}
theorem H8{nt:Nat}{x y:T7}{α:Type}{Φ Ψ:ao->AS->Prop}(inv:α->AS)(ok:α->Prop)(h1:aX lv P r nt x s (ao.then (λs'=>∃a,ok a/\s'.Sub (inv a)) Ψ))(h2:∀a,ok a->aX lv P r nt y (inv a) Φ):aX lv P r nt x s (ao.then (λs'=>aX lv P r nt y s' Φ) Ψ):=
 h1.mono λe s' h=>by
  cases e with
  |normal=>
   obtain⟨a,h3,h4⟩:=h;exact mJ h4 (h2 a h3)
  |_=>exact h
end
theorem NE:gM (SG .i64 0) 3=[iv 0,iv 0,iv 0]:=rfl
theorem zE4:gM (SG .i64 0) 4=[iv 0,iv 0,iv 0,iv 0]:=rfl
theorem HF:gM (TD #[SG .i64 0,SG .i64 0,SG .i64 0,SG .i64 0]) 4=[iv 0,iv 0,iv 0,iv 0]:=rfl
theorem zS1:gM (TD #[SG .i64 0,SG .i64 0,SG .i64 0]) 3=[iv 0,iv 0,iv 0]:=rfl
theorem C0:(3<=2^24)=True:=eq_true (by decide)
theorem Ac:(4<=2^24)=True:=eq_true (by decide)
theorem Ab:(1<=2^24)=True:=eq_true (by decide)
theorem adf{first an w v:Int}{i:Nat}(h1:first<=w/\w<=first+an* i)(h2:0<=v/\v<=an)(hf:0<=first/\first<=90)(hp:1<=an/\an<=3)(hi:i<=3):0<=w+v/\w+v<=1000:=by
 have:an* (i:Int)<=3* 3:=Yg (by omega) (by omega) (by omega) (by omega);generalize an* (i:Int)=q at h1 this;omega
theorem Lg{n:Int}(h:0<=n/\n<=1000):SF.wrap n=n:=bI _ (by omega)
theorem Nh(h:List Int)(n:Int):∀m:Nat, -1<=l5 h n m/\l5 h n m<m
 |0=>by simp[l5]
 |m+1=>by
  have:=Nh h n m;unfold l5;split
  ·omega
  ·omega
theorem Ja:∀l:List aH,(l.flatMap aH.l).length=l.length* 4
 |[]=>rfl
 |a::l=>by rw[Uo,SQ,Ja l,aH.len,Uh];omega
theorem PO:∀l:List Seen,(l.flatMap Seen.l).length=l.length* 3
 |[]=>rfl
 |a::l=>by rw[Uo,SQ,PO l,Seen.len,Uh];omega
theorem Jb{α:Type}{f:α->List AV}{l:List α}{a:α}:(l++[a]).flatMap f=l.flatMap f++f a:=by rw[Vs];simp
theorem amN{α:Type}{f:Nat->α}{l:List α}{n:Nat}(hl:l.length=n)(h:∀i,i<n->l[i]?=some (f i)):(S0 n).map f=l:=by
 refine Yo λi=> ?_;rw[Tj];by_cases hi:i<n
 ·rw[Xz hi,UN,h i hi]
 ·rw[Uu (by simp;omega),Uu (by omega)];rfl
def NN (a b:Nat):Prop:=(if(a:Int)<(b:Int)then(a:Int)else(b:Int))=((min b a:Nat):Int)
theorem aaL(a b:Nat):NN a b:=by unfold NN;split<;>omega
structure Made (pm:Nat)(x:aj)(bu aA cg:List Int):Prop where
 first:0<=x.first/\x.first<=90
 hours:1<=x.hours/\x.hours<=3
 an:1<=x.an/\x.an<=3
 Fi:m8 x.first x.an bu x.hours.toNat
 amY:x.pieces.length<=pm
 wq:aA.length=x.pieces.length
 num:∀n∈aA,x.first<=n/\n<bu.getD x.hours.toNat 0
 Gt:aA.Nodup
 piece:∀(p:Nat) y,x.pieces[p]?=some y->∃τ,y=lL τ bu (aA.getD p 0) x.hours
 Aa:cg.length=x.aB.length
 aB:x.aB.length<=3
 own:∀v∈cg,0<=v/\v<(aA.length:Int)
 Mg:cg.Nodup
 stub:∀(s:Nat) y,x.aB[s]?=some y->∃τ,y=lL τ bu (aA.getD (cg.getD s 0).toNat 0) x.hours
 Ai:x.seen.length<=2
 seen:∀s∈x.seen,0<=s.hour/\s.hour<=x.hours/\∃τ,s.next=mH τ (bu.getD s.hour.toNat 0) 1 0 99
structure AX (Gf:bt->List aa)(N:Nat)(zc:aa)(YY:List AV->Nat->Nat->Nat->Nat->Nat->List aa):Prop where
 len:∀r a b c d e,(YY r a b c d e).length=8
 y0:∀τ r a b c d e,(Gf τ++YY r a b c d e)[N]?=some zc
 y1:∀τ r a b c d e,(Gf τ++YY r a b c d e)[N+1]?=some (.cells r 26)
 y3:∀τ r a b c d e,(Gf τ++YY r a b c d e)[N+3]?=some (.tail a 4 48)
 y4:∀τ r a b c d e,(Gf τ++YY r a b c d e)[N+4]?=some (.tail b 4 48)
 y5:∀τ r a b c d e,(Gf τ++YY r a b c d e)[N+5]?=some (.tail c 3 61)
 y6:∀τ r a b c d e,(Gf τ++YY r a b c d e)[N+6]?=some (.tail d 1 3)
 y7:∀τ r a b c d e,(Gf τ++YY r a b c d e)[N+7]?=some (.tail e 1 3)
 z1:∀τ r r' a b c d e,(Gf τ++YY r a b c d e).set (N+1) (.cells r' 26)=Gf τ++YY r' a b c d e
 z3:∀τ r a a' b c d e,(Gf τ++YY r a b c d e).set (N+3) (.tail a' 4 48)=Gf τ++YY r a' b c d e
 z4:∀τ r a b b' c d e,(Gf τ++YY r a b c d e).set (N+4) (.tail b' 4 48)=Gf τ++YY r a b' c d e
 z5:∀τ r a b c c' d e,(Gf τ++YY r a b c d e).set (N+5) (.tail c' 3 61)=Gf τ++YY r a b c' d e
 z6:∀τ r a b c d d' e,(Gf τ++YY r a b c d e).set (N+6) (.tail d' 1 3)=Gf τ++YY r a b c d' e
 s0:∀r a b c d e y,∃L,(YY r a b c d e).set 0 y=y::L
 z7:∀τ r a b c d e e',(Gf τ++YY r a b c d e).set (N+7) (.tail e' 1 3)=Gf τ++YY r a b c d e'
noncomputable def vB:T7:=XC.body.getD .skip
def ub:Nat->T7->T7
 |0,c=>c
 |n+1,c=>ub n (cs c)
section
variable {lv:Bool}{k kp:AV->List aa->Prop}{Gf:bt->List aa}{t N:Nat}{b:Int}
theorem ahv{pm i mn:Nat}{first an:Int}{l order:List Int}{ρ:bt}{zc:aa}{YY:List AV->Nat->Nat->Nat->Nat->Nat->List aa}{Ψ:ao->AS->Prop}(hT:eg Gf t N)(hY:AX Gf N zc YY)(hb:b<2^10)(s8:pm<=4)(hi:1<=i/\i<=3)(rn:0<=first/\first<=90)(je:l.length=i+1)(Rv:mn<=9)(qj:HO order mn)(qp:ρ.Ok (b+19)):
  aX lv SC none 240 (cs (cf (ub 7 vB))) ⟨[(17,iv 0),(16,.sl 0 [] (.opn (N+7))),(15,.sl 0 [] (.opn (N+6))),(14,bk order),(13,iv mn),(11,.sl (i+1) (l.map iv) (.opn (N+2))),(10,.op (N+1) 0),(6,.op N 0),(0,.op t 0),(1,iv pm),(2,bv true)],Gf ρ++YY [iv first,iv i,iv an,.sl 0 [] (.opn (N+5)),.sl 0 [] (.opn (N+3)),.sl 0 [] (.opn (N+4))] 0 0 0 0 0⟩ (ao.then (λs'=>∃y:Nat×bt,(y.1<=pm/\y.1<=mn/\y.2.Ok (b+60))/\s'.Sub ⟨[(16,.sl 0 [] (.opn (N+7))),(15,.sl y.1 ((kM first order y.1).map iv) (.opn (N+6))),(13,iv mn),(11,.sl (i+1) (l.map iv) (.opn (N+2))),(10,.op (N+1) 0),(6,.op N 0),(0,.op t 0),(2,bv true)],Gf y.2++YY [iv first,iv i,iv an,.sl 0 [] (.opn (N+5)),.sl y.1 ((kD l i (λj=>first+order.getD j 0) ρ y.1).1.flatMap aH.l) (.opn (N+3)),.sl 0 [] (.opn (N+4))] y.1 0 0 y.1 0⟩) Ψ):=by
 obtain⟨zg,y0,y1,y3,y4,y5,y6,y7,u7,Do,Dp,Dq,HC,dM,HD⟩:=hY;have mM:∀L:List aa,eg (λτ=>Gf τ++L) t (N+L.length):=λL=>hT.more L;obtain⟨hv,zr⟩:∃hv:Nat->List aH×bt,∀j,hv j=kD l i (λj=>first+order.getD j 0) ρ j:=⟨_,λ_=>rfl⟩;simp only[<- zr];have hvl:∀j,(hv j).1.length=j:=λj=>by rw[zr];exact zk _ _ _ _ _
 have hvt:∀j:Nat,(hv j).2.Ok (b+19+5* j):=λj=>by rw[zr];exact(JF qp _ _ _ j).mono (by omega)
 have cZ:hv 0=([],ρ):=zr 0;unfold vB XC;dsimp only[S8,ub,cs,cf];have Fp:=aaL mn pm;refine cJ ?_;refine gP (min pm mn) (λj:Nat=>[(15,.sl j ((kM first order j).map iv) (.opn (N+6))),(17,iv j)]) (λj=>Gf (hv j).2++YY [iv first,iv i,iv an,.sl 0 [] (.opn (N+5)),.sl j ((hv j).1.flatMap aH.l) (.opn (N+3)),.sl 0 [] (.opn (N+4))] j 0 0 j 0) (λ_=>True) (λ_ _=>rfl) (by simp only[kM,Zx,List.map_nil];simp only[seval];simp[bA,Wk.refl]) (by rw[cZ];rfl) (λ_ _ _=>by simp[hT.len,zg]) trivial (λcp dz j o_ _ R hR=> ?_);clear cp dz;have lx:=hvt j;by_cases eR:j<min pm mn
 ·have hd:decide ((j:Int)<((min pm mn:Nat):Int))=true:=by simpa using eR
  refine ak ?_;simp only[seval,show (if(mn:Int)<(pm:Int)then(mn:Int)else(pm:Int))=((min pm mn:Nat):Int)from Fp,hd];have eZ:hv (j+1)=((hv j).1++[lL (tick (hv j).2) l (first+order.getD j 0) i],tick (tick (tick (tick (tick (hv j).2))))):=by rw[zr,zr];rfl
  have rK:=hvl j;generalize Fg:hv j=hj at lx eZ rK⊢;obtain⟨ps,ρj⟩:=hj;dsimp only at lx eZ rK⊢;refine aK ((PA (n:=6) (mM _) lx (by omega) (by decide) ?_));(try simp only[seval]);refine aD ?_;refine⟨λhc=> ?_,λhc=> ?_⟩
  ·obtain⟨o,ho⟩:=cz (xs:=order) (i:=j) (by rw[qj.len];omega);have hor:=qj.GW o (wn ho);have hgo:order.getD j 0=o:=(by rw[SE,ho];rfl);rw[hgo]at eZ;have K8:SF.wrap (first+o)=first+o:=Lg (by omega)
   have xG:SF.wrap ((j:Int)+1)=((j+1:Nat):Int):=(by rw[bI _ (by omega)];rfl);have p8:(0<=(j:Int)/\(j:Int)<(order.length:Int))=True:=(by simp[qj.len];omega);have jX:=aaY first order j
   have xK:U2 iv (kM first order j)++[AV.val (SG SF (first+o))]=(kM first order (j+1)).map iv:=(by rw[aaZ,hgo,TF];rfl);have Cd:(kM first order (j+1))[j]?=some (first+o):=(by rw[aaZ,hgo,Tg (by omega),jX,U6];rfl);have uo:(0<=(j:Int)/\(j:Int)<(j:Int)+1)=True:=(by simp;omega);refine aN ?_;refine cJ ?_;refine eO 9 ?_;simp only[seval,z1,Ab,y1,y6,HC,bk,fN ho,p8,K8,jX];refine⟨by omega,?_⟩;rw[xK];obtain⟨n,hn⟩:∃n,n=first+o:=⟨_,rfl⟩
   rw[<- hn]at Cd eZ;have qt:=Nh l n i;have w6:=λ(L:List aa) k kp=>PB (lv:=lv) (k:=k) (kp:=kp) (h:=l) (n:=n) (hours:=i) (e:=.opn (N+2)) (mM L) lx.tick (by omega) (by omega) (by omega) (by omega) (by rw[je,VH];omega);simp only[je]at w6;obtain⟨y,hy⟩:∃y,y=lL (tick ρj) l n i:=⟨_,rfl⟩;rw[<- hy]at eZ w6;obtain⟨FP,rf⟩:∃FP,FP=ps.flatMap aH.l:=⟨_,rfl⟩;have vK:FP.length=j* 4:=(by rw[rf,Ja,rK]);have Bz:FP++aH.l y=(hv (j+1)).1.flatMap aH.l:=(by rw[eZ,Jb,rf]);rw[<- rf];refine qU [10,12,14] [0,1,2,3,4,5,6,7,8,9,10,11,12,13,14] [⟨0,false,[],[([10],[10])]⟩,⟨1,false,[],[([10],[10])]⟩,⟨2,false,[],[]⟩,⟨3,false,[],[]⟩,⟨4,false,[],[]⟩,⟨5,false,[],[]⟩,⟨6,false,[],[]⟩,⟨7,false,[],[]⟩,⟨8,false,[],[]⟩,⟨9,false,[],[]⟩,⟨10,true,[10],[]⟩,⟨11,false,[10],[]⟩,⟨12,true,[10,12],[]⟩,⟨13,false,[10,12],[]⟩,⟨14,true,[10,12,14],[]⟩] (λD=>bif isDone 14 D then Gf (tick (tick (tick (tick (tick ρj)))))++YY [iv first,iv i,iv an,.sl 0 [] (.opn (N+5)),.sl (j+1) (FP++aH.l y) (.opn (N+3)),.sl 0 [] (.opn (N+4))] (j+1) 0 0 (j+1) 0 else bif isDone 12 D then Gf (tick (tick (tick (tick (tick ρj)))))++YY [iv first,iv i,iv an,.sl 0 [] (.opn (N+5)),.sl j FP (.opn (N+3)),.sl 0 [] (.opn (N+4))] (j+1) 0 0 (j+1) 0 else bif isDone 10 D then Gf (tick (tick (tick (tick (tick ρj)))))++YY [iv first,iv i,iv an,.sl 0 [] (.opn (N+5)),.sl j FP (.opn (N+3)),.sl 0 [] (.opn (N+4))] j 0 0 (j+1) 0 else Gf (tick ρj)++YY [iv first,iv i,iv an,.sl 0 [] (.opn (N+5)),.sl j FP (.opn (N+3)),.sl 0 [] (.opn (N+4))] j 0 0 (j+1) 0) ?_;simp only[seval,HF,Ac,y1,y3,u7,Do,fN Cd,uo,vK];have Cw:y.l=[iv y.number.min,iv y.number.max,iv y.hour.min,iv y.hour.max]:=rfl;refine kY y.av _ (cO (w6 _ _ _ ⟨rfl,rfl⟩)) ?_;(try simp only[seval,HF,Ac,y1,y3,u7,Do,fN Cd,uo,vK,aH.av,Cw]);refine⟨by omega,?_⟩;refine ak ?_;simp only[seval,xG];refine hR _ ⟨by omega,trivial,?_⟩;rw[<- Bz,eZ];exact dE
  ·refine bU ?_;exact⟨(j,tick ρj),⟨by dsimp only;omega,by dsimp only;omega,lx.tick.mono (by omega)⟩,fP (by simp only[seval];simp[bA,Wk.refl]) (by rw[Fg])⟩
 ·have hd:decide ((j:Int)<((min pm mn:Nat):Int))=false:=by simpa using eR
  refine ak ?_;simp only[seval,show (if(mn:Int)<(pm:Int)then(mn:Int)else(pm:Int))=((min pm mn:Nat):Int)from Fp,hd];refine aD ?_;refine bU ?_;exact⟨(j,(hv j).2),⟨by dsimp only;omega,by dsimp only;omega,lx.mono (by omega)⟩,fP (by simp only[seval];simp[bA,Wk.refl]) rfl⟩
theorem ahs{i np:Nat}{first an w:Int}{l aA hO:List Int}{cT:List aH}{ρ2:bt}{zc:aa}{YY:List AV->Nat->Nat->Nat->Nat->Nat->List aa}{Ψ:ao->AS->Prop}(hT:eg Gf t N)(hY:AX Gf N zc YY)(hb:b<2^10)(hi:1<=i/\i<=3)(rn:0<=first/\first<=90)(FU:first<=w/\w<=first+9)(je:l.length=i+1)(Cf:np<=4)(jX:aA.length=np)(uz:∀n∈aA,first<=n/\n<w)(s9:HO hO np)(xX:ρ2.Ok (b+64)):
  aX lv SC none 240 (cs (cf (ub 9 vB))) ⟨[(19,iv 0),(18,.sl np (hO.map iv) .shut),(16,.sl 0 [] (.opn (N+7))),(15,.sl np (aA.map iv) (.opn (N+6))),(11,.sl (i+1) (l.map iv) (.opn (N+2))),(10,.op (N+1) 0),(6,.op N 0),(0,.op t 0),(2,bv true)],Gf ρ2++YY [iv first,iv i,iv an,.sl 0 [] (.opn (N+5)),.sl np (cT.flatMap aH.l) (.opn (N+3)),.sl 0 [] (.opn (N+4))] np 0 0 np 0⟩ (ao.then (λs'=>∃y:Nat×bt,(y.1<=np/\y.1<=3/\y.2.Ok (b+90))/\s'.Sub ⟨[(16,.sl y.1 ((hO.take y.1).map iv) (.opn (N+7))),(15,.sl np (aA.map iv) (.opn (N+6))),(11,.sl (i+1) (l.map iv) (.opn (N+2))),(10,.op (N+1) 0),(6,.op N 0),(0,.op t 0),(2,bv true)],Gf y.2++YY [iv first,iv i,iv an,.sl 0 [] (.opn (N+5)),.sl np (cT.flatMap aH.l) (.opn (N+3)),.sl y.1 ((kD l i (λj=>aA.getD (hO.getD j 0).toNat 0) ρ2 y.1).1.flatMap aH.l) (.opn (N+4))] np y.1 0 np y.1⟩) Ψ):=by
 obtain⟨zg,y0,y1,y3,y4,y5,y6,y7,u7,Do,Dp,Dq,HC,dM,HD⟩:=hY;have mM:∀L:List aa,eg (λτ=>Gf τ++L) t (N+L.length):=λL=>hT.more L;obtain⟨hw,zt⟩:∃hw:Nat->List aH×bt,∀j,hw j=kD l i (λj=>aA.getD (hO.getD j 0).toNat 0) ρ2 j:=⟨_,λ_=>rfl⟩;simp only[<- zt];have rM:∀j,(hw j).1.length=j:=λj=>by rw[zt];exact zk _ _ _ _ _
 have uG:∀j:Nat,(hw j).2.Ok (b+64+5* j):=λj=>by rw[zt];exact JF xX _ _ _ j
 have xU:hw 0=([],ρ2):=zt 0;have Sl:=s9.len;unfold vB XC;dsimp only[S8,ub,cs,cf];have Rs:=aaL 3 np;refine cJ ?_;refine gP (min np 3) (λj:Nat=>[(16,.sl j ((hO.take j).map iv) (.opn (N+7))),(19,iv j)]) (λj=>Gf (hw j).2++YY [iv first,iv i,iv an,.sl 0 [] (.opn (N+5)),.sl np (cT.flatMap aH.l) (.opn (N+3)),.sl j ((hw j).1.flatMap aH.l) (.opn (N+4))] np j 0 np j) (λ_=>True) (λ_ _=>rfl) (by simp only[seval];simp[bA,Wk.refl]) (by rw[xU];rfl) (λ_ _ _=>by simp[hT.len,zg]) trivial (λcp dz j o_ _ R hR=> ?_);clear cp dz;have lx:=uG j;by_cases eR:j<min np 3
 ·have hd:decide ((j:Int)<((min np 3:Nat):Int))=true:=by simpa using eR
  refine ak ?_;simp only[seval,bk,Sl,show (if(3:Int)<(np:Int)then(3:Int)else(np:Int))=((min np 3:Nat):Int)from Rs,hd];have eZ:hw (j+1)=((hw j).1++[lL (tick (hw j).2) l (aA.getD (hO.getD j 0).toNat 0) i],tick (tick (tick (tick (tick (hw j).2))))):=by rw[zt,zt];rfl
  have rK:=rM j;generalize Fg:hw j=hj at lx eZ rK⊢;obtain⟨ts,ρj⟩:=hj;dsimp only at lx eZ rK⊢;refine aK ((PA (n:=3) (mM _) lx (by omega) (by decide) ?_));(try simp only[seval]);refine aD ?_;refine⟨λhc=> ?_,λhc=> ?_⟩
  ·obtain⟨v,pq⟩:=cz (xs:=hO) (i:=j) (by omega);have hvr:=s9.GW v (wn pq);obtain⟨v,rfl⟩:∃v':Nat,v=v':=⟨v.toNat,by omega⟩;have B3:hO.getD j 0=v:=(by rw[SE,pq];rfl);rw[B3,Vz]at eZ;obtain⟨n,Ft⟩:=cz (xs:=aA) (i:=v) (by omega);have Fc:aA.getD v 0=n:=(by rw[SE,Ft];rfl);rw[Fc]at eZ;have rC:=uz n (wn Ft);have xG:SF.wrap ((j:Int)+1)=((j+1:Nat):Int):=(by rw[bI _ (by omega)];rfl);have uo:(0<=(j:Int)/\(j:Int)<(np:Int))=True:=(by simp;omega);have ET:(0<=(v:Int)/\(v:Int)<(np:Int))=True:=(by simp;omega);have aF:(hO.take j).length=j:=(by rw[T_];omega);have ald:(hO.take j).map iv++[AV.val (SG SF v)]=(hO.take (j+1)).map iv:=(by rw[VJ,pq,TF];rfl);refine aN ?_;refine ak ?_;simp only[seval,z1,Ab,y7,HD,fN pq,uo,aF];refine⟨by omega,?_⟩;rw[ald];have qt:=Nh l n i;have w6:=λ(L:List aa) k kp=>PB (lv:=lv) (k:=k) (kp:=kp) (h:=l) (n:=n) (hours:=i) (e:=.opn (N+2)) (mM L) lx.tick (by omega) (by omega) (by omega) (by omega) (by rw[je,VH];omega);simp only[je]at w6;obtain⟨y,hy⟩:∃y,y=lL (tick ρj) l n i:=⟨_,rfl⟩;rw[<- hy]at eZ w6;obtain⟨FP,rf⟩:∃FP,FP=ts.flatMap aH.l:=⟨_,rfl⟩;have vK:FP.length=j* 4:=(by rw[rf,Ja,rK]);have Bz:FP++aH.l y=(hw (j+1)).1.flatMap aH.l:=(by rw[eZ,Jb,rf]);rw[<- rf];refine qU [13,15,17] [0,1,2,3,4,5,6,7,8,9,10,11,12,13,14,15,16,17] [⟨0,false,[],[([13],[13])]⟩,⟨1,false,[],[([13],[13])]⟩,⟨2,false,[],[]⟩,⟨3,false,[],[]⟩,⟨4,false,[],[]⟩,⟨5,false,[],[]⟩,⟨6,false,[],[]⟩,⟨7,false,[],[]⟩,⟨8,false,[],[]⟩,⟨9,false,[],[]⟩,⟨10,false,[],[]⟩,⟨11,false,[],[]⟩,⟨12,false,[],[]⟩,⟨13,true,[13],[]⟩,⟨14,false,[13],[]⟩,⟨15,true,[13,15],[]⟩,⟨16,false,[13,15],[]⟩,⟨17,true,[13,15,17],[]⟩] (λD=>bif isDone 17 D then Gf (tick (tick (tick (tick (tick ρj)))))++YY [iv first,iv i,iv an,.sl 0 [] (.opn (N+5)),.sl np (cT.flatMap aH.l) (.opn (N+3)),.sl (j+1) (FP++aH.l y) (.opn (N+4))] np (j+1) 0 np (j+1)else bif isDone 15 D then Gf (tick (tick (tick (tick (tick ρj)))))++YY [iv first,iv i,iv an,.sl 0 [] (.opn (N+5)),.sl np (cT.flatMap aH.l) (.opn (N+3)),.sl j FP (.opn (N+4))] np (j+1) 0 np (j+1)else bif isDone 13 D then Gf (tick (tick (tick (tick (tick ρj)))))++YY [iv first,iv i,iv an,.sl 0 [] (.opn (N+5)),.sl np (cT.flatMap aH.l) (.opn (N+3)),.sl j FP (.opn (N+4))] np j 0 np (j+1)else Gf (tick ρj)++YY [iv first,iv i,iv an,.sl 0 [] (.opn (N+5)),.sl np (cT.flatMap aH.l) (.opn (N+3)),.sl j FP (.opn (N+4))] np j 0 np (j+1)) ?_;simp only[seval,HF,Ac,y1,y4,u7,Dp,fN pq,uo,fN Ft,ET,vK,bk,jX];have Cw:y.l=[iv y.number.min,iv y.number.max,iv y.hour.min,iv y.hour.max]:=rfl;refine kY y.av _ (cO (w6 _ _ _ ⟨rfl,rfl⟩)) ?_;(try simp only[seval,HF,Ac,y1,y4,u7,Dp,fN pq,uo,fN Ft,ET,vK,bk,jX,aH.av,Cw]);refine⟨by omega,?_⟩;refine ak ?_;simp only[seval,xG];refine hR _ ⟨by omega,trivial,?_⟩;rw[<- Bz,eZ];exact dE
  ·refine bU ?_;exact⟨(j,tick ρj),⟨by dsimp only;omega,by dsimp only;omega,lx.tick.mono (by omega)⟩,fP (by simp only[seval];simp[bA,Wk.refl]) (by rw[Fg])⟩
 ·have hd:decide ((j:Int)<((min np 3:Nat):Int))=false:=by simpa using eR
  refine ak ?_;simp only[seval,bk,Sl,show (if(3:Int)<(np:Int)then(3:Int)else(np:Int))=((min np 3:Nat):Int)from Rs,hd];refine aD ?_;refine bU ?_;exact⟨(j,(hw j).2),⟨by dsimp only;omega,by dsimp only;omega,lx.mono (by omega)⟩,fP (by simp only[seval];simp[bA,Wk.refl]) rfl⟩
theorem ahu{i np ns cn:Nat}{first an:Int}{l aA cg:List Int}{cT fi:List aH}{ρ4:bt}{zc:aa}{YY:List AV->Nat->Nat->Nat->Nat->Nat->List aa}{Ψ:ao->AS->Prop}(hT:eg Gf t N)(hY:AX Gf N zc YY)(hb:b<2^10)(hi:1<=i/\i<=3)(rn:0<=first/\first<=90)(xM:1<=an/\an<=3)(am:m8 first an l i)(gS:cn<=2)(FZ:ρ4.Ok (b+91)):
  aX lv SC none 240 (cs (cf (ub 10 vB))) ⟨[(20,iv cn),(16,.sl ns (cg.map iv) (.opn (N+7))),(15,.sl np (aA.map iv) (.opn (N+6))),(11,.sl (i+1) (l.map iv) (.opn (N+2))),(10,.op (N+1) 0),(6,.op N 0),(0,.op t 0),(2,bv true)],Gf ρ4++YY [iv first,iv i,iv an,.sl 0 [] (.opn (N+5)),.sl np (cT.flatMap aH.l) (.opn (N+3)),.sl ns (fi.flatMap aH.l) (.opn (N+4))] np ns 0 np ns⟩ (ao.then (λs'=>∃y:List Seen×bt,(y.1.length<=2/\(∀s∈y.1,0<=s.hour/\s.hour<=i/\∃τ,s.next=mH τ (l.getD s.hour.toNat 0) 1 0 99)/\y.2.Ok (b+97))/\s'.Sub ⟨[(16,.sl ns (cg.map iv) (.opn (N+7))),(15,.sl np (aA.map iv) (.opn (N+6))),(11,.sl (i+1) (l.map iv) (.opn (N+2))),(10,.op (N+1) 0),(6,.op N 0),(0,.op t 0),(2,bv true)],Gf y.2++YY [iv first,iv i,iv an,.sl y.1.length (y.1.flatMap Seen.l) (.opn (N+5)),.sl np (cT.flatMap aH.l) (.opn (N+3)),.sl ns (fi.flatMap aH.l) (.opn (N+4))] np ns y.1.length np ns⟩) Ψ):=by
 obtain⟨zg,y0,y1,y3,y4,y5,y6,y7,u7,Do,Dp,Dq,HC,dM,HD⟩:=hY;have mM:∀L:List aa,eg (λτ=>Gf τ++L) t (N+L.length):=λL=>hT.more L;have je:=am.len;unfold vB XC;dsimp only[S8,ub,cs,cf];obtain⟨hz,zu⟩:∃hz:Nat->List Seen×bt,∀j,hz j=rW l i ρ4 j:=⟨_,λ_=>rfl⟩;have oE:∀j,(hz j).1.length=j:=λj=>by rw[zu];exact abV _ _ _ _
 have Ld:∀j:Nat,(hz j).2.Ok (b+91+3* j):=λj=>by rw[zu];exact(abX FZ _ _ j).mono (by omega)
 have iC:hz 0=([],ρ4):=zu 0;refine cJ ?_;refine gP cn (λj:Nat=>[(20,iv ((cn:Int)-j))]) (λj=>Gf (hz j).2++YY [iv first,iv i,iv an,.sl j ((hz j).1.flatMap Seen.l) (.opn (N+5)),.sl np (cT.flatMap aH.l) (.opn (N+3)),.sl ns (fi.flatMap aH.l) (.opn (N+4))] np ns j np ns) (λ_=>True) (λ_ _=>rfl) (by simp only[seval];simp[bA,Wk.refl]) (by rw[iC];rfl) (λ_ _ _=>by simp[hT.len,zg]) trivial (λcp dz j o_ _ R hR=> ?_);clear cp dz;have lx:=Ld j;refine ai ?_;refine aD ?_;refine⟨λhc=> ?_,λhc=> ?_⟩
 ·have eR:j<cn:=by omega
  have eZ:hz (j+1)=((hz j).1++[⟨dI (hz j).2 i,mH (tick (hz j).2) (l.getD (dI (hz j).2 i).toNat 0) 1 0 99⟩],tick (tick (tick (hz j).2))):=by rw[zu,zu];rfl
  have rK:=oE j;generalize Fg:hz j=hj at lx eZ rK⊢;obtain⟨ss,ρj⟩:=hj;dsimp only at lx eZ rK⊢;have hur:=mY ρj i;obtain⟨u,hu⟩:∃u:Nat,dI ρj i=u:=⟨(dI ρj i).toNat,by omega⟩;rw[hu,Vz]at eZ;have hui:u<=i:=by omega
  obtain⟨n,Kt⟩:=cz (xs:=l) (i:=u) (by omega);have Fc:l.getD u 0=n:=by rw[SE,Kt];rfl
  rw[Fc]at eZ;have rC:=am.ge (by omega) u hui;rw[Fc]at rC;have as1:0<=n/\n<=1000:=by
   have:=adf (v:=0) rC (by omega) rn xM (by omega);omega
  have xG:SF.wrap ((cn:Int)-j-1)=(cn:Int)-((j+1:Nat):Int):=by rw[bI _ (by omega)];omega
  have QH:(0<=(u:Int)/\(u:Int)<(i:Int)+1)=True:=by simp;omega
  refine aN ?_;refine ak ?_;simp only[seval,y1];refine aK ((sH (n:=i) (mM _) lx (by omega) (by omega) ?_));rw[hu];(try simp only[seval]);have OF:=λ(L:List aa) k kp=>IY (lv:=lv) (k:=k) (kp:=kp) (n:=n) (m:=1) (lo:=0) (hi:=99) (mM L) lx.tick (by omega) (by omega) (by decide);obtain⟨y,hy⟩:∃y,y=mH (tick ρj) n 1 0 99:=⟨_,rfl⟩;rw[<- hy]at eZ OF;obtain⟨FP,rf⟩:∃FP,FP=ss.flatMap Seen.l:=⟨_,rfl⟩;have vK:FP.length=j* 3:=by rw[rf,PO,rK]
  have Bz:FP++[iv u,iv y.min,iv y.max]=(hz (j+1)).1.flatMap Seen.l:=by rw[eZ,Jb,rf];rfl
  rw[<- rf];refine qU [9,12,14] [0,1,2,3,4,5,6,7,8,9,10,11,12,13,14] [⟨0,false,[],[([9],[9])]⟩,⟨1,false,[],[([9],[9])]⟩,⟨2,false,[],[([9],[9])]⟩,⟨3,false,[],[]⟩,⟨4,false,[],[]⟩,⟨5,false,[],[]⟩,⟨6,false,[],[]⟩,⟨7,false,[],[]⟩,⟨8,false,[],[]⟩,⟨9,true,[9],[]⟩,⟨10,false,[9],[]⟩,⟨11,false,[9],[]⟩,⟨12,true,[9,12],[]⟩,⟨13,false,[9,12],[]⟩,⟨14,true,[9,12,14],[]⟩] (λD=>bif isDone 14 D then Gf (tick (tick (tick ρj)))++YY [iv first,iv i,iv an,.sl (j+1) (FP++[iv u,iv y.min,iv y.max]) (.opn (N+5)),.sl np (cT.flatMap aH.l) (.opn (N+3)),.sl ns (fi.flatMap aH.l) (.opn (N+4))] np ns (j+1) np ns else bif isDone 12 D then Gf (tick (tick (tick ρj)))++YY [iv first,iv i,iv an,.sl j FP (.opn (N+5)),.sl np (cT.flatMap aH.l) (.opn (N+3)),.sl ns (fi.flatMap aH.l) (.opn (N+4))] np ns (j+1) np ns else bif isDone 9 D then Gf (tick (tick (tick ρj)))++YY [iv first,iv i,iv an,.sl j FP (.opn (N+5)),.sl np (cT.flatMap aH.l) (.opn (N+3)),.sl ns (fi.flatMap aH.l) (.opn (N+4))] np ns j np ns else Gf (tick ρj)++YY [iv first,iv i,iv an,.sl j FP (.opn (N+5)),.sl np (cT.flatMap aH.l) (.opn (N+3)),.sl ns (fi.flatMap aH.l) (.opn (N+4))] np ns j np ns) ?_;simp only[seval,zS1,C0,y1,y5,u7,Dq,fN Kt,QH,vK,je];have Cw:y.l=[iv y.min,iv y.max]:=rfl;refine kY y.av _ (cO (OF _ _ _ ⟨rfl,rfl⟩)) ?_;(try simp only[seval,zS1,C0,y1,y5,u7,Dq,fN Kt,QH,vK,je,jq.av,Cw]);refine⟨by omega,?_⟩;refine ak ?_;simp only[seval,xG];refine hR _ ⟨by omega,trivial,?_⟩;rw[<- Bz,eZ];exact dE
 ·have xH:j=cn:=by omega
  subst xH;clear hR;refine bU ?_;have dN:=oE j;have hsm:∀s∈(hz j).1,0<=s.hour/\s.hour<=i/\∃τ,s.next=mH τ (l.getD s.hour.toNat 0) 1 0 99:=by
   rw[zu];exact abW (λτ=>by have:=mY τ i;omega) j
  refine⟨((hz j).1,(hz j).2),⟨by dsimp only;omega,hsm,lx.mono (by omega)⟩,fP (by simp only[seval];simp[bA,Wk.refl]) ?_⟩;dsimp only;rw[dN]
theorem arG{a a' b b' c c' d d':AV}(h1:Wk a a')(h2:Wk b b')(h3:Wk c c')(h4:Wk d d'):Wk (.aJ [a,b,c,d]) (.aJ [a',b',c',d']):=λE v h=>by
 cases h with
 |aJ hs h=>
  refine .aJ hs λi x e=> ?_
  match i with
  |0=>cases e;exact h1 _ _ (h 0 a rfl)
  |1=>cases e;exact h2 _ _ (h 1 b rfl)
  |2=>cases e;exact h3 _ _ (h 2 c rfl)
  |3=>cases e;exact h4 _ _ (h 3 d rfl)
theorem ahr{i np ns:Nat}{first an:Int}{l aA cg:List Int}{cT fi:List aH}{ρ3:bt}{zc:aa}{YY:List AV->Nat->Nat->Nat->Nat->Nat->List aa}(hT:eg Gf t N)(hH:∀τ,bQ (Gf τ))(hY:AX Gf N zc YY)(Cy:zc=.cells [.val (.int .i64 0),.val (.int .i64 0),.val (.int .i64 0),.sl 0 [] .exact,.sl 0 [] .exact,.sl 0 [] .exact] 26)(hb:b<2^10)(hi:1<=i/\i<=3)(rn:0<=first/\first<=90)(xM:1<=an/\an<=3)(am:m8 first an l i)(Cz:ρ3.Ok (b+90))(FB:cT.length=np)(jX:aA.length=np)(nM:fi.length=ns)(aF:cg.length=ns)
  (hk:∀(ss:List Seen)(τ':bt),ss.length<=2->(∀s∈ss,0<=s.hour/\s.hour<=i/\∃τ,s.next=mH τ (l.getD s.hour.toNat 0) 1 0 99)->τ'.Ok (b+200)->k (.aJ [aj.av ⟨first,i,an,ss,cT,fi⟩,bk l,bk aA,bk cg]) (Gf τ')):
  aX lv SC none 240 (ub 10 vB) ⟨[(16,.sl ns (cg.map iv) (.opn (N+7))),(15,.sl np (aA.map iv) (.opn (N+6))),(11,.sl (i+1) (l.map iv) (.opn (N+2))),(10,.op (N+1) 0),(6,.op N 0),(0,.op t 0),(2,bv true)],Gf ρ3++YY [iv first,iv i,iv an,.sl 0 [] (.opn (N+5)),.sl np (cT.flatMap aH.l) (.opn (N+3)),.sl ns (fi.flatMap aH.l) (.opn (N+4))] np ns 0 np ns⟩ (tO SC [.cell 6 26,.tmp 7,.tmp 8,.tmp 9] N k kp):=by
 have hY':=hY;obtain⟨zg,y0,y1,y3,y4,y5,y6,y7,u7,Do,Dp,Dq,HC,dM,HD⟩:=hY;have mM:∀L:List aa,eg (λτ=>Gf τ++L) t (N+L.length):=λL=>hT.more L;have K2:∀τ (L:List aa)(y:aa),(Gf τ++L).set N y=Gf τ++L.set 0 y:=λτ L y=>by have:=ez (Gf τ) L 0 y;rwa [hT.len]at this
 have FQ:∀τ (L:List aa),(Gf τ++L)[N]?=L[0]?:=λτ L=>by have:=aW (Gf τ) L 0;rwa [hT.len]at this
 unfold vB XC;dsimp only[S8,ub,cs,cf];refine ai ?_;refine aK ((sH (n:=2) (mM _) Cz (by omega) (by omega) ?_));have gS:=mY ρ3 2;generalize dI ρ3 2=u2 at gS⊢;obtain⟨cn,rfl⟩:∃cn:Nat,u2=cn:=⟨u2.toNat,by omega⟩;have FZ:=Cz.tick;generalize tick ρ3=ρ4 at FZ⊢;(try simp only[seval]);refine H8 (α:=List Seen×bt) (λy=>⟨[(16,.sl ns (cg.map iv) (.opn (N+7))),(15,.sl np (aA.map iv) (.opn (N+6))),(11,.sl (i+1) (l.map iv) (.opn (N+2))),(10,.op (N+1) 0),(6,.op N 0),(0,.op t 0),(2,bv true)],Gf y.2++YY [iv first,iv i,iv an,.sl y.1.length (y.1.flatMap Seen.l) (.opn (N+5)),.sl np (cT.flatMap aH.l) (.opn (N+3)),.sl ns (fi.flatMap aH.l) (.opn (N+4))] np ns y.1.length np ns⟩) (λy=>y.1.length<=2/\(∀s∈y.1,0<=s.hour/\s.hour<=i/\∃τ,s.next=mH τ (l.getD s.hour.toNat 0) 1 0 99)/\y.2.Ok (b+97)) ?_ (λy hy=> ?_)
 ·exact mJ (s':=⟨[(20,iv cn),(16,.sl ns (cg.map iv) (.opn (N+7))),(15,.sl np (aA.map iv) (.opn (N+6))),(11,.sl (i+1) (l.map iv) (.opn (N+2))),(10,.op (N+1) 0),(6,.op N 0),(0,.op t 0),(2,bv true)],Gf ρ4++YY [iv first,iv i,iv an,.sl 0 [] (.opn (N+5)),.sl np (cT.flatMap aH.l) (.opn (N+3)),.sl ns (fi.flatMap aH.l) (.opn (N+4))] np ns 0 np ns⟩) (fP (by simp only[seval];simp[bA,Wk.refl]) rfl) (ahu hT hY' hb hi rn xM am (by omega) (FZ.mono (by omega)))
 obtain⟨ss,ρ5⟩:=y;obtain⟨dD,fY,po⟩:=hy;dsimp only at dD fY po⊢;have y00:∀τ r a b c d e,(Gf τ++YY r a b c d e)[N]?=some (.cells [.val (.int .i64 0),.val (.int .i64 0),.val (.int .i64 0),.sl 0 [] .exact,.sl 0 [] .exact,.sl 0 [] .exact] 26):=λτ r a b c d e=>by rw[y0,Cy]
 refine ai ?_;refine aD ?_;refine ak ?_;simp only[seval,y1,y00];rw[K2];obtain⟨LL,Qm⟩:=dM [iv first,iv i,iv an,.sl ss.length (ss.flatMap Seen.l) (.opn (N+5)),.sl np (cT.flatMap aH.l) (.opn (N+3)),.sl ns (fi.flatMap aH.l) (.opn (N+4))] np ns ss.length np ns (.cells [iv first,iv i,iv an,.sl ss.length (ss.flatMap Seen.l) (.opn (N+5)),.sl np (cT.flatMap aH.l) (.opn (N+3)),.sl ns (fi.flatMap aH.l) (.opn (N+4))] 26);simp only[iv]at Qm;rw[Qm];refine oU ?_;simp only[seval,FQ];have dH:=hk ss ρ5 dD fY (po.mono (by omega));refine jU (b:=.aJ [aj.av ⟨first,i,an,ss,cT,fi⟩,bk l,bk aA,bk cg]) (H':=Gf ρ5) (arG (Np (.cons (Wk.refl _) (.cons (Wk.refl _) (.cons (Wk.refl _) (.cons (iX _ _ _) (.cons ?_ (.cons ?_ .nil))))))) ?_ ?_ ?_) rfl (by simp[hT.len]) (hH _) (by simp only[iE,SL,S4,or_false,forall_eq_or_imp,forall_eq,Gi,zV,and_self]) dH
 ·rw[<- FB];exact iX _ _ _
 ·rw[<- nM];exact iX _ _ _
 ·rw[<- am.len];exact iX _ _ _
 ·rw[<- jX];exact iX _ _ _
 ·rw[<- aF];exact iX _ _ _
end
section
variable {lv:Bool}{k kp:AV->List aa->Prop}{Gf:bt->List aa}{t N:Nat}{τ:bt}{b:Int}
theorem aht{pm:Nat}(hT:eg Gf t N)(hτ:τ.Ok b)(hb:b<2^10)(s8:pm<=4)(hk:∀x bu aA cg τ',Made pm x bu aA cg->τ'.Ok (b+200)->k (.aJ [x.av,bk bu,bk aA,bk cg]) (Gf τ')):bc lv SC 15 (Gf τ) [.op t 0,iv pm,bv true] k kp:=by
 refine bH (rs:=[.cell 6 26,.tmp 7,.tmp 8,.tmp 9]) (nt:=240) XC λhH hA=> ?_;simp only[br,SX];have um:∀o:aa,eg (λτ=>Gf τ++[o]) t (N+1):=λo=>hT.more [o];have mS:∀τ (L:List aa)(j:Nat),(Gf τ++L)[N+j]?=L[j]?:=λτ L j=>by rw[<- hT.len τ,aW]
 have dV:∀τ (L:List aa)(j:Nat)(y:aa),(Gf τ++L).set (N+j) y=Gf τ++L.set j y:=λτ L j y=>by rw[<- hT.len τ,ez]
 have FQ:∀τ (L:List aa),(Gf τ++L)[N]?=L[0]?:=λτ L=>mS τ L 0;have K2:∀τ (L:List aa)(y:aa),(Gf τ++L).set N y=Gf τ++L.set 0 y:=λτ L y=>dV τ L 0 y;refine ai ?_;refine ai ?_;refine aK ((sH (um _) hτ (by omega) (by omega) ?_));have r1:=mY τ 90;generalize dI τ 90=u1 at r1⊢;(try simp only[seval,zE4,Ac]);refine aK ((IX (ns:=[0,1,10,u1]) (um _) hτ.tick (by omega) (by simp) (by simp) ?_));have r2:=IN (tick τ) (ns:=[0,1,10,u1]) (by simp);simp only[SL,S4,or_false]at r2;generalize vH (tick τ) [0,1,10,u1]=first at r2⊢
 (try simp only[seval]);refine aK ((ahD (lo:=1) (hi:=3) (um _) hτ.tick.tick (by omega) (by decide) (by decide) ?_));have r3:=arF (tick (tick τ)) (show (1:Int)<=3 by decide);generalize Dl (tick (tick τ)) 1 3=hours at r3⊢;(try simp only[seval,zE4,Ac]);refine aK ((IX (ns:=[1,2,2,3]) (um _) hτ.tick.tick.tick (by omega) (by simp) (by simp) ?_));have r4:=IN (tick (tick (tick τ))) (ns:=[1,2,2,3]) (by simp);simp only[SL,S4,or_false]at r4;generalize vH (tick (tick (tick τ))) [1,2,2,3]=an at r4⊢;have rn:0<=first/\first<=90:=by omega
 have xM:1<=an/\an<=3:=by omega
 clear r1 r2 r4;have hσ:(tick (tick (tick (tick τ)))).Ok (b+4):=hτ.tick.tick.tick.tick.mono (by omega);generalize tick (tick (tick (tick τ)))=σ at hσ⊢;(try simp only[seval,hT.len,mS,dV,FQ,K2]);refine ak ?_;simp only[seval,mS,z1,Ab]
 (repeat apply gQ);refine vu (t:=11) (sz:=1) (el:=3) (by simp only[seval]<;>rfl) ?_
 simp only[seval,hT.len]
 (repeat apply gQ);refine H_ (id:=N+1) (j:=4) (sz:=4) (gn:=48) (by simp only[seval,mS]<;>rfl) rfl ?_
 simp only[seval,dV,hT.len]
 (repeat apply gQ);refine H_ (id:=N+1) (j:=5) (sz:=4) (gn:=48) (by simp only[seval,mS]<;>rfl) rfl ?_
 simp only[seval,dV,hT.len]
 (repeat apply gQ);refine H_ (id:=N+1) (j:=3) (sz:=3) (gn:=61) (by simp only[seval,mS]<;>rfl) rfl ?_
 simp only[seval,dV,hT.len];refine Oe [11,10,6,0,1,2] ?_;show aX _ _ _ _ _ ⟨[(11,.sl 1 [iv first] (.opn (N+2))),(10,.op (N+1) 0),(6,.op N 0),(0,.op t 0),(1,iv pm),(2,bv true)],_⟩ _;obtain⟨zc,Cy⟩:∃zc:aa,zc=.cells [iv 0,iv 0,iv 0,.sl 0 [] .exact,.sl 0 [] .exact,.sl 0 [] .exact] 26:=⟨_,rfl⟩;simp only[iv]at Cy;rw[<- Cy];obtain⟨hn,hhn⟩:∃hn:Nat,hours=hn:=⟨hours.toNat,by omega⟩;subst hhn;refine ai ?_;refine cJ ?_;refine gP hn (λi:Nat=>[(11,.sl (i+1) ((lh σ first an i).1.map iv) (.opn (N+2))),(12,iv i)]) (λi=>Gf (lh σ first an i).2++[zc,.cells [iv first,iv hn,iv an,.sl 0 [] (.opn (N+5)),.sl 0 [] (.opn (N+3)),.sl 0 [] (.opn (N+4))] 26,.tail (i+1) 1 3,.tail 0 4 48,.tail 0 4 48,.tail 0 3 61]) (λi=>True) (λ_ _=>rfl) (by simp only[lh];simp only[seval];simp[bA,Wk.refl]) rfl (λ_ _ _=>by simp[hT.len]) trivial (λcp dz i cW _ R hR=> ?_)
 ·clear cp dz;have am:=Ra σ first (an:=an) (by omega) i
  have qp:=Rb hσ first an i
  have eZ:lh σ first an (i+1)=((lh σ first an i).1++[(lh σ first an i).1.getD i 0+wE (lh σ first an i).2 an],tick (tick (lh σ first an i).2)):=rfl
  have sU:=am.ge (by omega) i (SU _);generalize lh σ first an i=m at am qp eZ sU hR⊢
  obtain⟨l,ρ⟩:=m;dsimp only at am qp eZ sU⊢;have je:=am.len;refine ak ?_;simp only[seval,mS];refine aD ?_;refine⟨λh=> ?_,λh=> ?_⟩
  ·as_aux_lemma=>
   have bG:i<hn:=(by omega);obtain⟨w,hw⟩:=cz (xs:=l) (i:=i) (by omega);have Fe:l.getD i 0=w:=(by rw[SE,hw];rfl);rw[Fe]at eZ sU;have aT:=acs ρ (an:=an) (by omega);have R4:wE ρ an=vH (tick ρ) [0,an,dI ρ an]:=rfl;obtain⟨v,hv⟩:∃v,v=wE ρ an:=⟨_,rfl⟩;rw[<- hv]at eZ aT R4;have Ct:SF.wrap (w+v)=w+v:=Lg (adf sU aT rn xM (by omega));have fU:SF.wrap ((i:Int)+1)=((i+1:Nat):Int):=(by rw[bI _ (by omega)];rfl);have iM:(0<=(i:Int)/\(i:Int)<(i:Int)+1)=True:=(by simp;omega);have mM:∀L:List aa,eg (λτ=>Gf τ++L) t (N+L.length):=λL=>hT.more L;refine aN ?_;refine cJ ?_;obtain⟨X,hX⟩:∃X:Nat->List aa,∀a,X a=[zc,.cells [iv first,iv hn,iv an,.sl 0 [] (.opn (N+5)),.sl 0 [] (.opn (N+3)),.sl 0 [] (.opn (N+4))] 26,.tail a 1 3,.tail 0 4 48,.tail 0 4 48,.tail 0 3 61]:=⟨_,λ_=>rfl⟩;have Qu:=(hX (i+1)).symm;simp only[iv]at Qu;have x1:∀τ a,(Gf τ++X a)[N+1]?=some (.cells [iv first,iv hn,iv an,.sl 0 [] (.opn (N+5)),.sl 0 [] (.opn (N+3)),.sl 0 [] (.opn (N+4))] 26):=λτ a=>(by rw[mS,hX];rfl);have x2:∀τ a,(Gf τ++X a)[N+2]?=some (.tail a 1 3):=λτ a=>(by rw[mS,hX];rfl);have Ny:∀τ a a',(Gf τ++X a).set (N+2) (.tail a' 1 3)=Gf τ++X a':=λτ a a'=>(by rw[dV,hX,hX];rfl);rw[Qu];refine qU [11,13,16] [0,1,2,3,4,5,6,7,8,9,10,11,12,13,14,15,16,17] [⟨0,false,[],[([11],[11]),([11,13],[11,13])]⟩,⟨1,false,[],[([11],[11]),([11,13],[11,13])]⟩,⟨2,false,[],[([11],[11]),([11,13],[11,13])]⟩,⟨3,false,[],[([11],[11]),([11,13],[11,13])]⟩,⟨4,false,[],[([11],[11]),([11,13],[11,13])]⟩,⟨5,false,[],[([11],[11])]⟩,⟨6,false,[],[([11],[11])]⟩,⟨7,false,[],[([11],[11])]⟩,⟨8,false,[],[]⟩,⟨9,false,[],[]⟩,⟨10,false,[],[]⟩,⟨11,true,[11],[]⟩,⟨12,false,[11],[]⟩,⟨13,true,[11,13],[]⟩,⟨14,false,[11,13],[]⟩,⟨15,false,[11,13],[]⟩,⟨16,true,[11,13,16],[]⟩,⟨17,false,[11,13,16],[]⟩] (λD=>bif isDone 16 D then Gf (tick (tick ρ))++X (i+1+1)else bif isDone 13 D then Gf (tick (tick ρ))++X (i+1)else bif isDone 11 D then Gf (tick ρ)++X (i+1)else Gf ρ++X (i+1)) ?_;simp only[seval,NE,C0,z1,Ab,x1,x2,Ny,fN hw,iM,Ct,je];refine kY _ _ (cO (sH (mM (X (i+1))) qp (by omega) (by omega) ⟨rfl,rfl⟩)) ?_;(try simp only[seval,NE,C0,z1,Ab,x1,x2,Ny,fN hw,iM,Ct,je]);refine kY (iv v) _ (cO (IX (ns:=[0,an,dI ρ an]) (mM (X (i+1))) qp.tick (by omega) (by simp) (by simp) ⟨by rw[R4],rfl⟩)) ?_;(try simp only[seval,NE,C0,z1,Ab,x1,x2,Ny,fN hw,iM,Ct,je]);refine⟨by omega,?_⟩;refine ak ?_;simp only[seval,fU];refine hR _ ⟨bG,trivial,?_⟩;rw[eZ,TF,hX];exact dE
  ·as_aux_lemma=>
   have cS:i=hn:=(by omega);subst cS;clear hR;refine bU ?_;obtain⟨w,hw⟩:=cz (xs:=l) (i:=i) (by omega);have Fe:l.getD i 0=w:=(by rw[SE,hw];rfl);have FU:first<=w/\w<=first+9:=by
    rw[Fe]at sU;have:an* (i:Int)<=3* 3:=Yg (by omega) (by omega) (by omega) (by omega);generalize an* (i:Int)=q at sU this;omega
   obtain⟨mn,qi⟩:∃mn:Nat,w-first=mn:=⟨(w-first).toNat,by omega⟩
   have Rv:mn<=9:=(by omega);have hwm:SF.wrap (w-first)=mn:=(by rw[Lg (by omega),qi]);have iM:(0<=(i:Int)/\(i:Int)<(i:Int)+1)=True:=(by simp;omega);refine eO 8 ?_;simp only[seval,mS,fN hw,iM,hwm];have mM:∀L:List aa,eg (λτ=>Gf τ++L) t (N+L.length):=λL=>hT.more L;refine ai ?_;refine aK ((Px (n:=mn) (mM _) qp (by omega) (by omega) ?_));have qj:=aaN ρ mn;have qp:=Gq qp mn mn;generalize iw ρ mn mn=m2 at qj qp⊢;obtain⟨order,ρ⟩:=m2;dsimp only at qj qp⊢;(try simp only[seval]);refine ai ?_
   (repeat apply gQ);refine vu (t:=15) (sz:=1) (el:=3) (by simp only[seval]<;>rfl) ?_
   simp only[seval,hT.len]
   (repeat apply gQ);refine vu (t:=16) (sz:=1) (el:=3) (by simp only[seval]<;>rfl) ?_
   simp only[seval,hT.len];refine Oe [16,15,14,13,11,10,6,0,1,2] ?_;show aX _ _ _ _ _ ⟨[(16,.sl 0 [] (.opn (N+7))),(15,.sl 0 [] (.opn (N+6))),(14,bk order),(13,iv mn),(11,.sl (i+1) (l.map iv) (.opn (N+2))),(10,.op (N+1) 0),(6,.op N 0),(0,.op t 0),(1,iv pm),(2,bv true)],_⟩ _;obtain⟨YY,jV⟩:∃YY:List AV->Nat->Nat->Nat->Nat->Nat->List aa,∀r a b c d e,YY r a b c d e=[zc,.cells r 26,.tail (i+1) 1 3,.tail a 4 48,.tail b 4 48,.tail c 3 61,.tail d 1 3,.tail e 1 3]:=⟨_,λ_ _ _ _ _ _=>rfl⟩;have hY:AX Gf N zc YY:=by
    refine⟨λr a b c d e=>by rw[jV];rfl,λτ r a b c d e=>by rw[FQ,jV];rfl,λτ r a b c d e=>by rw[mS,jV];rfl,λτ r a b c d e=>by rw[mS,jV];rfl,λτ r a b c d e=>by rw[mS,jV];rfl,λτ r a b c d e=>by rw[mS,jV];rfl,λτ r a b c d e=>by rw[mS,jV];rfl,λτ r a b c d e=>by rw[mS,jV];rfl,λτ r r' a b c d e=>by rw[dV,jV,jV];rfl,λτ r a a' b c d e=>by rw[dV,jV,jV];rfl,λτ r a b b' c d e=>by rw[dV,jV,jV];rfl,λτ r a b c c' d e=>by rw[dV,jV,jV];rfl,λτ r a b c d d' e=>by rw[dV,jV,jV];rfl,λr a b c d e y=>⟨_,by rw[jV];rfl⟩,λτ r a b c d e e'=>by rw[dV,jV,jV];rfl⟩
   have Qv:[zc,.cells [iv first,iv i,iv an,.sl 0 [] (.opn (N+5)),.sl 0 [] (.opn (N+3)),.sl 0 [] (.opn (N+4))] 26,.tail (i+1) 1 3,.tail 0 4 48,.tail 0 4 48,.tail 0 3 61,.tail 0 1 3,.tail 0 1 3]=YY [iv first,iv i,iv an,.sl 0 [] (.opn (N+5)),.sl 0 [] (.opn (N+3)),.sl 0 [] (.opn (N+4))] 0 0 0 0 0:=(by rw[jV]);simp only[iv]at Qv;rw[Qv];refine ai ?_;refine H8 (α:=Nat×bt) (λy=>⟨[(16,.sl 0 [] (.opn (N+7))),(15,.sl y.1 ((kM first order y.1).map iv) (.opn (N+6))),(13,iv mn),(11,.sl (i+1) (l.map iv) (.opn (N+2))),(10,.op (N+1) 0),(6,.op N 0),(0,.op t 0),(2,bv true)],Gf y.2++YY [iv first,iv i,iv an,.sl 0 [] (.opn (N+5)),.sl y.1 ((kD l i (λj=>first+order.getD j 0) ρ y.1).1.flatMap aH.l) (.opn (N+3)),.sl 0 [] (.opn (N+4))] y.1 0 0 y.1 0⟩) (λy=>y.1<=pm/\y.1<=mn/\y.2.Ok (b+60)) ?_ (λy hy=> ?_)
   ·exact ahv hT hY hb s8 (by omega) rn je Rv qj (qp.mono (by omega))
   ·as_aux_lemma=>
    obtain⟨np,ρ1⟩:=y;obtain⟨ako,akp,Lf⟩:=hy;dsimp only at ako akp Lf⊢;have FB:(kD l i (λj=>first+order.getD j 0) ρ np).1.length=np:=zk _ _ _ _ _;have RS:∀(p:Nat) z,(kD l i (λj=>first+order.getD j 0) ρ np).1[p]?=some z->∃τ,z=lL τ l (first+order.getD p 0) i:=λp z hz=>JE (P:=λn z=>∃τ,z=lL τ l n i) (λτ n=>⟨τ,rfl⟩) np p z hz;generalize(kD l i (λj=>first+order.getD j 0) ρ np).1=cT at FB RS⊢;have jX:=aaY first order np
    have uz:∀n∈kM first order np,first<=n/\n<w:=λn hn=>by
     unfold kM at hn;obtain⟨p,hp,rfl⟩:=Tn.1 hn;have hp:=TG.1 hp;obtain⟨o,ho⟩:=cz (xs:=order) (i:=p) (by rw[qj.len];omega);have:=qj.GW o (wn ho);rw[SE,ho];simp only[S8];omega
    have Ce:(kM first order np).Nodup:=by
     have e:kM first order np=(order.take np).map λo=>first+o:=by
      unfold kM;refine amN (by rw[To,T_,qj.len];omega) λp hp=> ?_;rw[Tj,Ua,if_pos hp,SE];obtain⟨o,ho⟩:=cz (xs:=order) (i:=p) (by rw[qj.len];omega);rw[ho];rfl
     rw[e];have h1:(order.take np).Nodup:=Yp (Zf _ _) qj.nodup;rw[Uv,XM];exact(Uv.1 h1).imp λh e=>h (by omega)
    have Ry:∀p,p<np->(kM first order np).getD p 0=first+order.getD p 0:=λp hp=>by
     unfold kM;rw[SE,Tj,Xz hp];rfl
    generalize kM first order np=aA at jX uz Ce Ry⊢
    refine ai ?_;refine aK ((Px (n:=np) (mM _) Lf (by omega) (by omega) ?_));have s9:=aaN ρ1 np;have xX:=Gq Lf np np;generalize iw ρ1 np np=m3 at s9 xX⊢;obtain⟨hO,ρ2⟩:=m3;dsimp only at s9 xX⊢;have xX:ρ2.Ok (b+64):=xX.mono (by omega);(try simp only[seval]);have hwe:bk hO=.sl np (hO.map iv) .shut:=(by rw[bk,s9.len]);rw[hwe];refine ai ?_;refine H8 (α:=Nat×bt) (λy=>⟨[(16,.sl y.1 ((hO.take y.1).map iv) (.opn (N+7))),(15,.sl np (aA.map iv) (.opn (N+6))),(11,.sl (i+1) (l.map iv) (.opn (N+2))),(10,.op (N+1) 0),(6,.op N 0),(0,.op t 0),(2,bv true)],Gf y.2++YY [iv first,iv i,iv an,.sl 0 [] (.opn (N+5)),.sl np (cT.flatMap aH.l) (.opn (N+3)),.sl y.1 ((kD l i (λj=>aA.getD (hO.getD j 0).toNat 0) ρ2 y.1).1.flatMap aH.l) (.opn (N+4))] np y.1 0 np y.1⟩) (λy=>y.1<=np/\y.1<=3/\y.2.Ok (b+90)) ?_ (λy hy=> ?_)
    ·exact mJ (s':=⟨[(19,iv 0),(18,.sl np (hO.map iv) .shut),(16,.sl 0 [] (.opn (N+7))),(15,.sl np (aA.map iv) (.opn (N+6))),(11,.sl (i+1) (l.map iv) (.opn (N+2))),(10,.op (N+1) 0),(6,.op N 0),(0,.op t 0),(2,bv true)],Gf ρ2++YY [iv first,iv i,iv an,.sl 0 [] (.opn (N+5)),.sl np (cT.flatMap aH.l) (.opn (N+3)),.sl 0 [] (.opn (N+4))] np 0 0 np 0⟩) (fP (by simp only[seval];simp[bA,Wk.refl]) rfl) (ahs hT hY hb (by omega) rn FU je (by omega) jX uz s9 xX)
    ·as_aux_lemma=>
     obtain⟨ns,ρ3⟩:=y;obtain⟨akq,akr,Cz⟩:=hy;dsimp only at akq akr Cz⊢;have nM:(kD l i (λj=>aA.getD (hO.getD j 0).toNat 0) ρ2 ns).1.length=ns:=zk _ _ _ _ _;have R7:∀(s:Nat) z,(kD l i (λj=>aA.getD (hO.getD j 0).toNat 0) ρ2 ns).1[s]?=some z->∃τ,z=lL τ l (aA.getD (hO.getD s 0).toNat 0) i:=λs z hz=>JE (P:=λn z=>∃τ,z=lL τ l n i) (λτ n=>⟨τ,rfl⟩) ns s z hz;generalize(kD l i (λj=>aA.getD (hO.getD j 0).toNat 0) ρ2 ns).1=fi at nM R7⊢;have rM:=s9.len;have aF:(hO.take ns).length=ns:=(by rw[T_];omega);have jg:∀v∈hO.take ns,0<=v/\v<(np:Int):=λv hv=>s9.GW v (Wu hv);have RO:(hO.take ns).Nodup:=Yp (Zf _ _) s9.nodup;have RN:∀s,s<ns->(hO.take ns).getD s 0=hO.getD s 0:=λs hs=>by
      rw[SE,SE,Ua,if_pos hs]
     generalize hO.take ns=cg at aF jg RO RN⊢;refine ahr hT (λτ'=>hT.am hH τ') hY Cy hb (by omega) rn xM am Cz FB jX nM aF λss τ' h1 h2 h3=>hk _ l aA cg τ' ⟨rn,by dsimp only;omega,xM,by simpa using am,by dsimp only;omega,by dsimp only;omega,λn hn=> ?_,Ce,λp y hy=> ?_,by dsimp only;omega,by dsimp only;omega,λv hv=>by rw[jX];exact jg v hv,RO,λs y hy=> ?_,h1,h2⟩ h3
     ·have:=uz n hn;dsimp only;rw[Vz,Fe];exact this
     ·dsimp only at hy;have hp:=(SN.1 hy).1;obtain⟨τ,e⟩:=RS p y hy;exact⟨τ,by rw[Ry p (by omega)];exact e⟩
     ·dsimp only at hy;have hp:=(SN.1 hy).1;obtain⟨τ,e⟩:=R7 s y hy;exact⟨τ,by rw[RN s (by omega)];exact e⟩
end
end Go.Gg
namespace Go.Gg.Tk
theorem Fh{x:aj}:∀(d:Nat)(pre h:List Int),h∈kF x d pre->h.take pre.length=pre
 |0,pre,h,hm=>by
  unfold kF at hm;split at hm
  ·rw[Tb]at hm;subst hm;exact TP
  ·cases hm
 |d+1,pre,h,hm=>by
  unfold kF at hm;split at hm
  ·obtain⟨n,_,hm⟩:=S6.1 hm;have:=Fh d _ h hm;rw[SQ,T6]at this;have h2:=congrArg (Un pre.length) this;rw[U1,Tw (SU _),TP,Wx (by omega)]at h2;exact h2
  ·cases hm
theorem Q7{x:aj}:∀(d:Nat)(pre:List Int),(kF x d pre).Nodup
 |0,pre=>by
  unfold kF;split
  ·simp
  ·exact WN
 |d+1,pre=>by
  unfold kF;split
  ·unfold List.Nodup;rw[List.pairwise_flatMap];refine⟨λn _=>Q7 d _,?_⟩;refine Y_ ?_ (XZ (n:=x.an.toNat+1));intro a b dl h ha g hb he;subst he;have h1:=Fh d _ h ha;have h2:=Fh d _ h hb;rw[SQ,T6]at h1 h2;have h3:=h1.symm.trans h2;have:=List.append_cancel_left h3;simp at this;exact dl (by omega)
  ·exact WN
theorem aj6(x:aj):(aL x).Nodup:=Q7 _ _
end Go.Gg.Tk
namespace Go.Gg.Tk
theorem F_{h pre:List Int}(hp:pre≠[])(ht:h.take pre.length=pre):pre.getLastD 0=h.getD (pre.length-1) 0:=by
 have hl:0<pre.length:=Vx.2 hp;have e:pre[pre.length-1]?=h[pre.length-1]?:=by
  have:(h.take pre.length)[pre.length-1]?=pre[pre.length-1]?:=by rw[ht]
  rw[<- this,Ua,if_pos (by omega)]
 rw[SE,<- e,Vh,Ye]
def Good (x:aj)(k:Nat)(h:List Int):Prop:=∀j,k<=j->j<h.length->rV x j (h.getD j 0)=true/\(j+1<h.length->∃n:Nat,n<x.an.toNat+1/\h.getD (j+1) 0=h.getD j 0+n)
theorem Hb{h pre:List Int}{v:Int}:h.take (pre.length+1)=pre++[v]<->h.take pre.length=pre/\pre.length<h.length/\h.getD pre.length 0=v:=by
 constructor
 ·intro e;have hl:pre.length+1<=h.length:=by
   have:=congrArg Z8 e;rw[T_,SQ,T6]at this;omega
  have h1:=congrArg (Un pre.length) e;rw[U1,Tw (SU _),TP,Wx (by omega)]at h1;refine⟨h1,by omega,?_⟩;have h2:(h.take (pre.length+1))[pre.length]?=(pre++[v])[pre.length]?:=by rw[e]
  rw[Ua,if_pos (by omega),Tg (SU _),U6]at h2;rw[SE,h2];rfl
 ·rintro⟨h1,h2,h3⟩
  rw[VJ,h1];congr 1;rw[SE,SP h2]at h3;rw[SP h2,<- h3];rfl
theorem Kk{x:aj}:∀(d:Nat)(pre h:List Int),pre≠[]->(h∈kF x d pre<->h.length=pre.length+d/\h.take pre.length=pre/\Good x (pre.length-1) h)
 |0,pre,h,hp=>by
  have hl:0<pre.length:=Vx.2 hp;unfold kF;constructor
  ·intro hm;split at hm
   ·rename_i hs;rw[Tb]at hm;subst hm;refine⟨rfl,TP,λj h1 h2=> ?_⟩;have:j=h.length-1:=(by omega);subst this;rw[F_ hp TP]at hs;exact⟨hs,λh=>by omega⟩
   ·cases hm
  ·rintro⟨h1,h2,h3⟩
   have e:h=pre:=(by rw[<- h2,SY (by omega)]);subst e;have:=(h3 (h.length-1) (SU _) (by omega)).1;rw[<- F_ hp TP]at this;rw[if_pos this];simp
 |d+1,pre,h,hp=>by
  have hl:0<pre.length:=Vx.2 hp;unfold kF;constructor
  ·intro hm;split at hm
   ·rename_i hs;obtain⟨n,hn,hm⟩:=S6.1 hm;rw[Kk d _ h (by simp)]at hm;obtain⟨h1,h2,h3⟩:=hm;rw[SQ,T6]at h1 h2 h3;obtain⟨h4,h5,h6⟩:=Hb.1 h2;rw[F_ hp h4]at hs h6;refine⟨by omega,h4,λj xG Fj=> ?_⟩;by_cases hj:j=pre.length-1
    ·subst hj;refine⟨hs,λ_=>⟨n,TG.1 hn,?_⟩⟩;rw[show pre.length-1+1=pre.length by omega];exact h6
    ·exact h3 j (by omega) Fj
   ·cases hm
  ·rintro⟨h1,h2,h3⟩
   obtain⟨hs,aT⟩:=h3 (pre.length-1) (SU _) (by omega);obtain⟨n,hn,he⟩:=aT (by omega);rw[show pre.length-1+1=pre.length by omega]at he;rw[F_ hp h2,if_pos hs];refine S6.2 ⟨n,TG.2 hn,?_⟩;rw[Kk d _ h (by simp),SQ,T6];exact⟨by omega,Hb.2 ⟨h2,by omega,he⟩,λj xG Fj=>h3 j (by omega) Fj⟩
theorem amX{h:List Int}(hm:∀j,j+1<h.length->h.getD j 0<=h.getD (j+1) 0):sr h:=by
 induction h with
 |nil=>trivial
 |cons a l ih=>
  cases l with
  |nil=>trivial
  |cons b l=>
   refine⟨?_,ih λj hj=> ?_⟩
   ·have:=hm 0 (by simp);simpa using this
   ·have:=hm (j+1) (by simp at hj⊢;omega);simpa using this
theorem Nc{n:Int}:∀(h:List Int)(i:Nat),sr h->(0<=dK i h n<->h.headD 0<=n/\n<h.getLastD 0)
 |[],i,_=>by simp[dK]<;>omega
 |[a],i,_=>by simp[dK]<;>omega
 |a::b::l,i,hm=>by
  obtain⟨h1,h2⟩:=hm;have ih:=Nc (n:=n) (b::l) (i+1) h2;have uw:(a::b::l).getLastD 0=(b::l).getLastD 0:=by simp[Zp]
  rw[uw];unfold dK;split
  ·rename_i h;have bX:b<=(b::l).getLastD 0:=aaO h2;constructor
   ·intro _;exact⟨h.1,by omega⟩
   ·intro _;omega
  ·rename_i h;rw[ih];have e1:(a::b::l).headD 0=a:=rfl;have e2:(b::l).headD 0=b:=rfl;rw[e1,e2];omega
where
 aaO {b:Int}:∀{l:List Int},sr (b::l)->b<=(b::l).getLastD 0
  |[],_=>by simp
  |c::l,hm=>by
   obtain⟨h1,h2⟩:=hm;have:=aaO h2;have e:(b::c::l).getLastD 0=(c::l).getLastD 0:=(by simp[Zp]);rw[e];omega
theorem ac1{h:List Int}{n:Int}(hm:sr h):0<=gK h n<->h.headD 0<=n/\n<h.getLastD 0:=Nc h 0 hm
theorem Ng{n:Int}:∀(h:List Int)(i:Nat),0<=dK i h n->dK i h n+1<i+h.length
 |[],i,h=>by simp[dK]at h
 |[a],i,h=>by simp[dK]at h
 |a::b::l,i,h=>by
  unfold dK at h⊢;split
  ·simp;omega
  ·rename_i hn;rw[if_neg hn]at h;have:=Ng (b::l) (i+1) h;simp at this⊢;omega
theorem aiy{h:List Int}{y:aH}{n:Int}(hm:sr h)(hf:fits h y n=true):n∈Gs h:=by
 unfold fits at hf;simp only[Ti,decide_eq_true_eq]at hf;obtain⟨h1,h2⟩:=(ac1 hm).1 hf.1.1;unfold Gs;refine Tn.2 ⟨(n-h.headD 0).toNat,TG.2 (by omega),by omega⟩
theorem P8{α:Type}[DecidableEq α]{l:List α}{d:α}{i:Nat}(hi:i<l.length):l.Nodup->l.getD i d∉l.take i:=λhn hm=>by
 obtain⟨j,hj⟩:=VI hm;rw[Ua]at hj;split at hj
 ·rename_i cx;rw[SE,SP hi,SP (by omega)]at hj;simp only[S8,Tm]at hj;have h2:=Uv.1 hn;exact(WM.1 h2) j i (by omega) hi cx hj
 ·cases hj
theorem aaV{α:Type}{l:List α}{d:α}(h:∀i,i<l.length->l.getD i d∉l.take i):l.Nodup:=by
 rw[Uv,WM];intro i j hi hj kq e;refine h j hj ?_;rw[SE,SP hj,S8,<- e];exact UP.2 ⟨i,by rw[Ua,if_pos kq,SP hi]⟩
theorem Hc{α:Type}{d:α}{h pre:List α}{v:α}:h.take (pre.length+1)=pre++[v]<->h.take pre.length=pre/\pre.length<h.length/\h.getD pre.length d=v:=by
 constructor
 ·intro e;have hl:pre.length+1<=h.length:=by
   have:=congrArg Z8 e;rw[T_,SQ,T6]at this;omega
  have h1:=congrArg (Un pre.length) e;rw[U1,Tw (SU _),TP,Wx (by omega)]at h1;refine⟨h1,by omega,?_⟩;have h2:(h.take (pre.length+1))[pre.length]?=(pre++[v])[pre.length]?:=by rw[e]
  rw[Ua,if_pos (by omega),Tg (SU _),U6]at h2;rw[SE,h2];rfl
 ·rintro⟨h1,h2,h3⟩
  rw[VJ,h1];congr 1;rw[SE,SP h2]at h3;rw[SP h2,<- h3];rfl
theorem Gv{h:List Int}(hm:sr h):∀(ys:List aH)(t ns:List Int),ns∈mV h ys t<->ns.length=t.length+ys.length/\ns.take t.length=t/\∀i y,ys[i]?=some y->fits h y (ns.getD (t.length+i) 0)=true/\ns.getD (t.length+i) 0∉ns.take (t.length+i)
 |[],t,ns=>by
  simp only[mV,Tb,UQ,UK];constructor
  ·rintro rfl;exact⟨rfl,TP,λi y hy=>by cases hy⟩
  ·rintro⟨h1,h2,_⟩;rw[<- h2,SY (by omega)]
 |y::ys,t,ns=>by
  simp only[mV,S6,Uj,Ti,TV,Uh];constructor
  ·rintro⟨n,⟨_,hf,ht⟩,fX⟩
   rw[Gv hm ys (t++[n]) ns]at fX;obtain⟨h1,h2,h3⟩:=fX;rw[SQ,T6]at h1 h2 h3;obtain⟨h4,h5,h6⟩:=(Hc (d:=0)).1 h2;refine⟨by omega,h4,λi z hz=> ?_⟩
   match i,hz with
   |0,hz=>
    cases hz;rw[UK,h6,h4];refine⟨hf,?_⟩;intro hc;rw[Up]at ht;simp at ht;exact ht hc
   |i+1,hz=>
    have:=h3 i z hz;rw[show t.length+1+i=t.length+(i+1) by omega]at this;exact this
  ·rintro⟨h1,h2,h3⟩
   obtain⟨hf,hn⟩:=h3 0 y rfl;rw[UK]at hf hn;rw[h2]at hn;refine⟨ns.getD t.length 0,⟨aiy hm hf,hf,by rw[Up];simpa using hn⟩,?_⟩;rw[Gv hm ys _ ns,SQ,T6];refine⟨by omega,(Hc (d:=0)).2 ⟨h2,by omega,rfl⟩,λi z hz=> ?_⟩;have:=h3 (i+1) z hz;rw[show t.length+(i+1)=t.length+1+i by omega]at this;exact this
theorem GJ{h ns:List Int}:∀(ss:List aH)(t os:List Nat),os∈pE h ns ss t<->os.length=t.length+ss.length/\os.take t.length=t/\∀i s,ss[i]?=some s->fits h s (ns.getD (os.getD (t.length+i) 0) 0)=true/\os.getD (t.length+i) 0<ns.length/\os.getD (t.length+i) 0∉os.take (t.length+i)
 |[],t,os=>by
  simp only[pE,Tb,UQ,UK];constructor
  ·rintro rfl;exact⟨rfl,TP,λi y hy=>by cases hy⟩
  ·rintro⟨h1,h2,_⟩;rw[<- h2,SY (by omega)]
 |s::ss,t,os=>by
  simp only[pE,S6,Uj,Ti,TV,Uh,TG];constructor
  ·rintro⟨n,⟨hlt,hf,ht⟩,fX⟩
   rw[GJ ss (t++[n]) os]at fX;obtain⟨h1,h2,h3⟩:=fX;rw[SQ,T6]at h1 h2 h3;obtain⟨h4,h5,h6⟩:=(Hc (d:=0)).1 h2;refine⟨by omega,h4,λi z hz=> ?_⟩
   match i,hz with
   |0,hz=>
    cases hz;rw[UK,h6,h4];refine⟨hf,hlt,?_⟩;intro hc;rw[Up]at ht;simp at ht;exact ht hc
   |i+1,hz=>
    have:=h3 i z hz;rw[show t.length+1+i=t.length+(i+1) by omega]at this;exact this
  ·rintro⟨h1,h2,h3⟩
   obtain⟨hf,hlt,hn⟩:=h3 0 s rfl;rw[UK]at hf hlt hn;rw[h2]at hn;refine⟨os.getD t.length 0,⟨hlt,hf,by rw[Up];simpa using hn⟩,?_⟩;rw[GJ ss _ os,SQ,T6];refine⟨by omega,(Hc (d:=0)).2 ⟨h2,by omega,rfl⟩,λi z hz=> ?_⟩;have:=h3 (i+1) z hz;rw[show t.length+(i+1)=t.length+1+i by omega]at this;exact this
end Go.Gg.Tk
namespace Go.Gg.Tk
theorem Q9{x:aj}{bh:Nat}:∀(d:Nat)(pre:List Int),2<=pre.length->mQ x bh d pre=(kF x d pre).map cL
 |0,pre,_=>by
  unfold mQ kF;split<;>rfl
 |d+1,pre,h=>by
  unfold mQ kF;split
  ·rw[Vu];congr 1;funext n;rw[if_neg (λhc=>by have:=hc.1;omega),Q9 d _ (by simp;omega)]
  ·rfl
theorem PP{α:Type}{t:Nat}{f:Nat->List α}:∀m,((S0 m).flatMap λn=>if n≠t then[]else f n)=if t<m then f t else[]
 |0=>by simp
 |m+1=>by
  rw[Vk,Vs,PP m];simp only[Uo,List.flatMap_nil,SZ];by_cases h:m=t
  ·subst h;rw[if_neg (ai_ _),if_neg (by simp),if_pos (Um _),Uw]
  ·rw[if_pos h,SZ];by_cases h2:t<m
   ·rw[if_pos h2,if_pos (by omega)]
   ·rw[if_neg h2,if_neg (by omega)]
theorem Rc{x:aj}{bh:Nat}(hh:1<=x.hours)(ht:bh<x.an.toNat+1):kG x bh=(v6 x bh).map cL:=by
 unfold kG v6;obtain⟨d,hd⟩:∃d,x.hours.toNat=d+1:=⟨x.hours.toNat-1,by omega⟩;rw[hd];unfold mQ;simp only[T6,U6,VH,true_and];rw[show ([x.first]:List Int).getLastD 0=x.first from rfl];split
 ·rw[PP (t:=bh) (f:=λn=>mQ x bh d ([x.first]++[x.first+(n:Int)])),if_pos ht,Q9 d _ (by simp)];rfl
 ·rfl
theorem aj5{x:aj}(hh:1<=x.hours):((S0 (x.an.toNat+1)).flatMap λt=>v6 x t)=aL x:=by
 unfold aL v6;obtain⟨d,hd⟩:∃d,x.hours.toNat=d+1:=⟨x.hours.toNat-1,by omega⟩;rw[hd,VH,show kF x (d+1) [x.first]=(if rV x 0 x.first then(S0 (x.an.toNat+1)).flatMap λn:Nat=>kF x d [x.first,x.first+(n:Int)]else[])from rfl];split
 ·rfl
 ·simp
end Go.Gg.Tk
namespace Go.Gg.Tk
theorem aoU{p:Nat->Bool}{m k:Nat}(h:m<=k):((S0 k).filter λn=>decide (n<m)&&p n)=(S0 m).filter p:=by
 obtain⟨j,rfl⟩:=Nat.exists_eq_add_of_le h;rw[List.range_add,List.filter_append];have h1:((S0 j).map (m+·)).filter (λn=>decide (n<m)&&p n)=[]:=by
  rw[YB];intro a ha;obtain⟨b,_,rfl⟩:=Tn.1 ha;simp only[Ti,decide_eq_true_eq,not_and];exactλhlt=>absurd hlt (by omega)
 rw[h1,SZ];refine Vj λn hn=> ?_;rw[TG]at hn;simp[hn]
theorem I_{α:Type}{c:Nat->Bool}{f:Nat->List α}:∀l:List Nat,(l.flatMap λn=>if c n=true then[]else f n)=(l.filter λn=> !c n).flatMap f
 |[]=>rfl
 |n::l=>by
  rw[Uo,List.filter_cons,I_ l];cases hc:c n<;>simp
def tC (g:aH->Nat->Bool)(m:Nat):List aH->List Nat->List (List Nat)
 |[],t=>[t]
 |y::ys,t=>((S0 m).filter λn=>g y n&& !t.contains n).flatMap λn=>tC g m ys (t++[n])
theorem Mb{g:aH->Nat->Bool}{q:aH->Nat}{m:Nat}(hm:m<=9):∀(ys:List aH)(u:Nat)(t:List Nat),(∀y∈ys,∀n,n<9->(q y).testBit n=(decide (n<m)&&g y n))->(∀n,u.testBit n=t.contains n)->kN (ys.map q) u t=tC g m ys t
 |[],u,t,_,_=>rfl
 |y::ys,u,t,hq,hu=>by
  rw[UW,kN,tC];have e1:((S0 9).flatMap λn=>if(u.testBit n|| !(q y).testBit n)=true then[]else kN (ys.map q) (u|||2^n) (t++[n]))=((S0 9).filter λn=> !(u.testBit n|| !(q y).testBit n)).flatMap λn=>kN (ys.map q) (u|||2^n) (t++[n]):=I_ _;rw[e1];have e2:((S0 9).filter λn=> !(u.testBit n|| !(q y).testBit n))=(S0 m).filter λn=>g y n&& !t.contains n:=by
   rw[<- aoU hm];refine Vj λn hn=> ?_;rw[TG]at hn;rw[hu,hq y (by simp) n hn];cases t.contains n<;>cases decide (n<m)<;>cases g y n<;>rfl
  rw[e2];congr 1;funext n;refine Mb hm ys _ _ (λz hz=>hq z (by simp[hz])) λi=> ?_;rw[Xo,hu,VP,YQ];simp[eq_comm]
theorem aa1{h:List Int}{a:Int}{g:aH->Nat->Bool}{m:Nat}(hr:Gs h=(S0 m).map λi:Nat=>a+(i:Int)):∀(ys:List aH)(t:List Nat),(∀y∈ys,∀n,n<m->fits h y (a+(n:Int))=g y n)->mV h ys (t.map λi:Nat=>a+(i:Int))=(tC g m ys t).map λl=>l.map λi:Nat=>a+(i:Int)
 |[],t,_=>rfl
 |y::ys,t,hg=>by
  rw[mV,tC,hr,List.filter_map,WR,Vu];have e:(S0 m).filter ((λn=>fits h y n&& !(t.map λi:Nat=>a+(i:Int)).contains n)∘λi:Nat=>a+(i:Int))=(S0 m).filter λn=>g y n&& !t.contains n:=by
   refine Vj λn hn=> ?_;rw[TG]at hn;simp only[Wi];rw[hg y (by simp) n hn];congr 1;congr 1;rw[UI,YI,YI,Tn];constructor
   ·rintro⟨i,h1,h2⟩
    have:i=n:=(by omega);rw[<- this];exact h1
   ·exactλh1=>⟨n,h1,rfl⟩
  rw[e];congr 1;funext n;have:=aa1 hr ys (t++[n]) (λz hz=>hg z (by simp[hz]));rw[TF]at this;exact this
end Go.Gg.Tk
namespace Go.Gg.Tk
theorem abi{h:List Int}{ns:List Nat}{nl:List Int}{q:aH->Nat}(hl:nl.length=ns.length):∀(ss:List aH)(u:Nat)(t:List Nat),(∀s∈ss,∀p,p<ns.length->(q s).testBit (ns.getD p 0)=fits h s (nl.getD p 0))->(∀n,u.testBit n=t.contains n)->mw ns.length ns (ss.map q) u t=pE h nl ss t
 |[],u,t,_,_=>rfl
 |s::ss,u,t,hq,hu=>by
  rw[UW,mw,pE,hl];have e1:((S0 ns.length).flatMap λp=>if(u.testBit p|| !(q s).testBit (ns.getD p 0))=true then[]else mw ns.length ns (ss.map q) (u|||2^p) (t++[p]))=((S0 ns.length).filter λp=> !(u.testBit p|| !(q s).testBit (ns.getD p 0))).flatMap λp=>mw ns.length ns (ss.map q) (u|||2^p) (t++[p]):=I_ _;rw[e1];have e2:((S0 ns.length).filter λp=> !(u.testBit p|| !(q s).testBit (ns.getD p 0)))=(S0 ns.length).filter λp=>fits h s (nl.getD p 0)&& !t.contains p:=by
   refine Vj λp hp=> ?_;rw[TG]at hp;rw[hu,hq s (by simp) p hp];cases t.contains p<;>cases fits h s (nl.getD p 0)<;>rfl
  rw[e2];congr 1;funext p;refine abi hl ss _ _ (λz hz=>hq z (by simp[hz])) λi=> ?_;rw[Xo,hu,VP,YQ];simp[eq_comm]
theorem aa6{g:aH->Nat->Bool}{m:Nat}:∀{ys:List aH}{t ns:List Nat},ns∈tC g m ys t->(∀n∈t,n<m)->ns.length=t.length+ys.length/\∀n∈ns,n<m
 |[],t,ns,h,ht=>by
  simp only[tC,Tb]at h;subst h;exact⟨by simp,ht⟩
 |y::ys,t,ns,h,ht=>by
  simp only[tC,S6,Uj,TG]at h;obtain⟨n,⟨hn,_⟩,h⟩:=h;obtain⟨h1,h2⟩:=aa6 h (λk hk=>by
   rcases SV.1 hk with h'|h'
   ·exact ht k h'
   ·rw[Tb.1 h'];exact hn)
  exact⟨by rw[h1];simp;omega,h2⟩
end Go.Gg.Tk
namespace Go.Gg.Tk
structure wO (x:aj)(h:List Int):Prop where
 lo:2<=h.length
 hi:h.length<=4
 head:h.headD 0=x.first
 span:h.getLastD 0<=x.first+9
 pad:mD (cL h)
theorem Mi{h:List Int}(hl:2<=h.length):(cL h).getD 0 0=h.headD 0:=by
 match h,hl with
 |a::b::l,_=>rfl
theorem abn{h:List Int}(hl:2<=h.length)(h4:h.length<=4):(cL h).getD 3 0=h.getLastD 0:=by
 match h,hl,h4 with
 |[a,b],_,_=>rfl
 |[a,b,c],_,_=>rfl
 |[a,b,c,d],_,_=>rfl
theorem abo{h:List Int}{n:Int}(hl:2<=h.length)(h4:h.length<=4):gK (cL h) n=gK h n:=by
 match h,hl,h4 with
 |[a,b],_,_=>exact Nf (i:=0) (k:=2) (z:=b) (h:=[a,b]) (n:=n) rfl (by simp)
 |[a,b,c],_,_=>exact Nf (i:=0) (k:=1) (z:=c) (h:=[a,b,c]) (n:=n) rfl (by simp)
 |[a,b,c,d],_,_=>exact Nf (i:=0) (k:=0) (z:=d) (h:=[a,b,c,d]) (n:=n) rfl (by simp)
def oG (h:List Int):Nat:=(h.getLastD 0-h.headD 0).toNat
theorem Ig{x:aj}{h:List Int}(hh:wO x h)(y:aH){n:Nat}(hn:n<9):(b_ (cL h) y).testBit n=(decide (n<oG h)&&fits h y (h.headD 0+(n:Int))):=by
 unfold b_;rw[A_];unfold lH fits;rw[Mi hh.lo,abn hh.lo hh.hi,abo hh.lo hh.hi];have e1:decide (n<9)=true:=decide_eq_true hn;have e2:decide (h.headD 0+(n:Int)<h.getLastD 0)=decide (n<oG h):=by
  unfold oG;rw[UI];simp only[decide_eq_true_eq];omega
 rw[e1,e2,U5];by_cases hm:n<oG h
 ·have e3:0<=gK h (h.headD 0+(n:Int)):=by
   unfold oG at hm;refine Nd (a:=h.headD 0) ?_ (by omega) (by omega);have:=hh.lo
   match h,this with
   |a::b::l,_=>rfl
  rw[decide_eq_true e3,decide_eq_true hm];simp
 ·rw[decide_eq_false hm];simp
theorem aa0{x:aj}{h:List Int}(hh:wO x h):mV h x.pieces []=(f_ x (cL h)).map λl=>l.map λi:Nat=>h.headD 0+(i:Int):=by
 have Fo:oG h<=9:=by unfold oG;have:=hh.span;have:=hh.head;omega
 have e1:f_ x (cL h)=tC (λy n=>fits h y (h.headD 0+(n:Int))) (oG h) x.pieces []:=
  Mb Fo x.pieces 0 [] (λy _ n hn=>Ig hh y hn) (by simp)
 rw[e1];exact aa1 (a:=h.headD 0) rfl x.pieces [] λy _ n _=>rfl
end Go.Gg.Tk
namespace Go.Gg.Tk
theorem ana{x:aj}{h:List Int}(hh:wO x h){ns:List Nat}(hn:ns∈f_ x (cL h)):ns.length=x.pieces.length/\∀n∈ns,n<oG h:=by
 have Fo:oG h<=9:=by unfold oG;have:=hh.span;have:=hh.head;omega
 have e1:f_ x (cL h)=tC (λy n=>fits h y (h.headD 0+(n:Int))) (oG h) x.pieces []:=
  Mb Fo x.pieces 0 [] (λy _ n hn=>Ig hh y hn) (by simp)
 rw[e1]at hn;have:=aa6 hn (by simp);exact⟨by simpa using this.1,this.2⟩
theorem anE{x:aj}{h:List Int}(hh:wO x h){ns:List Nat}(hn:ns∈f_ x (cL h)):iy x (cL h) ns=pE h (ns.map λi:Nat=>h.headD 0+(i:Int)) x.aB []:=by
 obtain⟨h1,h2⟩:=ana hh hn;have Fo:oG h<=9:=by unfold oG;have:=hh.span;have:=hh.head;omega
 unfold iy;rw[<- h1];refine abi (by simp) x.aB 0 [] (λs _ p hp=> ?_) (by simp);have rq:ns.getD p 0=ns[p]:=by rw[SE,SP hp];rfl
 have hlt:=h2 ns[p] (VF hp);have hg2:(ns.map λi:Nat=>h.headD 0+(i:Int)).getD p 0=h.headD 0+(ns[p]:Int):=by
  rw[SE,Tj,SP hp];rfl
 rw[rq,hg2,Ig hh s (by omega),decide_eq_true hlt,U5]
def dR (t:Tr):List Int:=di (cL t.bu) (t.aA.map λn=>(n-t.bu.headD 0).toNat) t.cg
theorem ac6{x:aj}{h:List Int}(hh:wO x h){ns:List Nat}(hn:ns∈f_ x (cL h)):(Dh x h (ns.map λi:Nat=>h.headD 0+(i:Int))).map dR=(iy x (cL h) ns).map (di (cL h) ns):=by
 unfold Dh;rw[X2,anE hh hn];refine VA λos _=> ?_;unfold dR;simp only[Wi,X2];congr 1
 conv=>rhs;rw[<- List.map_id ns]
 refine VA λn _=> ?_;simp only[Wi,id];omega
theorem Bq{α β:Type}{l:List α}{f g:α->List β}(h:∀a∈l,f a=g a):l.flatMap f=l.flatMap g:=by
 rw[WT,WT,VA h]
theorem acP{α:Type}:∀ll:List (List α),(ll.map (·.take 1)).flatten.take 1=ll.flatten.take 1
 |[]=>rfl
 |[]::ll=>by simpa using acP ll
 |(a::l)::ll=>by simp
theorem arm{x:aj}{h:List Int}{deep:Int}(hh:wO x h):jo x deep (cL h)=(r_ x deep h).map dR:=by
 have e2:(oM x h).map dR=(((f_ x (cL h)).map λns=>(iy x (cL h) ns).map λos=>di (cL h) ns os)).flatten:=by
  unfold oM;rw[aa0 hh,WR,Vu,<- WT];exact Bq λns hn=>ac6 hh hn
 have e1:(u5 x h).map dR=(((f_ x (cL h)).map λns=>(iy x (cL h) ns).map λos=>di (cL h) ns os).map (·.take 1)).flatten:=by
  unfold u5;rw[aa0 hh,WR,Vu,X2,<- WT];refine Bq λns hn=> ?_;simp only[Wi];rw[VU,ac6 hh hn]
 unfold jo r_;dsimp only;split
 ·rw[VU,e1,acP]
 ·split
  ·exact e1.symm
  ·exact e2.symm
end Go.Gg.Tk
namespace Go.Gg.Tk
theorem zv{x:aj}:∀(d:Nat)(pre h:List Int),pre≠[]->h∈kF x d pre->h.length=pre.length+d/\h.headD 0=pre.headD 0
 |0,pre,h,_,hm=>by
  unfold kF at hm;split at hm
  ·rw[Tb]at hm;subst hm;exact⟨rfl,rfl⟩
  ·cases hm
 |d+1,pre,h,hp,hm=>by
  unfold kF at hm;split at hm
  ·obtain⟨n,_,hm⟩:=S6.1 hm;obtain⟨h1,h2⟩:=zv d _ h (by simp) hm;refine⟨by rw[h1];simp;omega,h2.trans ?_⟩
   match pre,hp with
   |a::l,_=>rfl
  ·cases hm
theorem Q8{x:aj}{t:Nat}(hx:x.Ok)(ht:t<x.an.toNat+1){h:List Int}(hm:h∈v6 x t):wO x h:=by
 have hh:=hx.hours;have FA:cL h∈kG x t:=by rw[Rc hh.1 ht];exact Tn.2 ⟨h,hm,rfl⟩
 have h4:=Q6 hx FA;unfold v6 at hm;split at hm
 ·obtain⟨h1,h2⟩:=zv _ _ _ (by simp) hm;have pc:2<=h.length:=by rw[h1];simp
  have Ff:h.length<=4:=by rw[h1];simp;omega
  have zb:h.headD 0=x.first:=h2;refine⟨pc,Ff,zb,?_,h4⟩;have:=h4.span;rw[Mi pc,abn pc Ff,zb]at this;exact this
 ·cases hm
theorem adj{x:aj}{deep:Int}(hx:x.Ok):((S0 (x.an.toNat+1)).flatMap λt=>Ho x deep t)=(aL x).flatMap (r_ x deep):=by
 unfold Ho;rw[<- aj5 hx.hours.1,List.flatMap_assoc]
end Go.Gg.Tk
namespace Go.Gg.Tk
theorem NY{l:List Nat}{i v p n:Nat}(hi:i<l.length):((oR l i v).getD p 0).testBit n=((l.getD p 0).testBit n||(decide (p=i)&&decide (n=v))):=by
 unfold oR;rw[SE,UT];by_cases h:i=p
 ·subst h;rw[if_pos rfl,if_pos hi,S8,Xo,VP];simp[eq_comm]
 ·rw[if_neg h,<- SE];have:¬p=i:=λe=>h e.symm;simp[this]
def pM (v:Nat->Nat):Nat->List Nat->List Nat
 |0,l=>l
 |k+1,l=>oR (pM v k l) k (v k)
theorem aa4(t:List Int)(l:List Nat):∀k,rR t k l=pM (mz t) k l
 |0=>rfl
 |k+1=>by rw[rR,pM,aa4 t l k]
theorem RI(t:List Int)(l:List Nat):∀k,rD t k l=pM (tK t) k l
 |0=>rfl
 |k+1=>by rw[rD,pM,RI t l k]
theorem abp(t:List Int)(l:List Nat):∀k,mW t k l=pM (rY t) k l
 |0=>rfl
 |k+1=>by rw[mW,pM,abp t l k]
theorem N0(v:Nat->Nat)(l:List Nat):∀k,(pM v k l).length=l.length
 |0=>rfl
 |k+1=>by rw[pM,yH,N0 v l k]
theorem D1{v:Nat->Nat}{l:List Nat}{p n:Nat}:∀k,k<=l.length->((pM v k l).getD p 0).testBit n=((l.getD p 0).testBit n||(decide (p<k)&&decide (n=v p)))
 |0,_=>by simp[pM]
 |k+1,h=>by
  rw[pM,NY (by rw[N0];omega),D1 k (by omega)];by_cases hp:p=k
  ·subst hp;simp
  ·have e:(p<k+1)<->p<k:=(by omega);simp[hp,e]
theorem GB{l m:List Nat}{p n:Nat}(h:l.length=m.length):((kP l m).getD p 0).testBit n=((l.getD p 0).testBit n||(m.getD p 0).testBit n):=by
 unfold kP;rw[SE,List.getElem?_zipWith,SE,SE];by_cases hp:p<l.length
 ·rw[SP hp,SP (by omega)];simp[Xo]
 ·rw[Uu (by omega),Uu (by omega)];simp
theorem abx{hs:List (List Int)}{h g:List Int}:g∈jG hs h<->g∈hs\/g=h:=by
 unfold jG;split
 ·rename_i hm;exact⟨.inl,λe=>e.elim id λe=>e▸hm⟩
 ·rw[SV,Tb]
theorem PU{g:List Int}:∀{l hs:List (List Int)},g∈l.foldl jG hs<->g∈hs\/g∈l
 |[],hs=>by simp
 |a::l,hs=>by
  rw[UY,PU,abx,SL,or_assoc]
theorem afs(Q:Kn)(t:List Int):(jQ Q t).has=true:=by
 unfold jQ;cases h:Q.has
 ·rfl
 ·rw[if_pos rfl];exact h
theorem acR(x:aj)(deep:Int)(Q:Kn)(t:List Int):(ej x deep Q t).has=true:=by
 have:=afs Q t;unfold ej;dsimp only;split
 ·exact this
 ·split<;>exact this
theorem PZ{x:aj}{deep:Int}:∀(ts:List (List Int))(Q:Kn),(ts.foldl (ej x deep) Q).has=(Q.has|| !ts.isEmpty)
 |[],Q=>by simp
 |t::ts,Q=>by rw[UY,PZ ts,acR];simp
theorem als{F G:Kn}{hs:List (List Int)}:(fJ F hs G).has=(F.has||G.has):=by
 unfold fJ;cases h:G.has
 ·simp
 ·simp
end Go.Gg.Tk
namespace Go.Gg.Tk
theorem aqO{x:aj}{Q:Kn}{t g:List Int}:g∈(ej x 0 Q t).aL<->g∈Q.aL\/g=t.take 4:=by
 have hB:(jQ Q t).aL=Q.aL:=by unfold jQ;split<;>rfl
 unfold ej;dsimp only;rw[if_neg (by decide),if_pos rfl,abx,hB]
theorem PW{x:aj}{g:List Int}:∀(ts:List (List Int))(Q:Kn),g∈(ts.foldl (ej x 0) Q).aL<->g∈Q.aL\/∃t∈ts,g=t.take 4
 |[],Q=>by simp
 |t::ts,Q=>by
  rw[UY,PW ts,aqO];constructor
  ·rintro((h|h)|⟨u,h1,h2⟩)
   ·exact .inl h
   ·exact .inr ⟨t,by simp,h⟩
   ·exact .inr ⟨u,by simp[h1],h2⟩
  ·rintro(h|⟨u,h1,h2⟩)
   ·exact .inl (.inl h)
   ·rcases SL.1 h1 with rfl|h1
    ·exact .inl (.inr h2)
    ·exact .inr ⟨u,h1,h2⟩
def e_ (x:aj)(deep:Int)(j:Nat):List (List Int):=(kG x j).flatMap (jo x deep)
theorem Hm(x:aj)(deep:Int)(j:Nat):gL x deep j=(e_ x deep j).foldl (ej x deep) Kn.zero:=rfl
theorem Dn(x:aj)(deep:Int)(j:Nat):(gL x deep j).has= !(e_ x deep j).isEmpty:=by
 rw[Hm,PZ];rfl
theorem arJ{x:aj}{j:Nat}{g:List Int}:g∈(gL x 0 j).aL<->∃t∈e_ x 0 j,g=t.take 4:=by
 rw[Hm,PW];simp[Kn.zero]
theorem aac{x:aj}{deep:Int}{js:List Nat}{D:Kn}(h:nZ x deep js D):D.has=js.any λj=> !(e_ x deep j).isEmpty:=by
 induction h with
 |nil=>rfl
 |snoc h hp ih=>rw[als,ih,Dn,Zy];simp
theorem alt{x:aj}{js:List Nat}{D:Kn}{g:List Int}(h:nZ x 0 js D):g∈D.aL<->∃j∈js,∃t∈e_ x 0 j,g=t.take 4:=by
 induction h with
 |nil=>simp[Kn.zero]
 |@snoc js F j hs h hp ih=>
  have key:g∈(fJ F hs (gL x 0 j)).aL<->g∈F.aL\/∃t∈e_ x 0 j,g=t.take 4:=by
   unfold fJ;split
   ·show g∈hs.foldl jG F.aL<->_;rw[PU,hp.mem_iff,arJ]
   ·rename_i hn;rw[Dn]at hn;have:e_ x 0 j=[]:=(by simpa using hn);rw[this];simp
  rw[key,ih];constructor
  ·rintro(⟨i,h1,h2⟩|h2)
   ·exact⟨i,by simp[h1],h2⟩
   ·exact⟨j,by simp,h2⟩
  ·rintro⟨i,h1,h2⟩
   rcases SV.1 h1 with h1|h1
   ·exact .inl ⟨i,h1,h2⟩
   ·rw[Tb.1 h1]at h2;exact .inr h2
theorem PV:∀{l hs:List (List Int)},hs.Nodup->(l.foldl jG hs).Nodup
 |[],hs,h=>h
 |a::l,hs,h=>by rw[UY];exact PV (aby h)
theorem alv{x:aj}{deep:Int}{js:List Nat}{D:Kn}(h:nZ x deep js D):D.aL.Nodup:=by
 induction h with
 |nil=>exact WN
 |snoc h hp ih=>
  unfold fJ;split
  ·exact PV ih
  ·exact ih
end Go.Gg.Tk
namespace Go.Gg.Tk
theorem EB{x:aj}{deep:Int}{t:Nat}(hx:x.Ok)(ht:t<x.an.toNat+1):e_ x deep t=(Ho x deep t).map dR:=by
 unfold e_ Ho;rw[Rc hx.hours.1 ht,WR,Vu];exact Bq λh hm=>arm (Q8 hx ht hm)
def oS (x:aj)(deep:Int):List Tr:=(aL x).flatMap (r_ x deep)
theorem zS{x:aj}{deep:Int}{js:List Nat}{p:Nat}(hx:x.Ok)(hp:x.an=p)(gU:js.Perm (S0 (p+1))){t:List Int}:(∃j∈js,t∈e_ x deep j)<->∃u∈oS x deep,t=dR u:=by
 have nK:x.an.toNat=p:=by omega
 unfold oS;rw[<- adj hx,nK];constructor
 ·rintro⟨j,h1,h2⟩
  have hj:=gU.mem_iff.1 h1;rw[EB hx (by rw[nK];simpa using hj)]at h2;obtain⟨u,h3,rfl⟩:=Tn.1 h2;exact⟨u,S6.2 ⟨j,hj,h3⟩,rfl⟩
 ·rintro⟨u,h1,rfl⟩
  obtain⟨j,hj,h3⟩:=S6.1 h1;refine⟨j,gU.mem_iff.2 hj,?_⟩;rw[EB hx (by rw[nK];simpa using hj)];exact Tn.2 ⟨u,h3,rfl⟩
theorem yo{x:aj}{deep:Int}{h:List Int}{u:Tr}(hu:u∈r_ x deep h):u∈oM x h:=by
 have h1:∀u,u∈u5 x h->u∈oM x h:=λu hu=>by
  unfold u5 at hu;obtain⟨ns,h1,h2⟩:=S6.1 hu;exact S6.2 ⟨ns,h1,Wu h2⟩
 unfold r_ at hu;split at hu
 ·exact h1 u (Wu hu)
 ·split at hu
  ·exact h1 u hu
  ·exact hu
theorem yp{x:aj}{h:List Int}{u:Tr}(hu:u∈oM x h):u.bu=h:=by
 obtain⟨ns,_,h2⟩:=S6.1 hu;obtain⟨os,_,rfl⟩:=Tn.1 h2;rfl
theorem PR{α β:Type}{f:α->List β}:∀{l:List α},(l.flatMap λa=>(f a).take 1)=[]<->l.flatMap f=[]
 |[]=>by simp
 |a::l=>by
  rw[Uo,Uo,YC,YC,PR,YP];simp
theorem ac5{x:aj}{deep:Int}{h:List Int}:r_ x deep h=[]<->oM x h=[]:=by
 have h1:u5 x h=[]<->oM x h=[]:=PR;unfold r_;split
 ·rw[YP,h1];simp
 ·split
  ·exact h1
  ·exact Iff.rfl
theorem aeu{x:aj}{deep:Int}:oS x deep=[]<->bx x=[]:=by
 unfold oS bx;rw[WS,WS];exact forall_congr' λh=>forall_congr' λ_=>ac5
theorem aew{x:aj}{deep:Int}{js:List Nat}:(js.any λj=> !(e_ x deep j).isEmpty)=true<->∃t,∃j∈js,t∈e_ x deep j:=by
 rw[UL];constructor
 ·rintro⟨j,h1,h2⟩
  cases hg:e_ x deep j with
  |nil=>rw[hg]at h2;cases h2
  |cons t l=>exact⟨t,j,h1,by rw[hg];simp⟩
 ·rintro⟨t,j,h1,h2⟩
  refine⟨j,h1,?_⟩;cases hg:e_ x deep j with
  |nil=>rw[hg]at h2;cases h2
  |cons=>rfl
end Go.Gg.Tk
namespace Go.Gg
open Go.Gg.Tk
theorem CE{x:aj}{deep:Int}{D:Kn}(hx:x.Ok)(h:eB x deep D):D.has= !(bx x).isEmpty:=by
 obtain⟨p,js,h1,h2,h3,_⟩:=h;rw[aac h3,UI,aew];have key:(∃t,∃j∈js,t∈e_ x deep j)<->oS x deep≠[]:=by
  constructor
  ·rintro⟨t,h⟩ he
   obtain⟨u,hu,_⟩:=(zS hx h1 h2).1 h;rw[he]at hu;cases hu
  ·intro aC;obtain⟨u,hu⟩:=WO _ aC;exact⟨dR u,(zS hx h1 h2).2 ⟨u,hu,rfl⟩⟩
 rw[key,ne_eq,aeu];cases bx x<;>simp
theorem alB{x:aj}{D:Kn}(hx:x.Ok)(h:eB x 0 D){g:List Int}:g∈D.aL<->∃u∈bx x,g=(dR u).take 4:=by
 obtain⟨p,js,h1,h2,h3,_⟩:=h;rw[alt h3];have e:(∃j∈js,∃t∈e_ x 0 j,g=t.take 4)<->∃t,(∃j∈js,t∈e_ x 0 j)/\g=t.take 4:=by
  constructor
  ·rintro⟨j,a,t,b,c⟩;exact⟨t,⟨j,a,b⟩,c⟩
  ·rintro⟨t,⟨j,a,b⟩,c⟩;exact⟨j,a,t,b,c⟩
 rw[e];have aF:∀u:Tr,u∈bx x->(dR u).take 4=cL u.bu:=λu hu=>by
  obtain⟨h,hm,jZ⟩:=S6.1 hu;have hl:h.length=1+x.hours.toNat:=(zv _ _ _ (by simp) hm).1;have hh:=hx.hours;have h4:(cL u.bu).length=4:=by
   rw[yp jZ];simp[cL];omega
  unfold dR di;rw[SD,Tw (by omega),SY (by omega)]
 have lR:∀u,u∈oS x 0->u∈bx x:=λu hu=>by
  obtain⟨h,a,b⟩:=S6.1 hu;exact S6.2 ⟨h,a,yo b⟩
 constructor
 ·rintro⟨t,a,rfl⟩
  obtain⟨u,hu,rfl⟩:=(zS hx h1 h2).1 a;exact⟨u,lR u hu,rfl⟩
 ·rintro⟨u,hu,rfl⟩
  obtain⟨h,hm,jZ⟩:=S6.1 hu;have aC:r_ x 0 h≠[]:=λe=>by
   rw[ac5]at e;rw[e]at jZ;cases jZ
  obtain⟨v,hv⟩:=WO _ aC;have tg:v∈oS x 0:=S6.2 ⟨h,hm,hv⟩;refine⟨dR v,(zS hx h1 h2).2 ⟨v,tg,rfl⟩,?_⟩;rw[aF u hu,aF v (lR v tg),yp jZ,yp (yo hv)]
end Go.Gg
namespace Go.Gg.Tk
theorem D9(Q:Kn)(t:List Int):(jQ Q t).aA=Q.aA/\(jQ Q t).hours=Q.hours/\(jQ Q t).less=Q.less/\(jQ Q t).aV=Q.aV:=by
 unfold jQ;split<;>exact⟨rfl,rfl,rfl,rfl⟩
theorem aqR{x:aj}{Q:Kn}{t:List Int}{p n:Nat}(hx:x.Ok)(hQ:bF Q)(hp:p<x.pieces.length):((ej x 1 Q t).aA.getD p 0).testBit n=((Q.aA.getD p 0).testBit n||decide (n=mz t p)):=by
 have h:(ej x 1 Q t).aA=rR t x.pieces.length Q.aA:=by
  rw[<- (D9 Q t).1];rfl
 rw[h,aa4,D1 _ (by rw[hQ.aA];exact hx.cT),decide_eq_true hp,U5]
theorem aqP{x:aj}{Q:Kn}{t:List Int}{p n:Nat}(hx:x.Ok)(hQ:bF Q)(hp:p<x.pieces.length):((ej x 1 Q t).hours.getD p 0).testBit n=((Q.hours.getD p 0).testBit n||decide (n=tK t p)):=by
 have h:(ej x 1 Q t).hours=rD t x.pieces.length Q.hours:=by
  rw[<- (D9 Q t).2.1];rfl
 rw[h,RI,D1 _ (by rw[hQ.hours];exact hx.cT),decide_eq_true hp,U5]
theorem aqS{x:aj}{Q:Kn}{t:List Int}{s n:Nat}(hx:x.Ok)(hQ:bF Q)(hs:s<x.aB.length):((ej x 2 Q t).aV.getD s 0).testBit n=((Q.aV.getD s 0).testBit n||decide (n=rY t s)):=by
 have h:(ej x 2 Q t).aV=mW t x.aB.length Q.aV:=by
  rw[<- (D9 Q t).2.2.2];rfl
 rw[h,abp,D1 _ (by rw[hQ.aV];exact hx.fi),decide_eq_true hs,U5]
theorem PX{x:aj}{deep:Int}(hx:x.Ok){f:Kn->Bool}{g:List Int->Bool}(h:∀Q t,bF Q->jv x t->f (ej x deep Q t)=(f Q||g t)):∀(ts:List (List Int))(Q:Kn),bF Q->(∀t∈ts,jv x t)->f (ts.foldl (ej x deep) Q)=(f Q||ts.any g)
 |[],Q,_,_=>by simp
 |t::ts,Q,hQ,ht=>by
  rw[UY,PX hx h ts _ (M_ hx (ht t (by simp)) hQ) (λu hu=>ht u (by simp[hu])),h Q t hQ (ht t (by simp)),YS,Bool.or_assoc]
theorem Qb{x:aj}{deep:Int}{j:Nat}(hx:x.Ok)(hj:j<=3){t:List Int}(ht:t∈e_ x deep j):jv x t:=by
 obtain⟨h,h1,h2⟩:=S6.1 ht;obtain⟨ns,h3,h4⟩:=Nj h2;exact((Dg hx) j hj h h1).2 ns h3 t h4
theorem alu{x:aj}{deep:Int}(hx:x.Ok){f:Kn->Bool}{g:List Int->Bool}(h0:f Kn.zero=false)(h:∀Q t,bF Q->jv x t->f (ej x deep Q t)=(f Q||g t))(hj:∀F G hs,bF F->bF G->G.has=true->f (fJ F hs G)=(f F||f G)){js:List Nat}{D:Kn}(gU:∀j∈js,j<=3)(hD:nZ x deep js D):bF D/\f D=js.any λj=>(e_ x deep j).any g:=by
 induction hD with
 |nil=>exact⟨CF,by simpa using h0⟩
 |@snoc js F j hs hJ hp ih=>
  obtain⟨mT,lz⟩:=ih λi hi=>gU i (by simp[hi]);have Rd:j<=3:=gU j (by simp);have am:bF (gL x deep j):=Ns hx ((Dg hx) j Rd);refine⟨SA mT am hp,?_⟩;have hw:f (gL x deep j)=(e_ x deep j).any g:=by
   rw[Hm,PX hx h _ _ CF (λt ht=>Qb hx Rd ht),h0,Zv]
  rw[Zy,<- lz];simp only[YS,List.any_nil,YE];cases hG:(gL x deep j).has with
  |true=>rw[hj F _ hs mT am hG,hw]
  |false=>
   have hn:e_ x deep j=[]:=by
    rw[Dn]at hG;simpa using hG
   rw[hn];unfold fJ;rw[hG];simp
end Go.Gg.Tk
namespace Go.Gg
open Go.Gg.Tk
theorem F5{x:aj}{deep:Int}(hx:x.Ok){f:Kn->Bool}{g:List Int->Bool}(h0:f Kn.zero=false)(h:∀Q t,bF Q->jv x t->f (ej x deep Q t)=(f Q||g t))(hj:∀F G hs,bF F->bF G->G.has=true->f (fJ F hs G)=(f F||f G)){D:Kn}(hD:eB x deep D):f D=true<->∃u∈oS x deep,g (dR u)=true:=by
 obtain⟨p,js,h1,h2,h3,_⟩:=hD;have hp:=hx.an;have gU:∀j∈js,j<=3:=λj hm=>by
  have:=h2.mem_iff.1 hm;rw[TG]at this;omega
 rw[(alu hx h0 h hj gU h3).2,UL];constructor
 ·rintro⟨j,a,b⟩
  obtain⟨t,c,d⟩:=UL.1 b;obtain⟨u,hu,rfl⟩:=(zS hx h1 h2).1 ⟨j,a,c⟩;exact⟨u,hu,d⟩
 ·rintro⟨u,hu,d⟩
  obtain⟨j,a,c⟩:=(zS hx h1 h2).2 ⟨u,hu,rfl⟩;exact⟨j,a,UL.2 ⟨_,c,d⟩⟩
theorem alF{x:aj}{D:Kn}{s n:Nat}(hx:x.Ok)(hD:eB x 2 D)(hs:s<x.aB.length):(D.aV.getD s 0).testBit n=true<->∃u∈bx x,rY (dR u) s=n:=by
 have aT:=hx.fi;have e:oS x 2=bx x:=rfl;rw[<- e,F5 (f:=λK=>(K.aV.getD s 0).testBit n) (g:=λt=>decide (n=rY t s)) hx ?_ (λQ t hQ _=>aqS hx hQ hs) (λF G mj hF hG hh=> ?_) hD]
 ·exact exists_congr λu=>and_congr_right λ_=>by rw[decide_eq_true_eq];exact eq_comm
 ·have:([0,0,0]:List Nat).getD s 0=0:=by
   match s,(show s<3 by omega)with
   |0,_=>rfl
   |1,_=>rfl
   |2,_=>rfl
  show (([0,0,0]:List Nat).getD s 0).testBit n=false;rw[this];exact WV n
 ·have e2:(fJ F mj G).aV=kP F.aV G.aV:=by unfold fJ;rw[if_pos hh]
  rw[e2];exact GB (by rw[hF.aV,hG.aV])
theorem HZ{x:aj}{P:List Int->List Int->Prop}:(∃u∈oS x 1,P u.bu u.aA)<->∃u∈bx x,P u.bu u.aA:=by
 constructor
 ·rintro⟨u,hu,hp⟩
  obtain⟨h,a,b⟩:=S6.1 hu;exact⟨u,S6.2 ⟨h,a,yo b⟩,hp⟩
 ·rintro⟨u,hu,hp⟩
  obtain⟨h,a,b⟩:=S6.1 hu;obtain⟨ns,c,d⟩:=S6.1 b;obtain⟨os,c2,rfl⟩:=Tn.1 d;cases ho:pE h ns x.aB []with
  |nil=>rw[ho]at c2;cases c2
  |cons o os'=>
   refine⟨⟨h,ns,o⟩,S6.2 ⟨h,a,?_⟩,hp⟩;show _∈u5 x h;refine S6.2 ⟨ns,c,?_⟩;unfold Dh;rw[ho];simp
theorem aa3{h:List Int}:∀{ys:List aH}{t ns:List Int},ns∈mV h ys t->ns.length=t.length+ys.length
 |[],t,ns,hm=>by
  simp only[mV,Tb]at hm;subst hm;rfl
 |y::ys,t,ns,hm=>by
  simp only[mV,S6]at hm;obtain⟨n,_,hm⟩:=hm;have:=aa3 hm;simp at this⊢;omega
theorem u6{x:aj}(hx:x.Ok){u:Tr}(hu:u∈bx x):u.bu.length=1+x.hours.toNat/\u.aA.length=x.pieces.length:=by
 obtain⟨h,a,b⟩:=S6.1 hu;obtain⟨ns,c,d⟩:=S6.1 b;obtain⟨os,_,rfl⟩:=Tn.1 d;exact⟨(zv _ _ _ (by simp) a).1,by simpa using aa3 c⟩
theorem wy{h:List Int}(h4:h.length<=4):(cL h).length=4:=by simp[cL];omega
theorem agN{x:aj}(hx:x.Ok){u:Tr}(hu:u∈bx x){p:Nat}(hp:p<x.pieces.length):mz (dR u) p=(u.aA.getD p 0-u.bu.headD 0).toNat:=by
 obtain⟨h1,h2⟩:=u6 hx hu;have hh:=hx.hours;have h4:=wy (h:=u.bu) (by omega);have dp:p<u.aA.length:=by omega
 have hg:(dR u)[4+p]?=some (((u.aA[p]-u.bu.headD 0).toNat:Nat):Int):=by
  unfold dR di kQ;rw[SD,Tg (by omega),h4,UR,SW (by simp;omega),SW (by simpa using dp),Tj,Tj,SP dp];rfl
 unfold mz;rw[SE,hg,SE,SP dp];rfl
theorem NG{p:Nat}(hp:p<4):([0,0,0,0]:List Nat).getD p 0=0:=by
 match p,hp with
 |0,_=>rfl
 |1,_=>rfl
 |2,_=>rfl
 |3,_=>rfl
theorem alE{x:aj}{D:Kn}{p n:Nat}(hx:x.Ok)(hD:eB x 1 D)(hp:p<x.pieces.length):(D.aA.getD p 0).testBit n=true<->∃u∈bx x,(u.aA.getD p 0-u.bu.headD 0).toNat=n:=by
 have lq:=hx.cT;rw[F5 (f:=λK=>(K.aA.getD p 0).testBit n) (g:=λt=>decide (n=mz t p)) hx ?_ (λQ t hQ _=>aqR hx hQ hp) (λF G mj hF hG hh=> ?_) hD]
 ·rw[<- HZ (P:=λh ns=>(ns.getD p 0-h.headD 0).toNat=n)];refine exists_congr λu=>and_congr_right λhu=> ?_;obtain⟨h,a,b⟩:=S6.1 hu;have zN:u∈bx x:=S6.2 ⟨h,a,yo b⟩;rw[decide_eq_true_eq,agN hx zN hp];exact eq_comm
 ·show (([0,0,0,0]:List Nat).getD p 0).testBit n=false;rw[NG (by omega)];exact WV n
 ·have e2:(fJ F mj G).aA=kP F.aA G.aA:=by unfold fJ;rw[if_pos hh]
  rw[e2];exact GB (by rw[hF.aA,hG.aA])
theorem aa2{h:List Int}:∀{ys:List aH}{t ns:List Int},ns∈mV h ys t->(∀n∈t,h.headD 0<=n)->∀n∈ns,h.headD 0<=n
 |[],t,ns,hm,ht=>by
  simp only[mV,Tb]at hm;subst hm;exact ht
 |y::ys,t,ns,hm,ht=>by
  simp only[mV,S6,Uj]at hm;obtain⟨n,⟨hn,_⟩,hm⟩:=hm;refine aa2 hm λk hk=> ?_;rcases SV.1 hk with h'|h'
  ·exact ht k h'
  ·rw[Tb.1 h'];obtain⟨i,_,rfl⟩:=Tn.1 hn;omega
theorem ac7{x:aj}{u:Tr}(hu:u∈bx x):∀n∈u.aA,u.bu.headD 0<=n:=by
 obtain⟨h,a,b⟩:=S6.1 hu;obtain⟨ns,c,d⟩:=S6.1 b;obtain⟨os,_,rfl⟩:=Tn.1 d;exact aa2 c (by simp)
theorem agM{x:aj}(hx:x.Ok){u:Tr}(hu:u∈bx x){p:Nat}(hp:p<x.pieces.length):tK (dR u) p=(gK u.bu (u.aA.getD p 0)).toNat:=by
 obtain⟨h1,h2⟩:=u6 hx hu;have hh:=hx.hours;have h4:=wy (h:=u.bu) (by omega);have dp:p<u.aA.length:=by omega
 have sU:=ac7 hu u.aA[p] (VF dp);have hg:(dR u)[4+p]?=some (((u.aA[p]-u.bu.headD 0).toNat:Nat):Int):=by
  unfold dR di kQ;rw[SD,Tg (by omega),h4,UR,SW (by simp;omega),SW (by simpa using dp),Tj,Tj,SP dp];rfl
 have aF:(dR u).take 4=cL u.bu:=by
  unfold dR di;rw[SD,Tw (by omega),SY (by omega)]
 have h0:(dR u).getD 0 0=u.bu.headD 0:=by
  rw[<- Mi (by omega)];unfold dR di;rw[SD,SE,SW (by omega),<- SE]
 unfold tK;rw[aF,h0,SE,hg,abo (by omega) (by omega),SE,SP dp];simp only[S8];congr 2;omega
theorem alC{x:aj}{D:Kn}{p n:Nat}(hx:x.Ok)(hD:eB x 1 D)(hp:p<x.pieces.length):(D.hours.getD p 0).testBit n=true<->∃u∈bx x,(gK u.bu (u.aA.getD p 0)).toNat=n:=by
 have lq:=hx.cT;rw[F5 (f:=λK=>(K.hours.getD p 0).testBit n) (g:=λt=>decide (n=tK t p)) hx ?_ (λQ t hQ _=>aqP hx hQ hp) (λF G mj hF hG hh=> ?_) hD]
 ·rw[<- HZ (P:=λh ns=>(gK h (ns.getD p 0)).toNat=n)];refine exists_congr λu=>and_congr_right λhu=> ?_;obtain⟨h,a,b⟩:=S6.1 hu;have zN:u∈bx x:=S6.2 ⟨h,a,yo b⟩;rw[decide_eq_true_eq,agM hx zN hp];exact eq_comm
 ·show (([0,0,0,0]:List Nat).getD p 0).testBit n=false;rw[NG (by omega)];exact WV n
 ·have e2:(fJ F mj G).hours=kP F.hours G.hours:=by unfold fJ;rw[if_pos hh]
  rw[e2];exact GB (by rw[hF.hours,hG.hours])
theorem Ga{t:List Int}{p:Nat}{l:List Nat}:∀q,(pz t p q l).length=l.length
 |0=>rfl
 |q+1=>by
  unfold pz;split
  ·rw[yH,Ga q]
  ·exact Ga q
theorem aar{t:List Int}{p i n:Nat}{l:List Nat}(hp:p<l.length):∀q,((pz t p q l).getD i 0).testBit n=((l.getD i 0).testBit n||(decide (i=p)&&(decide (n<q)&&decide (t.getD (4+p) 0<t.getD (4+n) 0))))
 |0=>by simp[pz]
 |q+1=>by
  have ih:=aar (t:=t) (i:=i) (n:=n) hp q;unfold pz;split
  ·rename_i h;rw[NY (by rw[Ga];exact hp),ih];by_cases hn:n=q
   ·subst hn;rw[decide_eq_true h,decide_eq_true (Um n),decide_eq_false (ai_ n),decide_eq_true (rfl:n=n)];simp only[Xr,Yb,YE,Bool.and_true]
   ·have e:decide (n<q+1)=decide (n<q):=(by rw[UI];simp only[decide_eq_true_eq];omega);rw[e,decide_eq_false hn,Yb,YE]
  ·rename_i h;rw[ih];by_cases hn:n=q
   ·subst hn;simp only[decide_eq_false h,Yb]
   ·have e:decide (n<q+1)=decide (n<q):=(by rw[UI];simp only[decide_eq_true_eq];omega);rw[e]
theorem aap{t:List Int}{k:Nat}{l:List Nat}:∀p,(py t k p l).length=l.length
 |0=>rfl
 |p+1=>by unfold py;rw[Ga,aap p]
theorem aao{t:List Int}{k i n:Nat}{l:List Nat}:∀p,p<=l.length->((py t k p l).getD i 0).testBit n=((l.getD i 0).testBit n||(decide (i<p)&&(decide (n<k)&&decide (t.getD (4+i) 0<t.getD (4+n) 0))))
 |0,_=>by simp[py]
 |p+1,h=>by
  unfold py;rw[aar (by rw[aap];omega),aao p (by omega)];by_cases hi:i=p
  ·subst hi;simp
  ·have e:(i<p+1)<->i<p:=(by omega);simp[hi,e]
theorem aqQ{x:aj}{Q:Kn}{t:List Int}{p q:Nat}(hx:x.Ok)(hQ:bF Q)(hp:p<x.pieces.length)(hq:q<x.pieces.length):((ej x 1 Q t).less.getD p 0).testBit q=((Q.less.getD p 0).testBit q||decide (t.getD (4+p) 0<t.getD (4+q) 0)):=by
 have h:(ej x 1 Q t).less=py t x.pieces.length x.pieces.length Q.less:=by
  rw[<- (D9 Q t).2.2.1];rfl
 rw[h,aao _ (by rw[hQ.less];exact hx.cT),decide_eq_true hp,decide_eq_true hq,U5,U5]
theorem IQ{x:aj}(hx:x.Ok){u:Tr}(hu:u∈bx x){p:Nat}(hp:p<x.pieces.length):(dR u).getD (4+p) 0=u.aA.getD p 0-u.bu.headD 0:=by
 obtain⟨h1,h2⟩:=u6 hx hu;have hh:=hx.hours;have h4:=wy (h:=u.bu) (by omega);have dp:p<u.aA.length:=by omega
 have sU:=ac7 hu u.aA[p] (VF dp);have hg:(dR u)[4+p]?=some (((u.aA[p]-u.bu.headD 0).toNat:Nat):Int):=by
  unfold dR di kQ;rw[SD,Tg (by omega),h4,UR,SW (by simp;omega),SW (by simpa using dp),Tj,Tj,SP dp];rfl
 rw[SE,hg,SE,SP dp];simp only[S8];omega
theorem alD{x:aj}{D:Kn}{p q:Nat}(hx:x.Ok)(hD:eB x 1 D)(hp:p<x.pieces.length)(hq:q<x.pieces.length):(D.less.getD p 0).testBit q=true<->∃u∈bx x,u.aA.getD p 0<u.aA.getD q 0:=by
 have lq:=hx.cT;rw[F5 (f:=λK=>(K.less.getD p 0).testBit q) (g:=λt=>decide (t.getD (4+p) 0<t.getD (4+q) 0)) hx ?_ (λQ t hQ _=>aqQ hx hQ hp hq) (λF G mj hF hG hh=> ?_) hD]
 ·rw[<- HZ (P:=λ_ ns=>ns.getD p 0<ns.getD q 0)];refine exists_congr λu=>and_congr_right λhu=> ?_;obtain⟨h,a,b⟩:=S6.1 hu;have zN:u∈bx x:=S6.2 ⟨h,a,yo b⟩;rw[decide_eq_true_eq,IQ hx zN hp,IQ hx zN hq];omega
 ·show (([0,0,0,0]:List Nat).getD p 0).testBit q=false;rw[NG (by omega)];exact WV q
 ·have e2:(fJ F mj G).less=kP F.less G.less:=by unfold fJ;rw[if_pos hh]
  rw[e2];exact GB (by rw[hF.less,hG.less])
namespace Tk
structure NJ (x:aj)(u:Tr):Prop where
 bu:m8 x.first x.an u.bu x.hours.toNat
 seen:∀s∈x.seen,kL s.next (u.bu.getD s.hour.toNat 0)=true
 wq:u.aA.length=x.pieces.length
 piece:∀(p:Nat) y,x.pieces[p]?=some y->fits u.bu y (u.aA.getD p 0)=true
 Gt:u.aA.Nodup
 Aa:u.cg.length=x.aB.length
 own:∀v∈u.cg,v<x.pieces.length
 stub:∀(s:Nat) y,x.aB[s]?=some y->fits u.bu y (u.aA.getD (u.cg.getD s 0) 0)=true
 Mg:u.cg.Nodup
theorem _root_.Go.Gg.m8.mono{first an:Int}{l:List Int}{i:Nat}(h:m8 first an l i):sr l:=amX λj hj=>(h.step j (by have:=h.len;omega)).1
theorem aj4{x:aj}(hx:x.Ok){h:List Int}:h∈aL x<->m8 x.first x.an h x.hours.toNat/\∀s∈x.seen,kL s.next (h.getD s.hour.toNat 0)=true:=by
 have hp:=hx.an;unfold aL;rw[Kk _ _ _ (by simp)];simp only[T6];constructor
 ·rintro⟨h1,h2,h3⟩
  have h4:=(Hb (pre:=[]) (v:=x.first)).1 h2;refine⟨⟨by omega,h4.2.2,λj hj=> ?_⟩,λs hs=> ?_⟩
  ·obtain⟨n,hn,e⟩:=(h3 j (by omega) (by omega)).2 (by omega);omega
  ·have hsr:=(hx.seen s hs).1;have:=(h3 s.hour.toNat (by omega) (by omega)).1;unfold rV at this;have:=Tv.1 this s hs;have e:s.hour=(s.hour.toNat:Int):=(by omega);rw[<- e]at this;simpa using this
 ·rintro⟨h1,h2⟩
  have hl:=h1.len;refine⟨by omega,(Hb (pre:=[]) (v:=x.first)).2 ⟨rfl,by simp;omega,h1.head⟩,λj _ hj=>⟨?_,λFj=> ?_⟩⟩
  ·unfold rV;rw[Tv];intro s hs;by_cases e:s.hour=(j:Int)
   ·have:=h2 s hs;rw[show s.hour.toNat=j by omega]at this;rw[this];simp
   ·simp[e]
  ·have:=h1.step j (by omega);exact⟨(h.getD (j+1) 0-h.getD j 0).toNat,by omega,by omega⟩
theorem arp{x:aj}{u:Tr}:u∈bx x<->u.bu∈aL x/\u.aA∈mV u.bu x.pieces []/\u.cg∈pE u.bu u.aA x.aB []:=by
 constructor
 ·intro hu;obtain⟨h,a,b⟩:=S6.1 hu;obtain⟨ns,c,d⟩:=S6.1 b;obtain⟨os,e,rfl⟩:=Tn.1 d;exact⟨a,c,e⟩
 ·rintro⟨a,b,c⟩
  exact S6.2 ⟨u.bu,a,S6.2 ⟨u.aA,b,Tn.2 ⟨u.cg,c,rfl⟩⟩⟩
theorem ai1{l:List Nat}{i:Nat}(h:i<l.length):l.getD i 0∈l:=by
 rw[SE,SP h];exact VF h
theorem Gl{x:aj}(hx:x.Ok){u:Tr}:u∈bx x<->NJ x u:=by
 rw[arp,aj4 hx];constructor
 ·rintro⟨⟨h1,h2⟩,h3,h4⟩
  have hm:=h1.mono;rw[Gv hm]at h3;rw[GJ]at h4;simp only[UQ,Wt]at h3 h4;obtain⟨a1,_,a3⟩:=h3;obtain⟨b1,_,b3⟩:=h4;refine⟨h1,h2,a1,λp y hy=>(a3 p y hy).1,aaV (d:=0) λi hi=> ?_,b1,λv hv=> ?_,λs y hy=>(b3 s y hy).1,aaV (d:=0) λi hi=> ?_⟩
  ·obtain⟨y,hy⟩:∃y,x.pieces[i]?=some y:=⟨_,SP (by omega)⟩;exact(a3 i y hy).2
  ·obtain⟨i,hi⟩:=VI hv;have bG:=(SN.1 hi).1;obtain⟨y,hy⟩:∃y,x.aB[i]?=some y:=⟨_,SP (by omega)⟩;have:=(b3 i y hy).2.1;rw[SE,hi]at this;rw[<- a1];exact this
  ·obtain⟨y,hy⟩:∃y,x.aB[i]?=some y:=⟨_,SP (by omega)⟩;exact(b3 i y hy).2.2
 ·intro h;refine⟨⟨h.bu,h.seen⟩,?_,?_⟩
  ·rw[Gv h.bu.mono];simp only[UQ,Wt];refine⟨h.wq,rfl,λi y hy=>⟨h.piece i y hy,P8 ?_ h.Gt⟩⟩;have:=(SN.1 hy).1;rw[h.wq];exact this
  ·rw[GJ];simp only[UQ,Wt];refine⟨h.Aa,rfl,λi y hy=> ?_⟩;have hi:=(SN.1 hy).1;have uu:i<u.cg.length:=(by rw[h.Aa];exact hi);exact⟨h.stub i y hy,by rw[h.wq];exact h.own _ (ai1 uu),P8 uu h.Mg⟩
end Tk
open Go.Gg.Tk
theorem alP{first an:Int}{l:List Int}{i:Nat}(h:m8 first an l i):l.getLastD 0=l.getD i 0:=by
 have hl:=h.len;rw[Vh,Ye,SE,hl];rfl
theorem ajV{first an:Int}{l:List Int}{i:Nat}(h:m8 first an l i):l.headD 0=first:=by
 have hl:=h.len;have:=h.head;cases l with
 |nil=>cases hl
 |cons a l=>exact this
theorem m8.top{first an:Int}{l:List Int}{i:Nat}(h:m8 first an l i)(hf:0<=first/\first<=90)(hp:1<=an/\an<=3)(hi:i<=3):∀j,j<=i->first<=l.getD j 0/\l.getD j 0<=first+9:=λj hj=>by
 have h1:=h.ge (by omega) j hj;have:an* (j:Int)<=3* 3:=Yg (by omega) (by omega) (by omega) (by omega);generalize an* (j:Int)=q at h1 this;omega
theorem ajj{first an:Int}{l:List Int}{i:Nat}(h:m8 first an l i)(hi:1<=i/\i<=3)(hf:0<=first/\first<=90)(hp:1<=an/\an<=3){n:Int}(hn:first<=n/\n<l.getD i 0)(τ:bt):DJ l i n (lL τ l n i):=by
 have hl:=h.len;have hm:=h.mono;have ht:=h.top hf hp hi.2 i (SU _);have hk:=arc (n:=n) (by omega) (by omega) hm;have h0:0<=gK l n:=(ac1 hm).2 (by rw[ajV h,alP h];exact hn);have h1:=Ng l 0 h0;have Jl:gK l n+1<l.length:=by have:dK 0 l n=gK l n:=rfl;omega
 have a1:=D2 (τ:=τ) (n:=n) (m:=2) (lo:=0) (hi:=99) (by omega) (by omega);have a2:=D2 (τ:=tick (tick τ)) (n:=gK l n) (m:=1) (lo:=0) (hi:=(i:Int)-1) (by omega) (by omega);refine⟨a1.1,?_,?_⟩
 ·unfold lL;rw[hk];exact a2.1
 ·unfold Tk.fits lL;rw[hk,Ti,Ti,decide_eq_true_eq];exact⟨⟨h0,a1.2⟩,a2.2⟩
variable {pm:Nat}{x:aj}{bu aA cg:List Int}
theorem Made.QB(h:Made pm x bu aA cg){n:Int}(hn:n∈aA)(τ:bt):DJ bu x.hours n (lL τ bu n x.hours):=by
 have hh:=h.hours;have:=ajj h.Fi (by omega) h.first h.an (h.num n hn) τ;rw[Int.toNat_of_nonneg (by omega)]at this;exact this
theorem Ji{l:List Int}{i:Nat}(h:i<l.length):l.getD i 0∈l:=by
 rw[SE,SP h];exact VF h
theorem Made.N8(h:Made pm x bu aA cg){p:Nat}{y:aH}(hy:x.pieces[p]?=some y):DJ bu x.hours (aA.getD p 0) y:=by
 obtain⟨τ,rfl⟩:=h.piece p y hy;exact h.QB (Ji (by rw[h.wq];exact(SN.1 hy).1)) τ
theorem Made.N9(h:Made pm x bu aA cg){s:Nat}{y:aH}(hy:x.aB[s]?=some y):DJ bu x.hours (aA.getD (cg.getD s 0).toNat 0) y:=by
 obtain⟨τ,rfl⟩:=h.stub s y hy;have hs:s<cg.length:=by rw[h.Aa];exact(SN.1 hy).1
 have:=h.own _ (Ji hs);exact h.QB (Ji (by omega)) τ
theorem Made.ok(h:Made pm x bu aA cg)(s8:pm<=4):x.Ok:=by
 have hh:=h.hours;refine⟨h.first,h.hours,h.an,by have:=h.Ai;omega,by have:=h.amY;omega,h.aB,λs hs=> ?_,λy hy=> ?_,λy hy=> ?_⟩
 ·obtain⟨h1,h2,τ,h3⟩:=h.seen s hs;have ht:=h.Fi.top h.first h.an (by omega) s.hour.toNat (by omega);have hf:=h.first;rw[h3];exact⟨⟨h1,h2⟩,(D2 (by omega) (by omega)).1⟩
 ·obtain⟨p,hp⟩:=VI hy;have:=h.N8 hp;exact⟨this.num,this.hour⟩
 ·obtain⟨p,hp⟩:=VI hy;have:=h.N9 hp;exact⟨this.num,this.hour⟩
def abG (bu aA cg:List Int):Tr:=⟨bu,aA,cg.map X_⟩
theorem Made.arl(h:Made pm x bu aA cg):NJ x (abG bu aA cg):=by
 have hh:=h.hours;have pk:∀s,s<cg.length->(cg.map X_).getD s 0=(cg.getD s 0).toNat:=λs hs=>by
  rw[SE,SE,Tj,SP hs];rfl
 refine⟨h.Fi,λs hs=> ?_,h.wq,λp y hy=>(h.N8 hy).fits,h.Gt,by show (cg.map X_).length=_;rw[To];exact h.Aa,λv hv=> ?_,λs y hy=> ?_,?_⟩
 ·obtain⟨h1,h2,τ,h3⟩:=h.seen s hs;have ht:=h.Fi.top h.first h.an (by omega) s.hour.toNat (by omega);have hf:=h.first;rw[h3];exact(D2 (by show _<=bu.getD _ _/\_;omega) (by omega)).2
 ·obtain⟨w,hw,rfl⟩:=Tn.1 hv;have:=h.own w hw;have:=h.wq;omega
 ·have hs:s<cg.length:=by rw[h.Aa];exact(SN.1 hy).1
  show Tk.fits bu y (aA.getD ((cg.map X_).getD s 0) 0)=true;rw[pk s hs];exact(h.N9 hy).fits
 ·show (cg.map X_).Nodup;rw[Uv,XM];refine Xw ?_ (Uv.1 h.Mg);intro a c ha hc aC e;have h1:=h.own a ha;have h2:=h.own c hc;omega
theorem Made.mem(h:Made pm x bu aA cg)(s8:pm<=4):abG bu aA cg∈bx x:=(Gl (h.ok s8)).2 h.arl
theorem Made.ne(h:Made pm x bu aA cg)(s8:pm<=4):bx x≠[]:=λe=>by
 have:=h.mem s8;rw[e]at this;cases this
theorem aqT(x:aj)(deep:Int)(Q:Kn)(t:List Int):(ej x deep Q t).first=if Q.has=true then Q.first else t:=by
 have hB:(jQ Q t).first=if Q.has=true then Q.first else t:=by unfold jQ;split<;>rfl
 unfold ej;dsimp only;split
 ·exact hB
 ·split
  ·exact hB
  ·exact hB
theorem PY{x:aj}{deep:Int}:∀(ts:List (List Int))(Q:Kn),(ts.foldl (ej x deep) Q).first=if Q.has=true then Q.first else(match ts with|[]=>Q.first|t::_=>t)
 |[],Q=>by simp
 |t::ts,Q=>by
  rw[UY,PY ts,acR,if_pos rfl,aqT]
theorem arK{x:aj}{deep:Int}{j:Nat}{t:List Int}{l:List (List Int)}(h:e_ x deep j=t::l):(gL x deep j).first=t:=by
 rw[Hm,PY,h];rfl
theorem alr{Q G:Kn}{hs:List (List Int)}(h:G.has=true):(fJ Q hs G).first=if Q.has=false\/sB G.first Q.first=true then G.first else Q.first:=by
 unfold fJ;rw[if_pos h]
theorem anH{h:List Int}{a b:Int}(hl:h.take 2=[a,b]):(cL h).take 4=a::b::((cL h).drop 2).take 2:=by
 match h,hl with
 |c::d::l,hl=>
  simp only[VQ,an_,YR,and_true]at hl;obtain⟨rfl,rfl⟩:=hl;simp[cL]
theorem Qc{x:aj}{deep:Int}{j:Nat}(hx:x.Ok)(hj:j<x.an.toNat+1){t:List Int}(ht:t∈e_ x deep j):∃l,t.take 4=x.first::(x.first+(j:Int))::l:=by
 rw[EB hx hj]at ht;obtain⟨u,hu,rfl⟩:=Tn.1 ht;obtain⟨h,hm,hu⟩:=S6.1 hu;have hL:=Q8 hx hj hm;have jZ:=yp (yo hu);have h2:h.take 2=[x.first,x.first+(j:Int)]:=by
  unfold v6 at hm;split at hm
  ·exact Fh _ _ _ hm
  ·cases hm
 have e:(dR u).take 4=(cL h).take 4:=by
  unfold dR di;rw[jZ,SD,Tw (by rw[wy hL.hi];omega)]
 rw[e,anH h2];exact⟨_,rfl⟩
theorem ai3{x:aj}{deep:Int}{i j:Nat}(hx:x.Ok)(hi:i<x.an.toNat+1)(hj:j<x.an.toNat+1)(kq:i≠j){t u:List Int}(ht:t∈e_ x deep i)(hu:u∈e_ x deep j):sB t u=decide (i<j):=by
 obtain⟨l,h1⟩:=Qc hx hi ht;obtain⟨m,h2⟩:=Qc hx hj hu;have aC:t.take 4≠u.take 4:=by
  rw[h1,h2];simp only[ne_eq,YR,true_and,not_and];intro h;omega
 unfold sB;rw[if_neg aC,h1,h2];by_cases h:i<j
 ·have e1:mL (x.first+(i:Int)) (x.first+(j:Int))= -1:=by unfold mL;rw[if_pos (by omega)]
  have e0:mL x.first x.first=0:=by unfold mL;simp
  simp[og,e0,e1,h]
 ·have e1:mL (x.first+(i:Int)) (x.first+(j:Int))=1:=by unfold mL;rw[if_neg (by omega),if_pos (by omega)]
  have e0:mL x.first x.first=0:=by unfold mL;simp
  simp[og,e0,e1,h]
theorem aab{x:aj}{deep:Int}{js:List Nat}{D:Kn}(hx:x.Ok)(hJ:nZ x deep js D)(hn:js.Nodup)(hj:∀j∈js,j<x.an.toNat+1)(hh:D.has=true):∃j∈js,∃t l,e_ x deep j=t::l/\D.first=t/\∀i∈js,e_ x deep i≠[]->j<=i:=by
 induction hJ with
 |nil=>cases hh
 |@snoc js Q j hs hJ hp ih=>
  have kH:js.Nodup:=(U8.1 hn).1;have o_:j∉js:=λh=>(U8.1 hn).2.2 j h j (by simp) rfl;have St:=ih kH (λi hi=>hj i (by simp[hi]));by_cases hG:e_ x deep j=[]
  ·have hg:(gL x deep j).has=false:=(by rw[Dn,hG];rfl);have hD:fJ Q hs (gL x deep j)=Q:=(by unfold fJ;rw[hg];rfl);rw[hD]at hh⊢;obtain⟨i,h1,t,l,h2,h3,h4⟩:=St hh;refine⟨i,by simp[h1],t,l,h2,h3,λk hk aC=> ?_⟩;rcases SV.1 hk with hk|hk
   ·exact h4 k hk aC
   ·rw[Tb]at hk;subst hk;exact absurd hG aC
  ·obtain⟨t,l,ht⟩:∃t l,e_ x deep j=t::l:=by
    cases hg:e_ x deep j with
    |nil=>exact absurd hg hG
    |cons t l=>exact⟨t,l,rfl⟩
   have hg:(gL x deep j).has=true:=(by rw[Dn,ht];rfl);rw[alr hg,arK ht];by_cases hQ:Q.has=true
   ·obtain⟨i,h1,t',l',h2,h3,h4⟩:=St hQ;have hb:sB t Q.first=decide (j<i):=by
     rw[h3];exact ai3 hx (hj j (by simp)) (hj i (by simp[h1])) (λe=>o_ (e▸h1)) (by rw[ht];simp) (by rw[h2];simp)
    by_cases kq:j<i
    ·rw[if_pos (.inr (by rw[hb];simpa using kq))];refine⟨j,by simp,t,l,ht,rfl,λk hk aC=> ?_⟩;rcases SV.1 hk with hk|hk
     ·have:=h4 k hk aC;omega
     ·rw[Tb]at hk;omega
    ·rw[if_neg (by rw[hQ,hb];simpa using kq)];refine⟨i,by simp[h1],t',l',h2,h3,λk hk aC=> ?_⟩;rcases SV.1 hk with hk|hk
     ·exact h4 k hk aC
     ·rw[Tb]at hk;omega
   ·rw[if_pos (.inl (by simpa using hQ))];refine⟨j,by simp,t,l,ht,rfl,λk hk aC=> ?_⟩;rcases SV.1 hk with hk|hk
    ·have hQf:Q.has=js.any λj=> !(e_ x deep j).isEmpty:=aac hJ;exfalso;apply hQ;rw[hQf,UL];refine⟨k,hk,?_⟩;cases hg:e_ x deep k with
     |nil=>exact absurd hg aC
     |cons=>rfl
    ·rw[Tb]at hk;omega
theorem QW{α:Type}{f:Nat->List α}{j:Nat}{t:α}{l:List α}:∀{n:Nat},j<n->f j=t::l->(∀i,i<j->f i=[])->((S0 n).flatMap f).head?=some t
 |0,h,_,_=>absurd h (by omega)
 |n+1,h,hf,h0=>by
  rw[Vk,Vs,WQ];by_cases hj:j<n
  ·rw[QW hj hf h0];rfl
  ·have e:j=n:=(by omega);subst e;have:(S0 j).flatMap f=[]:=by
    rw[WS];intro i hi;exact h0 i (TG.1 hi)
   rw[this];simp[hf]
theorem JW{α β:Type}{f g:α->List β}:∀(l:List α),(∀a,(f a).head?=(g a).head?)->(l.flatMap f).head?=(l.flatMap g).head?
 |[],_=>rfl
 |a::l,h=>by
  rw[Uo,Uo,WQ,WQ,h a,JW l h]
theorem acQ{α:Type}(l:List α):(l.take 1).head?=l.head?:=by cases l<;>rfl
theorem aet{x:aj}{deep:Int}:(oS x deep).head?=(bx x).head?:=by
 refine JW _ λh=> ?_;have h1:(u5 x h).head?=(oM x h).head?:=JW _ λns=>acQ _;unfold r_;split
 ·rw[acQ,h1]
 ·split
  ·exact h1
  ·rfl
theorem alA{x:aj}{deep:Int}{D:Kn}(hx:x.Ok)(h:eB x deep D)(hh:D.has=true):∃u l,bx x=u::l/\D.first=dR u:=by
 obtain⟨p,js,h1,h2,h3,_⟩:=h;have nK:x.an.toNat=p:=by omega
 have hj:∀j∈js,j<x.an.toNat+1:=λj hj=>by rw[nK];exact TG.1 (h2.mem_iff.1 hj)
 obtain⟨j,a,t,l,b,c,d⟩:=aab hx h3 (h2.nodup_iff.2 XZ) hj hh;have hd:((S0 (p+1)).flatMap λj=>e_ x deep j).head?=some t:=by
  refine QW (TG.1 (h2.mem_iff.1 a)) b λi hi=> ?_;cases hg:e_ x deep i with
  |nil=>rfl
  |cons v w=>
   have:=d i (h2.mem_iff.2 (TG.2 (by have:=hj j a;omega))) (by rw[hg];simp);omega
 have he:((S0 (p+1)).flatMap λj=>e_ x deep j)=(oS x deep).map dR:=by
  unfold oS;rw[<- adj hx,nK,Vu];exact Bq λi hi=>EB hx (by rw[nK];exact TG.1 hi)
 rw[he,List.head?_map,aet]at hd;cases ht:bx x with
 |nil=>rw[ht]at hd;cases hd
 |cons u l=>
  rw[ht]at hd;simp only[ZR,UN,Tm]at hd;exact⟨u,l,rfl,by rw[c,hd]⟩
namespace Tk
def live (x:aj):List (List Int):=(aL x).filter λh=> !(oM x h).isEmpty
def cnt (x:aj):Int:=(live x).length
theorem Gd{x:aj}{h:List Int}:h∈live x<->∃u∈bx x,u.bu=h:=by
 unfold live;rw[Uj];constructor
 ·rintro⟨h1,h2⟩
  cases ht:oM x h with
  |nil=>rw[ht]at h2;cases h2
  |cons u l=>
   have hu:u∈oM x h:=(by rw[ht];simp);exact⟨u,S6.2 ⟨h,h1,hu⟩,yp hu⟩
 ·rintro⟨u,hu,rfl⟩
  obtain⟨h,a,b⟩:=S6.1 hu;have e:=yp b;subst e;refine⟨a,?_⟩;cases ht:oM x u.bu with
  |nil=>rw[ht]at b;cases b
  |cons=>rfl
theorem Kl{x:aj}{h:List Int}(hm:h∈aL x):h.length=1+x.hours.toNat:=(zv _ _ _ (by simp) hm).1
theorem Mj{h:List Int}{n:Nat}(hl:h.length=n):(cL h).take n=h:=by
 subst hl;unfold cL;rw[Tw (SU _),TP]
theorem amp(x:aj):((live x).map cL).Nodup:=by
 have h:(live x).Nodup:=(aj6 x).filter _;rw[Uv,XM];have h2:=Uv.1 h;refine Xw ?_ h2;intro a b ha hb aC e;have la:=Kl ((Uj.1 ha).1);have lb:=Kl ((Uj.1 hb).1);apply aC;rw[<- Mj la,e,Mj lb]
end Tk
theorem IR{x:aj}(hx:x.Ok){u:Tr}(hu:u∈bx x):(dR u).take 4=cL u.bu:=by
 have hl:=(u6 hx hu).1;have hh:=hx.hours;unfold dR di;rw[SD,Tw (by rw[wy (by omega)];omega),SY (by rw[wy (by omega)];omega)]
theorem aaf{x:aj}{D:Kn}(hx:x.Ok)(h:eB x 0 D):D.aL.Perm ((live x).map cL):=by
 have hn:D.aL.Nodup:=by obtain⟨p,js,h1,h2,h3,_⟩:=h;exact alv h3
 refine(List.perm_ext_iff_of_nodup hn (amp x)).2 λg=> ?_;rw[alB hx h,Tn];constructor
 ·rintro⟨u,hu,rfl⟩
  exact⟨u.bu,Gd.2 ⟨u,hu,rfl⟩,(IR hx hu).symm⟩
 ·rintro⟨h,hm,rfl⟩
  obtain⟨u,hu,rfl⟩:=Gd.1 hm;exact⟨u,hu,(IR hx hu).symm⟩
theorem wi{x:aj}{deep:Int}{D:Kn}(hx:x.Ok)(h:eB x deep D):D.has=false<->bx x=[]:=by
 rw[CE hx h];cases bx x<;>simp
theorem aax{x:aj}:live x=[]<->bx x=[]:=by
 constructor
 ·intro h;cases ht:bx x with
  |nil=>rfl
  |cons u l=>
   have:u.bu∈live x:=Gd.2 ⟨u,by rw[ht];simp,rfl⟩;rw[h]at this;cases this
 ·intro h;cases hl:live x with
  |nil=>rfl
  |cons a l=>
   obtain⟨u,hu,_⟩:=Gd.1 (show a∈live x by rw[hl];simp);rw[h]at hu;cases hu
theorem count_eq{x:aj}{D:Kn}(hx:x.Ok)(h:eB x 0 D):(if D.has then(D.aL.length:Int)else 0)=cnt x:=by
 cases hD:D.has with
 |true=>rw[if_pos rfl,(aaf hx h).length_eq,To];rfl
 |false=>
  have:=aax.2 ((wi hx h).1 hD);simp[cnt,this]
theorem amT(a b:Int):min a b=a\/min a b=b:=by omega
theorem amO(a b:Int):max a b=a\/max a b=b:=by omega
theorem Oz(v:List Int->Int):∀(hs:List (List Int))(b:ie),b.is=true->(hs.foldl (λb h=>b.add (v h)) b).is=true/\((hs.foldl (λb h=>b.add (v h)) b).lo=b.lo\/∃h∈hs,(hs.foldl (λb h=>b.add (v h)) b).lo=v h)/\(hs.foldl (λb h=>b.add (v h)) b).lo<=b.lo/\(∀h∈hs,(hs.foldl (λb h=>b.add (v h)) b).lo<=v h)/\((hs.foldl (λb h=>b.add (v h)) b).hi=b.hi\/∃h∈hs,(hs.foldl (λb h=>b.add (v h)) b).hi=v h)/\b.hi<=(hs.foldl (λb h=>b.add (v h)) b).hi/\∀h∈hs,v h<=(hs.foldl (λb h=>b.add (v h)) b).hi
 |[],b,hb=>⟨hb,.inl rfl,Zq _,by simp,.inl rfl,Zq _,by simp⟩
 |g::hs,b,hb=>by
  have dq:b.add (v g)=⟨min b.lo (v g),max b.hi (v g),true⟩:=by unfold ie.add;rw[if_pos hb]
  obtain⟨h1,h2,h3,h4,h5,h6,h7⟩:=Oz v hs (b.add (v g)) (by rw[dq]);rw[UY];generalize hs.foldl (λb h=>b.add (v h)) (b.add (v g))=R at*;rw[dq]at h2 h3 h5 h6;dsimp only at h2 h3 h5 h6;have m1:min b.lo (v g)=b.lo\/min b.lo (v g)=v g:=amT _ _;have m2:max b.hi (v g)=b.hi\/max b.hi (v g)=v g:=amO _ _;refine⟨h1,?_,XH h3 (Int.min_le_left _ _),?_,?_,XH (Int.le_max_left _ _) h6,?_⟩
  ·rcases h2 with h2|⟨h,a,c⟩
   ·rcases m1 with m1|m1
    ·exact .inl (h2.trans m1)
    ·exact .inr ⟨g,by simp,h2.trans m1⟩
   ·exact .inr ⟨h,by simp[a],c⟩
  ·intro h hm;rcases SL.1 hm with rfl|hm
   ·exact XH h3 (Int.min_le_right _ _)
   ·exact h4 h hm
  ·rcases h5 with h2|⟨h,a,c⟩
   ·rcases m2 with m1|m1
    ·exact .inl (h2.trans m1)
    ·exact .inr ⟨g,by simp,h2.trans m1⟩
   ·exact .inr ⟨h,by simp[a],c⟩
  ·intro h hm;rcases SL.1 hm with rfl|hm
   ·exact XH (Int.le_max_right _ _) h6
   ·exact h7 h hm
namespace Tk
structure Bounds (hs:List (List Int))(v:List Int->Int)(lo hi:Int):Prop where
 F3:∃h∈hs,lo=v h
 le:∀h∈hs,lo<=v h
 F2:∃h∈hs,hi=v h
 ge:∀h∈hs,v h<=hi
theorem Bounds.uniq{hs:List (List Int)}{v:List Int->Int}{a b c d:Int}(h:Bounds hs v a b)(k:Bounds hs v c d):a=c/\b=d:=by
 obtain⟨g1,m1,e1⟩:=h.F3;obtain⟨g2,m2,e2⟩:=h.F2;obtain⟨g3,m3,e3⟩:=k.F3;obtain⟨g4,m4,e4⟩:=k.F2;have:=h.le _ m3;have:=h.ge _ m4;have:=k.le _ m1;have:=k.ge _ m2;omega
theorem Bounds.anp{hs gs:List (List Int)}{v:List Int->Int}{a b:Int}(h:Bounds hs v a b)(hp:hs.Perm gs):Bounds gs v a b:=by
 obtain⟨g1,m1,e1⟩:=h.F3;obtain⟨g2,m2,e2⟩:=h.F2;exact⟨⟨g1,hp.mem_iff.1 m1,e1⟩,λg hg=>h.le g (hp.mem_iff.2 hg),⟨g2,hp.mem_iff.1 m2,e2⟩,λg hg=>h.ge g (hp.mem_iff.2 hg)⟩
end Tk
theorem afN{hs:List (List Int)}(v:List Int->Int)(aC:hs≠[]):Bounds hs v (hs.foldl (λ(b:ie) h=>b.add (v h)) (⟨0,0,false⟩:ie)).lo (hs.foldl (λ(b:ie) h=>b.add (v h)) (⟨0,0,false⟩:ie)).hi:=by
 cases hs with
 |nil=>exact absurd rfl aC
 |cons g hs=>
  rw[UY,show ie.add ⟨0,0,false⟩ (v g)=⟨v g,v g,true⟩from rfl];obtain⟨_,h2,h3,h4,h5,h6,h7⟩:=Oz v hs ⟨v g,v g,true⟩ rfl;generalize hs.foldl (λ(b:ie) h=>b.add (v h)) (⟨v g,v g,true⟩:ie)=R at*;dsimp only at h2 h3 h5 h6;refine⟨?_,?_,?_,?_⟩
  ·rcases h2 with h2|⟨h,a,c⟩
   ·exact⟨g,by simp,h2⟩
   ·exact⟨h,by simp[a],c⟩
  ·intro h hm;rcases SL.1 hm with rfl|hm
   ·exact h3
   ·exact h4 h hm
  ·rcases h5 with h2|⟨h,a,c⟩
   ·exact⟨g,by simp,h2⟩
   ·exact⟨h,by simp[a],c⟩
  ·intro h hm;rcases SL.1 hm with rfl|hm
   ·exact h6
   ·exact h7 h hm
open Go.Gg.Tk
theorem abh{h ns:List Int}:∀{ss:List aH}{t os:List Nat},os∈pE h ns ss t->(∀p∈t,p<ns.length)->os.length=t.length+ss.length/\∀p∈os,p<ns.length
 |[],t,os,hm,ht=>by
  simp only[pE,Tb]at hm;subst hm;exact⟨rfl,ht⟩
 |s::ss,t,os,hm,ht=>by
  simp only[pE,S6,Uj,TG]at hm;obtain⟨p,⟨hp,_⟩,hm⟩:=hm;have:=abh hm λq hq=>by
   rcases SV.1 hq with hq|hq
   ·exact ht q hq
   ·rw[Tb.1 hq];exact hp
  refine⟨?_,this.2⟩;rw[this.1];simp;omega
theorem He{x:aj}(hx:x.Ok){u:Tr}(hu:u∈bx x):u.cg.length=x.aB.length/\∀p∈u.cg,p<x.pieces.length:=by
 have h2:=(u6 hx hu).2;obtain⟨h,a,b⟩:=S6.1 hu;obtain⟨ns,c,d⟩:=S6.1 b;obtain⟨os,e,rfl⟩:=Tn.1 d;have:=abh e (by simp);dsimp only at h2⊢;rw[<- h2];exact⟨by simpa using this.1,this.2⟩
theorem agO{x:aj}(hx:x.Ok){u:Tr}(hu:u∈bx x){s:Nat}(hs:s<x.aB.length):rY (dR u) s=u.cg.getD s 0:=by
 obtain⟨h1,h2⟩:=u6 hx hu;have h3:=(He hx hu).1;have hh:=hx.hours;have lq:=hx.cT;have h4:=wy (h:=u.bu) (by omega);have dN:s<u.cg.length:=by omega
 have hg:(dR u)[8+s]?=some ((u.cg[s]:Nat):Int):=by
  unfold dR di kQ;have h8:(cL u.bu++((u.aA.map λn=>(n-u.bu.headD 0).toNat).map (λn:Nat=>(n:Int))++TL (4-(u.aA.map λn=>(n-u.bu.headD 0).toNat).length) (-1))).length=8:=by simp[h4];omega
  rw[Tg (by omega),h8,UR,SW (by simpa using dN),Tj,SP dN];rfl
 unfold rY;rw[SE,hg,SE,SP dN];rfl
namespace Tk
def yJ (x:aj)(f:Tr->Bool):Bool:=(bx x).any f
theorem pN{x:aj}{f:Tr->Bool}:yJ x f=true<->∃u∈bx x,f u=true:=UL
def iI (f:Nat->Bool)(more:Int)(i:Nat):List Int:=((S0 i).filter f).map λn:Nat=>(n:Int)+more
def CV (x:aj)(p n:Nat):Bool:=yJ x λu=>decide ((u.aA.getD p 0-u.bu.headD 0).toNat=n)
def oD (x:aj)(p n:Nat):Bool:=yJ x λu=>decide ((gK u.bu (u.aA.getD p 0)).toNat=n)
def fK (x:aj)(p q:Nat):Bool:=yJ x λu=>decide (u.aA.getD p 0<u.aA.getD q 0)
def tE (x:aj)(s q:Nat):Bool:=yJ x λu=>decide (u.cg.getD s 0=q)
def CZ (x:aj)(s q:Nat):Bool:=yJ x λu=> !decide (u.cg.getD s 0=q)
theorem LU{s:Nat}{f:Nat->Bool}{more:Int}{i:Nat}(h:∀n,n<i->s.testBit n=f n):fC s more i=iI f more i:=by
 unfold fC iI;congr 1;exact Vj λn hn=>h n (TG.1 hn)
end Tk
theorem anc{x:aj}{D:Kn}{p:Nat}(hx:x.Ok)(hD:eB x 1 D)(hp:p<x.pieces.length)(n:Nat):(D.aA.getD p 0).testBit n=CV x p n:=by
 rw[UI,alE hx hD hp];unfold CV;rw[pN];simp only[decide_eq_true_eq]
theorem akx{x:aj}{D:Kn}{p:Nat}(hx:x.Ok)(hD:eB x 1 D)(hp:p<x.pieces.length)(n:Nat):(D.hours.getD p 0).testBit n=oD x p n:=by
 rw[UI,alC hx hD hp];unfold oD;rw[pN];simp only[decide_eq_true_eq]
theorem aat{x:aj}{D:Kn}{p q:Nat}(hx:x.Ok)(hD:eB x 1 D)(hp:p<x.pieces.length)(hq:q<x.pieces.length):(D.less.getD p 0).testBit q=fK x p q:=by
 rw[UI,alD hx hD hp hq];unfold fK;rw[pN];simp only[decide_eq_true_eq]
theorem Mk{x:aj}{D:Kn}{s:Nat}(hx:x.Ok)(hD:eB x 2 D)(hs:s<x.aB.length)(n:Nat):(D.aV.getD s 0).testBit n=tE x s n:=by
 rw[UI,alF hx hD hs];unfold tE;rw[pN];refine exists_congr λu=>and_congr_right λhu=> ?_;rw[agO hx hu hs,decide_eq_true_eq]
theorem anJ{x:aj}{D:Kn}{s q:Nat}(hx:x.Ok)(hD:eB x 2 D)(hs:s<x.aB.length)(hh:D.has=true):(D.aV.getD s 0!=2^q)=CZ x s q:=by
 have hb:=Mk hx hD hs;rw[UI,bne_iff_ne];unfold CZ;rw[pN];constructor
 ·intro aC;obtain⟨u,hu⟩:∃u,u∈bx x:=by
   rw[CE hx hD]at hh;cases ht:bx x with
   |nil=>rw[ht]at hh;cases hh
   |cons u l=>exact⟨u,by simp⟩
  by_cases Se:u.cg.getD s 0=q
  ·refine Tt λfq=>aC ?_;apply Nat.eq_of_testBit_eq;intro n;rw[hb,VP,UI,decide_eq_true_eq];unfold tE;rw[pN];constructor
   ·rintro⟨v,hv,e⟩
    rw[decide_eq_true_eq]at e;refine Tt λFF=>fq ⟨v,hv,?_⟩;rw[e];simp;exactλh=>FF h.symm
   ·rintro rfl
    exact⟨u,hu,by rw[decide_eq_true_eq];exact Se⟩
  ·exact⟨u,hu,by simpa using Se⟩
 ·rintro⟨u,hu,h⟩ he
  have hp:tE x s (u.cg.getD s 0)=true:=by
   unfold tE;rw[pN];exact⟨u,hu,by simp⟩
  rw[<- hb,he,VP,decide_eq_true_eq]at hp;rw[hp]at h;simp at h
theorem anI{x:aj}{D:Kn}{s q:Nat}(hx:x.Ok)(hD:eB x 2 D)(hs:s<x.aB.length):(if D.has then vM ((D.aV.getD s 0).testBit q) (D.aV.getD s 0!=2^q)else 0)=if(bx x).isEmpty then 0 else vM (tE x s q) (CZ x s q):=by
 have hh:=CE hx hD;cases Jr:D.has with
 |true=>
  rw[Jr]at hh;have:(bx x).isEmpty=false:=by simpa using hh.symm
  rw[this,if_pos rfl,Mk hx hD hs,anJ hx hD hs Jr];rfl
 |false=>
  rw[Jr]at hh;have:(bx x).isEmpty=true:=by simpa using hh.symm
  rw[this];rfl
theorem afr{x:aj}{D:Kn}{a b:Nat}(hx:x.Ok)(hD:eB x 1 D)(ha:a<x.pieces.length)(hb:b<x.pieces.length):(if D.has then vM ((D.less.getD a 0).testBit b) ((D.less.getD b 0).testBit a)else 0)=if(bx x).isEmpty then 0 else vM (fK x a b) (fK x b a):=by
 have hh:=CE hx hD;rw[aat hx hD ha hb,aat hx hD hb ha,hh];cases (bx x).isEmpty<;>rfl
theorem Oq{x:aj}{deep:Int}{D:Kn}(hx:x.Ok)(hD:eB x deep D):dQ D=if(bx x).isEmpty then 11 else 0:=by
 have hh:=CE hx hD;unfold dQ;rw[hh];cases (bx x).isEmpty<;>rfl
open Go.Conc Go.Proofs Go.Gg.Tk
theorem adg{l:List AV}{a b:AV}(h:Wk a b):sw (l++[a]) (l++[b]):=by
 induction l with
 |nil=>exact .cons h .nil
 |cons x l ih=>exact .cons (Wk.refl _) ih
theorem aaD(n m k:Nat)(bs:List (List Int)):Lt n (.sl m (bs.map bk) (.opn k))=(k<n):=by
 rw[amG,eq_iff_iff];refine⟨λh=>h.1,λh=>⟨h,λa ha=> ?_⟩⟩;have:=aaF n bs;rw[yG,tw]at this;exact this.mpr trivial a ha
theorem NH:gM (Ur none 0 0) 1=[.sl 0 [] .exact]:=rfl
theorem RE{H:List aa}(hH:bQ H)(n sz:Nat)(el:TypeId):bQ (H++[.tail n sz el]):=RB hH λz hz m=>by rw[Tb.1 hz];trivial
section
variable {lv:Bool}
end
namespace Tk
def iR (l:List Int):Nat:=if l.length=0 then 0 else(l.getD (l.length-1) 0).toNat+1
def nQ (n:Nat)(l:List Int)(j:Nat):List (List Int):=(S0 j).map λj:Nat=>l++[((iR l+j:Nat):Int)]
def nT (n:Nat):Nat->List (List Int)
 |0=>[[]]
 |i+1=>nT n i++nQ n ((nT n i).getD i []) (n-iR ((nT n i).getD i []))
def wm (n:Nat):List (List Int):=nT n (2^n)
theorem alJ(n:Nat)(l:List Int)(j:Nat):nQ n l (j+1)=nQ n l j++[l++[((iR l+j:Nat):Int)]]:=by
 unfold nQ;rw[Vk,TF];rfl
theorem anC:∀n,n<4->(∀i,i<2^n->i<(nT n i).length/\(∀l∈nT n i,l.length<=3/\∀y∈l,0<=y/\y<n))/\(∀i,i<2^n+1->(nT n i).length<=8)/\(nT n (2^n)).length=2^n:=by decide+kernel
end Tk
section
variable {lv:Bool}{H:List aa}{k kp:AV->List aa->Prop}
theorem aic{ns:List Int}{e:End}(hn:ns.length<=2^20)(h0:ns=[]->k (.sl 0 [] .exact) H)(hk:k (.sl ns.length (ns.map iv) (.opn H.length)) (H++[.tail ns.length 1 3])):bc lv SC 94 H [.sl ns.length (ns.map iv) e] k kp:=by
 refine bH (rs:=[.tmp 2]) (nt:=8) Tryz.f94 λhH hA=> ?_;simp only[br,SX];refine ai ?_;refine ai ?_;intro b hb;refine aD ?_;refine⟨λh=> ?_,λh=> ?_⟩
 ·
  refine ai ?_;refine aZ ?_;have:ns=[]:=by
   cases ns with
   |nil=>rfl
   |cons x xs=>rw[hb (by simp)]at h;cases h
  exact jU (H':=H) (G:=[]) (Wk.refl _) (by simp) (SU _) hH (by simp[LY]) (h0 this)
 ·
  refine aN ?_;refine ai ?_;refine⟨by omega,?_⟩;refine aZ ?_;exact cm hk
theorem ah0{n:Nat}(hn:n<=3)(hk:k (yG (wm n)) H):bc lv SC 70 H [iv n] k kp:=by
 refine bH (rs:=[.tmp 2]) (nt:=44) Tryz.f70 λhH hA=> ?_;simp only[br,SX];obtain⟨lg,iO,mP⟩:=anC n (by omega);refine ai ?_;refine ak ?_;simp only[seval,NH,Mh]
 (repeat apply gQ);refine vu (t:=3) (sz:=1) (el:=22) (by simp only[seval]<;>rfl) ?_
 refine ai ?_;refine cJ ?_;refine gP (2^n) (λi:Nat=>[(3,.sl (nT n i).length ((nT n i).map bk) (.opn H.length)),(4,iv i)]) (λi=>H++[.tail (nT n i).length 1 22]) (λi=>True) (λ_ _=>rfl) (by simp only[seval];simp[bA,Wk.refl];exact Nq (l:=[.sl 0 [] .exact]) (l':=[bk []]) rfl (sw.cons (iX _ _ _) .nil).at) rfl (λ_ _ _=>by simp) trivial (λcp dz i cW _ R hR=> ?_);clear cp dz;have bZ:i<2^n->SF.wrap ((i:Int)+1)=((i+1:Nat):Int):=λh=>by
  have:2^n<=2^3:=ZO (by omega) hn;rw[bI _ (by omega)];rfl
 refine ai ?_;refine aD ?_;refine⟨λh=> ?_,λh=> ?_⟩
 ·have bG:i<2^n:=by
   rcases YG i (2^n)with h'|h'
   ·exact h'
   ·have:i=2^n:=(by omega);subst this;rw[mP]at h;omega
  obtain⟨g1,g2⟩:=lg i bG;have g3:=iO i (by omega);have bZ:=bZ bG;obtain⟨l,hl⟩:=cz g1;have R8:nT n (i+1)=nT n i++nQ n l (n-iR l):=by
   rw[nT,SE,hl];rfl
  obtain⟨Ks,hly⟩:=g2 l (wn hl);generalize nT n i=o at R8 hl g1 g3 hR⊢;refine aN ?_;refine ak ?_;simp only[seval,acf hl,jR g1];refine ai ?_;refine ak ?_;simp only[seval,bk];refine aD ?_;refine⟨λh=> ?p1,λh=> ?p2⟩
  case' p1=>
   have sX:0<l.length:=(by omega);obtain⟨y,hy⟩:=cz (xs:=l) (i:=l.length-1) (by omega);have hyb:=hly y (wn hy);have pc:iR l=y.toNat+1:=(by unfold iR;rw[if_neg (by omega),SE,hy];rfl);have gY:SF.wrap ((l.length:Int)-1)=((l.length-1:Nat):Int):=(by rw[bI _ (by omega)];omega);have wc:SF.wrap (y+1)=((iR l:Nat):Int):=(by rw[bI _ (by omega),pc];omega);have mN:(0<=((l.length-1:Nat):Int)/\((l.length-1:Nat):Int)<l.length)=True:=(by simp;omega);refine ak ?_;simp only[seval,gY,fN hy,mN,wc];have Rl:iR l=iR l:=rfl
  case' p2=>
   have Rl:iR l=0:=(by unfold iR;rw[if_pos (by omega)]);refine aN ?_
  all_goals(
   refine ai ?_;refine cJ ?_;refine gP (n-iR l) (λj:Nat=>[(3,.sl (o.length+j) ((o++nQ n l j).map bk) (.opn H.length)),(7,iv (((iR l:Nat):Int)+j))]) (λj=>H++[.tail (o.length+j) 1 22]) (λi=>True) (λ_ _=>rfl) (by first|(simp only[seval];simp[bA,Wk.refl];done)|(simp only[seval,nQ,Zx];simp[bA,Wk.refl,Rl])) (by simp) (λ_ _ _=>by simp) trivial (λcp dz j o_ _ R2 sN=> ?_);clear cp dz;have Rj:(n-iR l)<=3:=(by omega);refine ai ?_;refine aD ?_;refine⟨λh2=> ?_,λh2=> ?_⟩
   ·have eR:j<n-iR l:=(by omega);have dg:(o++nQ n l (j+1)).map bk=(o++nQ n l j).map bk++[bk (l++[((iR l:Nat):Int)+j])]:=(by rw[alJ,<- SD,TF];rfl);have RF:((o++nQ n l j).map bk).length=o.length+j:=(by simp[nQ]);have FT:SF.wrap (((iR l:Nat):Int)+j+1)=((iR l:Nat):Int)+((j+1:Nat):Int):=(by rw[bI _ (by omega)];omega);refine aN ?_;refine ai ?_;refine aK ((aic (ns:=l) (by omega) (λsX=> ?_) ?_))
    ·subst sX;try simp only[seval,z1,NH,Mh,RF]
     first|refine⟨by decide,by omega,?_⟩|refine⟨by omega,?_⟩
     refine ak ?_;simp only[seval,FT];refine sN _ ⟨eR,trivial,?_⟩;rw[dg];refine MP [.tail 1 1 3] (qv rfl rfl) ?_ (RE hH _ _ _) ?_ (by simp[XG])
     ·(try simp only[seval]);exact⟨⟨_,rfl,have h:=adg (l:=(o++nQ n [] j).map bk) (show Wk (.sl 1 [iv (((iR []:Nat):Int)+j)] (.opn (H.length+1))) (bk ([]++[((iR []:Nat):Int)+j])) by exact iX _ _ _);Nq h.len h.at⟩,_,rfl,Wk.refl _⟩
     ·rw[<- dg];simp only[Xi,eG,aaD,iv];simp
    ·(try simp only[seval,z1,NH,Mh,RF]);refine⟨by omega,by omega,?_⟩;refine ak ?_;simp only[seval,FT];refine sN _ ⟨eR,trivial,?_⟩;rw[dg];refine MP [.tail (l.length+1) 1 3] (qv rfl rfl) ?_ (RE hH _ _ _) ?_ (by simp[XG])
     ·(try simp only[seval]);exact⟨⟨_,rfl,have h:=adg (l:=(o++nQ n l j).map bk) (show Wk (.sl (l.length+1) (l.map iv++[iv (((iR l:Nat):Int)+j)]) (.opn (H.length+1))) (bk (l++[((iR l:Nat):Int)+j])) by rw[bk,TF,SQ];exact iX _ _ _);Nq h.len h.at⟩,_,rfl,Wk.refl _⟩
     ·rw[<- dg];simp only[Xi,eG,aaD,iv];simp
   ·have xH:j=n-iR l:=(by omega);subst xH;refine bU ?_;refine ak ?_;simp only[seval,bZ];refine hR _ ⟨bG,trivial,?_⟩;rw[R8];have B6:(o++nQ n l (n-iR l)).length=o.length+(n-iR l):=(by simp[nQ]);rw[B6];exact dE)
 ·have sW:i=2^n:=by
   rcases YG i (2^n)with h'|h'
   ·have:=(lg i h').1;omega
   ·omega
  subst sW;refine bU ?_;refine ai ?_;refine aZ ?_;exact iJ (b:=yG (wm n)) hH (iX _ _ _) (by rw[aaF];trivial) hk
end
open Go.Conc Go.Proofs Go.Gg.Tk
theorem PQ{α:Type}{f:α->List AV}{s:Nat}(hf:∀a,(f a).length=s):∀(xs:List α)(n:Nat),(xs.flatMap f).take (n* s)=(xs.take n).flatMap f
 |[],n=>by simp
 |x::xs,0=>by simp
 |x::xs,n+1=>by
  rw[Uo,VQ,Uo,List.take_append,SY (by rw[hf,XF];omega),hf,show (n+1)* s-s=n* s by rw[XF];omega,PQ hf xs n]
theorem PN{α:Type}{f:α->List AV}{s:Nat}(hf:∀a,(f a).length=s):∀(xs:List α)(n:Nat),(xs.flatMap f).drop (n* s)=(xs.drop n).flatMap f
 |[],n=>by simp
 |x::xs,0=>by simp
 |x::xs,n+1=>by
  rw[Uo,List.drop_succ_cons,Vv,WY (by rw[hf,XF];omega),hf,show (n+1)* s-s=n* s by rw[XF];omega,PN hf xs n,Uw]
namespace Tk
def ue (ss:List aH)(ns:List Int):List aH:=ns.foldr (λn l=>l.eraseIdx n.toNat) ss
def aj.wo (x:aj)(ns:List Int):aj:={x with aB:=ue x.aB ns}
def tM (ns:List Int)(m:Nat):Prop:=∀(i:Nat) n,ns[i]?=some n->0<=n/\n+(ns.length-i:Nat)<=m
theorem tM.tail{n:Int}{ns:List Int}{m:Nat}(h:tM (n::ns) m):tM ns m:=λi k hk=>by
 have:=h (i+1) k hk;simp only[Uh]at this;exact⟨this.1,by omega⟩
theorem IH{ss:List aH}:∀{ns:List Int},tM ns ss.length->(ue ss ns).length+ns.length=ss.length
 |[],_=>rfl
 |n::ns,h=>by
  have h1:=IH h.tail;have h2:=h 0 n rfl;have e:ue ss (n::ns)=(ue ss ns).eraseIdx n.toNat:=rfl;simp only[Uh]at h2⊢;rw[e,X9 (by omega)];omega
end Tk
section
variable {lv:Bool}{H:List aa}{k kp:AV->List aa->Prop}
theorem PC{x:aj}{ns:List Int}{e:End}(aT:x.aB.length<=3)(jf:tM ns x.aB.length)(hk:k (x.wo ns).av H):bc lv SC 63 H [x.av,.sl ns.length (ns.map iv) e] k kp:=by
 have Kx:ns.length<=3:=by have:=IH jf;omega
 refine bH (rs:=[.cell 4 76]) (nt:=32) Tryz.f63 λhH hA=> ?_;simp only[br,SX,aj.av];obtain⟨st,lQ⟩:∃st:Nat->List aH,∀j,st j=ue x.aB (ns.drop (ns.length-j)):=⟨_,λ_=>rfl⟩;have lr:st 0=x.aB:=by rw[lQ,Z0,ZH];rfl
 have ak7:st ns.length=ue x.aB ns:=by rw[lQ,U6,XA]
 obtain⟨xl,bf⟩:∃xl:List aH->List AV,∀ss,xl ss=[iv x.first,iv x.hours,iv x.an,ek x.seen,bi x.pieces,bi ss]:=⟨_,λ_=>rfl⟩;have th:x.l=xl x.aB:=by rw[bf];rfl
 have uq:∀ss,(xl ss).drop 5=[.sl ss.length (ss.flatMap aH.l) .shut]:=λss=>by rw[bf];rfl
 have aS:∀(L:List aa),(H++L)[H.length]?=L[0]?:=λL=>aW H L 0;have dM:∀(L:List aa)(y:aa),(H++L).set H.length y=H++L.set 0 y:=λL y=>ez H L 0 y;have de:∀(L:List aa),(H++L)[H.length+1]?=L[1]?:=λL=>aW H L 1;have dD:∀(L:List aa)(y:aa),(H++L).set (H.length+1) y=H++L.set 1 y:=λL y=>ez H L 1 y;rw[th];refine ai ?_;have rM:SF.wrap ((ns.length:Int)-1)=(ns.length:Int)-1:=bI _ (by omega);refine ai ?_;refine cJ ?_;refine gP ns.length (λj:Nat=>[(5,iv ((ns.length:Int)-1-j))]) (λj=>H++[.cells (xl (st j)) 26,.cells qG 76]) (λi=>True) (λ_ _=>rfl) (by simp only[seval,rM];simp[bA,Wk.refl]) (by rw[lr];rfl) (λ_ _ _=>by simp) trivial (λcp dz j o_ _ R hR=> ?_);clear dz;refine ai ?_;refine aD ?_;refine⟨λh=> ?_,λh=> ?_⟩
 ·have eR:j<ns.length:=by omega
  obtain⟨i,hi⟩:∃i:Nat,i=ns.length-1-j:=⟨_,rfl⟩;have Q4:(ns.length:Int)-1-j=i:=by omega
  obtain⟨n,hn⟩:=cz (xs:=ns) (i:=i) (by omega);obtain⟨oC,uz⟩:=jf i n hn;obtain⟨n,rfl⟩:∃m:Nat,n=m:=⟨n.toNat,by omega⟩;have dg:st (j+1)=(st j).eraseIdx n:=by
   rw[lQ,lQ,show ns.length-(j+1)=i by omega,show ns.length-j=i+1 by omega];obtain⟨hlt,rfl'⟩:=SN.1 hn;rw[TW hlt,rfl'];rfl
  have dN:(st j).length+j=x.aB.length:=by
   have hd:tM (ns.drop (ns.length-j)) x.aB.length:=λq m hq=>by
    rw[Ul]at hq;have:=jf _ _ hq;rw[Uk];exact⟨this.1,by omega⟩
   have:=IH hd;rw[<- lQ,Uk]at this;omega
  have jX:n<(st j).length:=by omega
  generalize st j=ss at dg dN jX hR⊢;rw[Q4];refine aN ?_;refine ak ?_;simp only[seval,fN hn,jR (show i<ns.length by omega)];have bZ:SF.wrap ((n:Int)+1)=((n+1:Nat):Int):=by rw[bI _ (by omega)];rfl
  have me:∀l:List aH,(l.flatMap aH.l).length=l.length* 4:=λl=>by
   induction l with
   |nil=>rfl
   |cons a l ih=>rw[Uo,SQ,ih,aH.len,Uh];omega
  have lS:((n:Int)+1).toNat=n+1:=by omega
  have KB:((n:Int)+1==0)=false:=by simp;omega
  have lg:(ss.take n).length=n:=by rw[T_];omega
  have iO:(ss.drop (n+1)).length=ss.length-(n+1):=Uk;have hD1:∀l:List aH,(ss.length-(n+1))=l.length->l.take (ss.length-(n+1))=l:=λl h=>by rw[h,TP]
  have hD2:(ss.drop (n+1)).take (ss.length-(n+1))=ss.drop (n+1):=hD1 _ iO.symm;refine eO 10 ?_;simp only[seval,aS,uq,bZ,me,lS,PQ aH.len,PN aH.len,lg,iO,beq_self_eq_true,ac',Xr,KB,hD2,TP];refine⟨by omega,by omega,by omega,by omega,by omega,by rw[bf];simp,?_⟩;have BY:(ss.eraseIdx n).length=n+(ss.length-(n+1)):=by rw[X9 jX];omega
  have BZ:(ss.eraseIdx n).flatMap aH.l=(ss.take n).flatMap aH.l++(ss.drop (n+1)).flatMap aH.l:=by rw[List.eraseIdx_eq_take_drop_succ,Vs]
  rw[<- BZ,<- BY];have oZ:∀y y',((xl ss).take 5++[y]++(xl ss).drop 6).set 5 y'=((xl ss).take 5++[y']++(xl ss).drop 6):=λy y'=>by rw[bf];rfl
  have hcg:∀y,((xl ss).take 5++[y]++(xl ss).drop 6)[5]?=some y:=λy=>by rw[bf];rfl
  have hce:(xl ss).take 5++[bi (ss.eraseIdx n)]++(xl ss).drop 6=xl (ss.eraseIdx n):=by rw[bf,bf];rfl
  (repeat apply gQ);refine afd (id:=H.length) (j:=5) (y:=bi (ss.eraseIdx n)) (by simp only[seval,aS]<;>rfl) (hcg _) (iX _ _ _) ?_
  simp only[seval,dM,oZ,hce];have gY:SF.wrap ((i:Int)-1)=(ns.length:Int)-1-((j+1:Nat):Int):=by rw[bI _ (by omega)];omega
  refine ak ?_;simp only[seval,gY];refine hR _ ⟨eR,trivial,?_⟩;rw[dg];have sZ:bQ (H++[.cells (xl (ss.eraseIdx n)) 26,.cells qG 76]):=RB hH λz hz m=>by
   simp only[SL,S4,or_false]at hz;rcases hz with rfl|rfl
   ·rw[bf];exact aaE m {x with aB:=ss.eraseIdx n}
   ·intro a ha;simp only[qG,SL,S4,or_false]at ha;rcases ha with rfl|rfl|rfl|rfl|rfl|rfl<;>simp[eG,LY]
  rw[<- Q4];exact MP [.tail (ss.eraseIdx n).length 4 48] (qv rfl rfl) (by simp only[seval];simp[bA,Wk.refl]) sZ (by simp[eG]) (by rw[SD];rfl)
 ·have xH:j=ns.length:=by omega
  subst xH;refine bU ?_;have FX:(xl (st ns.length))=(x.wo ns).l:=by rw[bf,ak7];rfl
  rw[FX];have rM:(x.wo ns).l.length=6:=rfl;have uG:Un 6 (x.wo ns).l=(x.wo ns).l:=rfl;have oE:qG.length=6:=rfl;have Lc:UD 6 qG=[]:=rfl;refine ak ?_;simp only[seval,aS,dD,de,rM,uG,oE,Lc];refine⟨kx _,?_⟩;refine oU ?_;simp only[seval,de];rw[uG];exact iJ (b:=(x.wo ns).av) hH (Wk.refl _) (by rw[Gi];trivial) hk
end
open Go.Conc Go.Proofs Go.Gg.Tk
namespace Tk
def N4 (ns:List Int)(m:Nat):Bool:=(S0 ns.length).all λi=>decide (0<=ns.getD i 0/\ns.getD i 0+(ns.length-i:Nat)<=m)
theorem aeV{ns:List Int}{m:Nat}(h:N4 ns m=true):tM ns m:=λi n hn=>by
 have hi:=(SN.1 hn).1;have:=Tv.1 h i (TG.2 hi);rw[decide_eq_true_eq,SE,hn]at this;exact this
theorem aaw:∀n,n<4->(wm n).length=2^n/\∀l∈wm n,N4 l n=true:=by decide+kernel
theorem amn{n:Nat}(hn:n<4){l:List Int}(hl:l∈wm n):tM l n:=aeV ((aaw n hn).2 l hl)
theorem Pc{ss:List aH}:∀{ns:List Int}{y:aH},y∈ue ss ns->y∈ss
 |[],y,h=>h
 |n::ns,y,h=>Pc (ns:=ns) (List.mem_of_mem_eraseIdx h)
theorem Pb{ss:List aH}:∀{ns:List Int},(ue ss ns).length<=ss.length
 |[]=>SU _
 |n::ns=>by
  have h1:=Pb (ss:=ss) (ns:=ns);have h2:=List.length_eraseIdx_le (ue ss ns) n.toNat;exact UB h2 h1
theorem aj.Ok.wo{x:aj}(h:x.Ok)(ns:List Int):(x.wo ns).Ok:=⟨h.first,h.hours,h.an,h.Ai,h.cT,UB Pb h.fi,h.seen,λy hy=>⟨(h.piece y hy).1,(h.piece y hy).2⟩,λy hy=>have k:=h.stub y (Pc hy);⟨k.1,k.2⟩⟩
def Ev (x:aj):Option (List Int):=(wm x.aB.length).find? λl=>vD (x.wo l)
theorem PJ{α:Type}{p:α->Bool}:∀{l:List α}{i:Nat}{a:α},l[i]?=some a->p a=true->(∀j b,j<i->l[j]?=some b->p b=false)->l.find? p=some a
 |b::l,0,a,h,hp,_=>by cases h;rw[List.find?_cons_of_pos hp]
 |b::l,i+1,a,h,hp,h0=>by
  rw[List.find?_cons_of_neg (by rw[h0 0 b (by omega) rfl];simp)];exact PJ (i:=i) h hp λj c hj hc=>h0 (j+1) c (by omega) hc
theorem ais{α:Type}{p:α->Bool}{l:List α}(h:∀(j:Nat) b,l[j]?=some b->p b=false):l.find? p=none:=by
 rw[List.find?_eq_none];intro a ha;obtain⟨j,hj⟩:=VI ha;rw[h j a hj];simp
end Tk
section
variable {lv:Bool}{H:List aa}{k kp:AV->List aa->Prop}
theorem ahK{x:aj}(hx:x.Ok)(gV:∀l,Ev x=some l->k (.aJ [bk l,iv 0]) H)(ce:Ev x=none->k (.aJ [bk [],iv 11]) H):bc lv SC 32 H [x.av] k kp:=by
 refine bH (rs:=[.tmp 2,.tmp 3]) (nt:=27) Tryz.f32 λhH hA=> ?_;simp only[br,SX,aj.av];have aT:=hx.fi;have bO:x.l=[iv x.first,iv x.hours,iv x.an,ek x.seen,bi x.pieces,bi x.aB]:=rfl;have uq:UD 5 x.l=[.sl x.aB.length (x.aB.flatMap aH.l) .shut]:=rfl;have aS:∀(L:List aa),(H++L)[H.length]?=L[0]?:=λL=>aW H L 0;have bf:x.l.length=6:=rfl;have dZ:Un 6 x.l=x.l:=rfl;refine ai ?_;refine ak ?_;simp only[seval,aS,bf,dZ];refine aK ((Eo (x:=x) hx ?_));(try simp only[seval]);refine ak ?_;simp only[seval,show ((0:Int)!=0)=false from rfl];refine aD ?_;refine aN ?_;refine ak ?_;simp only[seval,aS,uq];refine aK ((ah0 (n:=x.aB.length) aT ?_));have je:=(aaw x.aB.length (by omega)).1;have eM:=λl hl=>amn (n:=x.aB.length) (by omega) (l:=l) hl;have v4:Ev x=(wm x.aB.length).find? λl=>vD (x.wo l):=rfl;generalize wm x.aB.length=ls at je eM v4⊢;have hp8:2^x.aB.length<=2^3:=ZO (by omega) aT;(try simp only[seval,yG]);refine cJ ?_;refine gP ls.length (λi:Nat=>[(17,iv i)]) (λi=>H++[.cells x.l 26]) (λi=>∀j b,j<i->ls[j]?=some b->vD (x.wo b)=false) (λ_ _=>rfl) (by simp only[seval];simp[bA,Wk.refl]) rfl (λ_ _ _=>by simp) (λj b hj=>by omega) (λcp dz i cW am R hR=> ?_);clear cp dz;refine ai ?_;refine aD ?_;refine⟨λh=> ?_,λh=> ?_⟩
 ·have bG:i<ls.length:=by omega
  obtain⟨l,hl⟩:=cz bG;have eP:=eM l (wn hl);have fU:SF.wrap ((i:Int)+1)=((i+1:Nat):Int):=by rw[bI _ (by omega)];rfl
  refine aN ?_;refine ak ?_;simp only[seval,acf hl,jR bG];refine ak ?_;simp only[seval,aS,bf,dZ];refine aK ((PC (x:=x) (ns:=l) aT eP ?_));(try simp only[seval]);refine aK ((ah1 (x:=x.wo l) (hx.wo l) ?_));(try simp only[seval]);refine aD ?_;refine⟨λhc=> ?_,λhc=> ?_⟩
  ·refine ai ?_;refine aZ ?_;exact iJ (b:=.aJ [bk l,iv 0]) hH (Dm (Wk.refl _) (Wk.refl _)) (by simp[iE,eG,zV]) (gV l (by rw[v4];exact PJ hl hc am))
  ·refine aN ?_;refine ak ?_;simp only[seval,fU];refine hR _ ⟨bG,λj b hj hb=> ?_,dE⟩;rcases YG j i with h'|h'
   ·exact am j b h' hb
   ·have:j=i:=(by omega);subst this;rw[hl]at hb;cases hb;simpa using hc
 ·have sW:i=ls.length:=by omega
  subst sW;refine bU ?_;refine ai ?_;refine aZ ?_;exact iJ (b:=.aJ [bk [],iv 11]) hH (Dm (iX _ _ _) (Wk.refl _)) (by simp[iE,eG,zV]) (ce (by rw[v4];exact ais λj b hb=>am j b (eX hb) hb))
end
open Go.Conc
def behind (j:Nat)(o:Tx):Tx:={o with after:=o.after.push {on:=j,ground:=.data}}
def od (ops:Array Tx)(i j:Nat):Array Tx:=ops.modify i (behind j)
theorem aeo(ops:Array Tx)(i j:Nat):(od ops i j).size=ops.size:=by simp[od]
theorem qS(ops:Array Tx)(i j k:Nat):(od ops i j)[k]?=if i=k then(ops[k]?).map (behind j)else ops[k]?:=by
 unfold od;rw[Wj]
theorem afu(j:Nat)(o:Tx):cK (behind j o)=cK o++[j]:=by
 unfold cK behind;simp only[Array.toList_push,List.filterMap_append];rfl
theorem abR{ops:Array Tx}{i j:Nat}{X l:List Nat}(h:lF ops X l):j∈X->lF (od ops i j) X l:=by
 induction h with
 |nil X h=>exactλ_=> .nil X λk hk=>h k (by rwa [aeo]at hk)
 |cons o ho hn hd kI ih=>
  rename_i X k l;intro hj;by_cases e:i=k
  ·exact .cons (behind j o) (by rw[qS,if_pos e,ho];rfl) hn (λq hq=>by
    rw[afu]at hq;rcases SV.1 hq with hq|hq
    ·exact hd q hq
    ·rw[Tb.1 hq];exact hj) (ih (Ta _ hj))
  ·exact .cons o (by rw[qS,if_neg e];exact ho) hn hd (ih (Ta _ hj))
theorem apz{ops:Array Tx}{i j:Nat}(kq:i≠j)(hi:i<ops.size){X l:List Nat}(h:lF ops X l):i∉X->j∉X->lF (od ops i j) X l\/lF (od ops j i) X l:=by
 induction h with
 |nil X h=>exactλh1 _=>absurd (h i hi) h1
 |cons o ho hn hd kI ih=>
  rename_i X k l;intro h1 h2;by_cases e:k=i
  ·subst e;exact .inr (.cons o (by rw[qS,if_neg (Ne.symm kq)];exact ho) hn hd (abR kI TC))
  ·by_cases e2:k=j
   ·subst e2;exact .inl (.cons o (by rw[qS,if_neg kq];exact ho) hn hd (abR kI TC))
   ·rcases ih (λhm=>(SL.1 hm).elim (λx=>e x.symm) h1) (λhm=>(SL.1 hm).elim (λx=>e2 x.symm) h2)with q|q
    ·exact .inl (.cons o (by rw[qS,if_neg (Ne.symm e)];exact ho) hn hd q)
    ·exact .inr (.cons o (by rw[qS,if_neg (Ne.symm e2)];exact ho) hn hd q)
section
variable {lv:Bool}{P:SK}{r:Option Nat}{ops:Array Tx}{nt:Nat}
theorem aep(i j:Nat)(tmps:Array SO):yielded (od ops i j) tmps=yielded ops tmps:=by
 funext k;unfold yielded;rw[qS];by_cases e:i=k
 ·rw[if_pos e];cases ops[k]?<;>rfl
 ·rw[if_neg e]
theorem NZ(i j:Nat)(Q:Ex->Act->View->Prop):∀l:List Nat,da lv P r (od ops i j) Q l=da lv P r ops Q l
 |[]=>rfl
 |k::l=>by
  funext a V;have ih:=NZ i j Q l;simp only[da];rw[qS,aep,ih];by_cases e:i=k
  ·rw[if_pos e];cases ho:ops[k]?with
   |none=>rfl
   |some o=>rfl
  ·rw[if_neg e]
theorem HX(i j:Nat)(Hf:List Nat->List aa)(K:AS->Prop)(t:AH K):∀(pl:List qO)(s:AS),gf lv P Hf (od ops i j) pl s K t=gf lv P Hf ops pl s K t
 |[],_=>rfl
 |⟨k,false,_,l⟩::rest,s=>by
  have ih:=HX i j Hf K t rest;simp only[gf,qS];have e:∀o,ap (some o) (λo=>AQ lv P s o λav=>BQ lv P Hf s.T o av l/\gf lv P Hf (od ops i j) rest (s.put o.dst av) K t)=ap (some o) (λo=>AQ lv P s o λav=>BQ lv P Hf s.T o av l/\gf lv P Hf ops rest (s.put o.dst av) K t):=λo=>by
   simp only[ap,ih]
  have bq:∀(o:Tx) av,BQ lv P Hf s.T (behind j o) av l=BQ lv P Hf s.T o av l:=λo av=>by
   induction l with
   |nil=>rfl
   |cons p l lz=>exact congrArg (λx=>_/\x) (lz λo=>by simp only[ap,ih])
  split
  ·cases ops[k]?with
   |none=>rfl
   |some o=>
    simp only[UN,ap,ih,bq];rfl
  ·cases ops[k]?with
   |none=>rfl
   |some o=>exact e o
 |⟨k,true,D,l⟩::rest,s=>by
  have ih:=HX i j Hf K t rest;simp only[gf,qS];have be:∀(o:Tx) av,BE lv P Hf s.T (behind j o) av l=BE lv P Hf s.T o av l:=λo av=>by
   induction l with
   |nil=>rfl
   |cons p l lz=>exact congrArg (λx=>_/\x) lz
  split
  ·cases ops[k]?with
   |none=>rfl
   |some o=>
    simp only[UN,ap,ih,be];rfl
  ·cases ops[k]?with
   |none=>rfl
   |some o=>simp only[ap,ih]
theorem agz{es ord:List Nat}(am:qY nt ops es ord=true)(t:Nat):lF ops [] (Us .any ops ops.size t (TE ops.size false) []):=by
 have am:=qY.out am;obtain⟨v9,_,hlt⟩:=Dd am.top;have ready:∀(ord X:List Nat),ky ops X ord=true->∀A i B,ord=A++i::B->∃o,ops[i]?=some o/\∀j∈cK o,j∈A\/j∈X:=by
  intro ord;induction ord with
  |nil=>intro X _ A i B e;cases A<;>cases e
  |cons x l ih=>
   intro X nN A i B e;simp only[ky,Ti,TV,Up,decide_eq_false_iff_not]at nN;obtain⟨⟨h1,h2⟩,h3⟩:=nN;cases A with
   |nil=>
    have e1:x=i:=(by have:=congrArg List.head? e;simpa using this);rw[e1]at h2;cases ho:ops[i]?with
    |none=>rw[ho]at h2;cases h2
    |some o=>
     rw[ho]at h2;exact⟨o,rfl,λj hj=> .inr (by have:=Tv.1 h2 j hj;simpa using this)⟩
   |cons y A=>
    cases e;obtain⟨o,ho,hb⟩:=ih (x::X) h3 A i B rfl;refine⟨o,ho,λj hj=> ?_⟩;rcases hb j hj with h|h
    ·exact .inl (Ta _ h)
    ·rcases SL.1 h with rfl|h
     ·exact .inl (TC ..)
     ·exact .inr h
 exact LS (ops:=ops) (λi o ho j hj=>by
   obtain⟨A,B,e⟩:=List.append_of_mem (am.full i (SS.1 ho).1);obtain⟨o',aO,hb⟩:=ready ord [] am.top A i B e;rw[ho]at aO;cases aO;rcases hb j hj with h|h
   ·exact hlt j (by rw[e];exact Th _ h)
   ·cases h)
  (λX ⟨i,hi,hn⟩=>by
   obtain⟨A,i',B,e,h1,h2⟩:=I8 (X:=X) ⟨i,am.full i hi,hn⟩;obtain⟨o',aO,hb⟩:=ready ord [] am.top A i' B e;refine⟨i',o',aO,h1,λj hj=> ?_⟩;rcases hb j hj with h|h
   ·exact h2 j h
   ·cases h)
  ops.size t (TE ops.size false) [] ⟨by simp,λi hi=>by simp[hi]⟩ (UB Xa (by simp))
end
inductive si (ops:Array Tx):Array Tx->Prop
 |base:si ops ops
 |add {o:Array Tx} (h:si ops o) (i j:Nat):si ops (od o i j)
section
variable {lv:Bool}{P:SK}{r:Option Nat}{ops o:Array Tx}{nt:Nat}{s:AS}{Φ:ao->AS->Prop}
theorem si.wp(h:si ops o)(Q:Ex->Act->View->Prop)(l:List Nat):da lv P r o Q l=da lv P r ops Q l:=by
 induction h with
 |base=>rfl
 |add _ i j ih=>rw[NZ,ih]
theorem si.OC(h:si ops o)(Hf:List Nat->List aa)(K:AS->Prop)(t:AH K)(pl:List qO)(s:AS):gf lv P Hf o pl s K t=gf lv P Hf ops pl s K t:=by
 induction h with
 |base=>rfl
 |add _ i j ih=>rw[HX,ih]
def DG (lv:Bool)(P:SK)(r:Option Nat)(nt:Nat)(ops o:Array Tx)(s:AS)(Φ:ao->AS->Prop):Prop:=
 ∀l E V a Q,lF o [] l->At E V s a nt->(∀ae e E' V' a' s',Kept E E' V V' a a'->At E' V' s' a' nt->pI E' ae e->Φ ae s'->Q e a' V')->da lv P r ops Q l a V
theorem qX(i j:Nat)(kq:(i !=j&&decide (i<o.size))=true)(h1:DG lv P r nt ops (od o i j) s Φ)(h2:DG lv P r nt ops (od o j i) s Φ):DG lv P r nt ops o s Φ:=λl E V a Q hs ah hQ=>by
 rw[Ti,bne_iff_ne,decide_eq_true_eq]at kq;rcases apz kq.1 kq.2 hs (by simp) (by simp)with hs|hs
 ·exact h1 l E V a Q hs ah hQ
 ·exact h2 l E V a Q hs ah hQ
theorem Ob{id:Nat}(es ord:List Nat)(hm:P.follows .mixedOrders=true)(am:qY nt ops es ord=true)(h:DG lv P r nt ops ops s Φ):aX lv P r nt (.region id ops true) s Φ:=by
 intro E V a Q ah hQ;refine Hp λt=> ?_;rw[show Vf (P.follows .mixedOrders) ops t=Us .any ops ops.size t (TE ops.size false) [] by unfold Vf;rw[hm];simp[XB]];exact h _ E V a Q (agz am t) ah hQ
end
def Gm (lv:Bool)(P:SK)(o:Tx)(s:AS)(next:AS->Prop):Prop:=match o.op with
 |.call c=>match c.callee with
  |.value x=>ap (s.ev x) λsC=>ap (fl s c.args.toList) λaG=>AA lv P sC s.H aG (λb H'=>next ((⟨s.T,H'⟩:AS).put o.dst b)) (λ_ _=>False) ⟨0⟩
  |_=>False
 |_=>False
def aaK (ops:Array Tx)(A B:List Nat)(m:Nat):Bool:=
 let cl:=gG ops (A++m::B) []
 A.all (λi=>(nu cl m).contains i)&&B.all λi=>(nu cl i).contains m
theorem si.get{ops o:Array Tx}(h:si ops o){m:Nat}{om:Tx}(hm:ops[m]?=some om):∃pC,o[m]?=some pC/\pC.op=om.op/\pC.dst=om.dst:=by
 induction h with
 |base=>exact⟨om,hm,rfl,rfl⟩
 |add _ i j ih=>
  obtain⟨q,h1,h2,h3⟩:=ih;rw[qS];split
  ·exact⟨behind j q,by rw[h1];rfl,h2,h3⟩
  ·exact⟨q,h1,h2,h3⟩
section
variable {lv:Bool}{P:SK}{r:Option Nat}{ops o:Array Tx}{Hf:List Nat->List aa}{T0:List (Nat×AV)}{es ord:List Nat}{nt:Nat}{s:AS}{Φ:ao->AS->Prop}
theorem Pa{f:Nat->AV}(am:yy nt ops ord)(G:List Nat)(au:∀i∈G,∀o,ops[i]?=some o->∀X',kT ops X'->i∉X'->(∀j∈cK o,j∈X')->OB lv P r ops Hf T0 es f i o X'){X l:List Nat}(hs:lF ops X l):
  (∀i∈X,i<ops.size)->kT ops X->∀(E:Env)(V:View)(a:Act)(Q:Ex->Act->View->Prop),At E V ⟨TX ops T0 f X,Hf (done es X)⟩ a nt->
   (∀E' V' a' X' l',Kept E E' V V' a a'->At E' V' ⟨TX ops T0 f X',Hf (done es X')⟩ a' nt->(∀i∈X',i<ops.size)->kT ops X'->(∀i∈X',i∈X\/i∈G)->(∀i∈X,i∈X')->lF ops X' l'->(∀i x6,l'=i::x6->i∉G)->da lv P r ops Q l' a' V')->da lv P r ops Q l a V:=by
 induction hs with
 |nil X h=>
  intro hX hc E V a Q ah hQ;exact hQ E V a X [] (Kept.refl E V a) ah hX hc (λi hi=> .inl hi) (λi hi=>hi) (.nil X h) (λi x6 e=>by cases e)
 |cons o ho hn hd kI ih=>
  rename_i X i l;intro hX hc E V a Q ah hQ;by_cases hG:i∈G
  ·have hi:i<ops.size:=(SS.1 ho).1;simp only[da,ho];have lK:∀k∈i::X,k<ops.size:=λk hk=>(SL.1 hk).elim (λe=>by rw[e];exact hi) (hX k);have ba:=hc.cons ho hd;have hw:Tc o (yielded ops a.tmps)=true:=(by unfold Tc;rw[am.za i o ho]);rw[if_pos hw];refine .inl ?_;have cR:∀d,o.dst=some d->d<a.tmps.size:=λd e=>(by rw[ah.size];exact am.dst i o d ho e);have lO:=au i hG o ho X hc hn hd;have lR:∀{jO:List Nat},(∀j∈jO,j∈i::X\/j∈G)->∀j∈jO,j∈X\/j∈G:=λh j hj=>by
    rcases h j hj with h|h
    ·rcases SL.1 h with rfl|h
     ·exact .inr hG
     ·exact .inl h
    ·exact .inr h
   unfold OB at lO;by_cases cS:i∈es
   ·rw[if_pos cS]at lO;have aT:=lO.step (r:=r) (bad:=λ_ _=>False);refine aT E V a _ Q ah.bm ah.tok cR (.inr (am.sG i o ho)) (λE' V' a' s' hk cE ht e=> ?_) λ_ _ _ _ _ _ _ _ _ h=>h.elim;subst e;rw[wU ho rfl]at ht cE;exact ih lK ba E' V' a' Q ⟨cE,ht,hk.size.trans ah.size⟩ λbE aP bT jO x6 aE cQ w1 w2 w3 w4=>hQ bE aP bT jO x6 (hk.trans aE) cQ w1 w2 (lR w3) (λj hj=>w4 j (Ta _ hj))
   ·rw[if_neg cS]at lO;obtain⟨T,hT,hq⟩:=lO;refine hq E V a _ Q ah.bm (λt av e=>ah.tok t av (hT t av e)) (.inr (am.sG i o ho)) λE' V' v hle bY eQ cE hv=> ?_;have ht:cj E' ((⟨TX ops T0 f X,Hf (done es X)⟩:AS).put o.dst (f i)).T (a.put o.dst v).tmps:=cj.gZ (s:=⟨TX ops T0 f X,Hf (done es X)⟩) (ah.tok.mono hle) cR hv;rw[wU ho rfl]at ht;refine ih lK ba E' V' (a.put o.dst v) Q ⟨by rw[IF cS];exact cE,ht,(dP _ _ _).trans ah.size⟩ λbE aP bT jO x6 hk cQ w1 w2 w3 w4=>
     hQ bE aP bT jO x6 ⟨hle.trans hk.le,hk.size.trans (dP _ _ _),hk.defers.trans (put_defers _ _ _),hk.role.trans bY,hk.deaf.trans eQ⟩ cQ w1 w2 (lR w3) (λj hj=>w4 j (Ta _ hj))
  ·exact hQ E V a X (i::l) (Kept.refl E V a) ah hX hc (λi hi=> .inl hi) (λi hi=>hi) (.cons o ho hn hd kI) (λj x6 e=>by cases e;exact hG)
theorem acW{ops:Array Tx}:∀{A L X:List Nat},ky ops X (A++L)=true->ky ops X A=true/\ky ops (A.reverse++X) L=true
 |[],L,X,h=>⟨rfl,h⟩
 |i::A,L,X,h=>by
  rw[VE,ky,Ti]at h;obtain⟨h1,h2⟩:=acW h.2;refine⟨by rw[ky,Ti];exact⟨h.1,h1⟩,?_⟩;rw[Zg,SD];exact h2
theorem acX{ops:Array Tx}:∀{A X:List Nat},ky ops X A=true->kT ops X->kT ops (A.reverse++X)
 |[],X,h,hX=>hX
 |i::A,X,h,hX=>by
  have nN:=h;simp only[ky,Ti,TV,Up,decide_eq_false_iff_not]at nN;obtain⟨⟨hi,h2⟩,h3⟩:=nN;cases ho:ops[i]?with
  |none=>rw[ho]at h2;cases h2
  |some o=>
   rw[ho]at h2;have hd:∀j∈cK o,j∈X:=λj hj=>(by have:=Tv.1 h2 j hj;simpa using this);have:=acX h3 (hX.cons ho hd);rw[Zg,SD];exact this
def AK (lv:Bool)(P:SK)(ops:Array Tx)(m:Nat)(GO:List qO)(Φ:ao->AS->Prop)(s1:AS):Prop:=ap (ops[m]?) λom=>Gm lv P om s1 λs2=>∃nX:List Nat->List aa,s2.H=nX []/\gf lv P nX ops GO s2 (Φ .normal) ⟨0⟩
theorem pU(ha:si ops o)(m:Nat)(A B oW nm:List Nat)(pl1 GO:List qO)(oN:List Nat->List aa)(am:qY nt o [] (A++m::B)=true)(EY:aaK o A B m=true)(akC:qz (gG o (A++m::B) []) oW [] A=pl1)(akD:qz (gG o (A++m::B) []) nm (m::A.reverse) B=GO)(ajY:nm.all B.contains=true)(h0:s.H=oN [])
  (h:gf lv P oN ops pl1 s (AK lv P ops m GO Φ) ⟨0⟩):DG lv P r nt ops o s Φ:=λl E V a Q hs ah hQ=>by
 subst akC akD;rw[<- ha.wp];rw[<- ha.OC]at h;have am:=qY.out am;obtain⟨v9,_,hlt⟩:=Dd am.top;obtain⟨tA,tB⟩:=acW am.top;rw[SZ]at tB;have tB':ky o (m::A.reverse) B=true:=by
  rw[ky,Ti]at tB;exact tB.2
 unfold aaK at EY;dsimp only at EY;rw[Ti,Tv,Tv]at EY;obtain⟨cA,cB⟩:=EY;have Rn:m∉A:=λhm=>(U8.1 v9).2.2 m hm m (by simp) rfl;have xI:m∉B:=(VS.1 (U8.1 v9).2.1).1;have Qe:∀i∈B,i∉A:=λi hi hA=>(U8.1 v9).2.2 i hA i (by simp[hi]) rfl;have dM:s=⟨TX o s.T (λ_=> .val undef) [],oN (done oW [])⟩:=by
  have:done oW []=[]:=by simp[done]
  rw[this,<- h0];rfl
 have h':gf lv P oN o (qz (gG o (A++m::B) []) oW [] A) ⟨TX o s.T (λ_=> .val undef) [],oN (done oW [])⟩ (AK lv P ops m (qz (gG o (A++m::B) []) nm (m::A.reverse) B) Φ) ⟨0⟩:=by rw[<- dM];exact h
 obtain⟨f,_,q2,q3⟩:=Bb (r:=r) am A [] _ tA (λi hi=>by cases hi) h';have sP:At E V ⟨TX o s.T f [],oN (done oW [])⟩ a nt:=by
  have e:(⟨TX o s.T f [],oN (done oW [])⟩:AS)=s:=dM.symm;rw[e];exact ah
 refine Pa (Hf:=oN) (es:=oW) am A q2 hs (by simp) (λi hi=>by cases hi) E V a Q sP λE1 V1 a1 X1 l1 gV vP hX1 dt KU _ dD FJ=> ?_;have Ro:m∉X1:=λhm=>by
  rcases KU m hm with h|h
  ·cases h
  ·exact Rn h
 cases dD with
 |nil _ dX=>exact absurd (dX m (hlt m (by simp))) Ro
 |@cons _ i l2 pC ho hn hd kI=>
  have hi:i<o.size:=(SS.1 ho).1;have hiA:i∉A:=FJ i l2 rfl;have lM:i=m:=by
   rcases SV.1 (am.full i hi)with h|h
   ·exact absurd h hiA
   ·rcases SL.1 h with h|h
    ·exact h
    ·have:=cB i h;have hr:m∈nu (gG o (A++m::B) []) i:=(by simpa using this);exact absurd (yg dt (yR hr) λo' aO k hk=>by rw[ho]at aO;cases aO;exact hd k hk) Ro
  subst lM;have Qf:∀j∈A,j∈X1:=λj hj=>by
   have:=cA j hj;have hr:j∈nu (gG o (A++i::B) []) i:=(by simpa using this);exact yg dt (yR hr) λo' aO k hk=>by rw[ho]at aO;cases aO;exact hd k hk
  have Kv:∀j,j∈X1<->j∈A.reverse++[]:=λj=>by
   rw[SZ,XN];exact⟨λh=>(KU j h).elim (λh=>by cases h) id,Qf j⟩
  have JH:At E1 V1 ⟨TX o s.T f (A.reverse++[]),oN (done oW (A.reverse++[]))⟩ a1 nt:=by
   refine⟨?_,λt x e=> ?_,vP.size⟩
   ·rw[<- Ek Kv];exact vP.bm
   ·rw[<- DR am Kv]at e;exact vP.tok t x e
  simp only[da,ho];have hw:Tc pC (yielded o a1.tmps)=true:=by unfold Tc;rw[am.za i pC ho]
  rw[if_pos hw];refine .inl ?_;have cR:∀d,pC.dst=some d->d<a1.tmps.size:=λd e=>by rw[vP.size];exact am.dst i pC d ho e
  unfold AK at q3;obtain⟨om,hom,q3⟩:=q3.out;obtain⟨om2,g1,g2,g3⟩:=ha.get hom;rw[ho]at g1;cases g1;unfold Gm at q3;obtain⟨c,x,ajF,aju,q4⟩:∃c x,om.op=.call c/\c.callee=.value x/\ap ((⟨TX o s.T f (A.reverse++[]),oN (done oW (A.reverse++[]))⟩:AS).ev x) λsC=>ap (fl ⟨TX o s.T f (A.reverse++[]),oN (done oW (A.reverse++[]))⟩ c.args.toList) λaG=>AA lv P sC (oN (done oW (A.reverse++[]))) aG (λb H'=>∃nX:List Nat->List aa,((⟨TX o s.T f (A.reverse++[]),H'⟩:AS).put om.dst b).H=nX []/\gf lv P nX ops (qz (gG o (A++i::B) []) nm (i::A.reverse) B) ((⟨TX o s.T f (A.reverse++[]),H'⟩:AS).put om.dst b) (Φ .normal) ⟨0⟩) (λ_ _=>False) ⟨0⟩:=by
   split at q3
   ·rename_i c hc;split at q3
    ·rename_i x hx;exact⟨c,x,hc,hx,q3⟩
    ·exact q3.elim
   ·exact q3.elim
  obtain⟨sC,e1,q5⟩:=q4.out;obtain⟨aG,e2,q6⟩:=q5.out;have lw:=M5 (lv:=lv) (P:=P) (r:=r) (o:=pC) (s:=⟨TX o s.T f (A.reverse++[]),oN (done oW (A.reverse++[]))⟩) (next:=λs2=>∃av H' nX,s2=(⟨TX o s.T f (A.reverse++[]),H'⟩:AS).put pC.dst av/\H'=nX []/\gf lv P nX ops (qz (gG o (A++i::B) []) nm (i::A.reverse) B) s2 (Φ .normal) ⟨0⟩) (bad:=λ_ _=>False) (g2.trans ajF) aju e1 e2 (iY.mono q6 (λav H'=>by
    rintro⟨nX,w1,w2⟩
    rw[<- g3]at w1 w2;refine⟨av,H',nX,rfl,?_,w2⟩;rw[<- w1];cases pC.dst<;>rfl) (λ_ _ h=>h))
  refine lw E1 V1 a1 _ Q JH.bm JH.tok cR (.inr (am.sG i pC ho)) (λE2 V2 a2 s2 ce cE FL e=> ?_) λ_ _ _ _ _ _ _ _ _ h=>h.elim;obtain⟨av,H',nX,rfl,hH',hb⟩:=e;obtain⟨f',QX⟩:∃f':Nat->AV,f'=λj=>if j=i then av else f j:=⟨_,rfl⟩;have hff:∀j∈A.reverse++[],f j=f' j:=λj hj=>by
   have:j≠i:=λe=>Rn (by subst e;simpa using hj);rw[QX];simp[this]
  have hp:(⟨TX o s.T f (A.reverse++[]),H'⟩:AS).put pC.dst av=⟨TX o s.T f' (i::A.reverse),nX (done nm (i::A.reverse))⟩:=by
   have o4:done nm (i::A.reverse)=[]:=by
    unfold done;rw[YB];intro j hj;have:=Tv.1 ajY j hj;have Fl:j∈B:=(by simpa using this);have h1:j≠i:=λe=>xI (e▸Fl);have h2:=Qe j Fl;simp[h1,h2]
   rw[AT hff,wU ho (by rw[QX];simp),o4,hH',SZ]
  rw[hp]at hb cE FL;rw[<- ha.OC]at hb;have ajA:kT o (i::A.reverse):=by
   have h1:=acX tA (X:=[]) (λi hi=>by cases hi);rw[SZ]at h1;exact h1.cons ho λj hj=>by
    have:=KU j (hd j hj);simpa using this
  obtain⟨f2,p1,p2,p3⟩:=Bb (r:=r) am B (i::A.reverse) f' tB' ajA hb;have Rq:∀j,j∈i::X1<->j∈i::A.reverse:=λj=>by
   have:=Kv j;rw[SZ]at this;rw[SL,SL,this]
  have un:At E2 V2 ⟨TX o s.T f2 (i::X1),nX (done nm (i::X1))⟩ a2 nt:=by
   refine⟨?_,λt x e=> ?_,ce.size.trans JH.size⟩
   ·rw[Ek Rq];exact cE
   ·rw[DR am Rq,AT p1]at e;exact FL t x e
  refine Pa (Hf:=nX) (es:=nm) am B p2 kI (λk hk=>(SL.1 hk).elim (λe=>by rw[e];exact hi) (hX1 k)) (dt.cons ho hd) E2 V2 a2 Q un λE3 V3 a3 X3 l3 v7 ov hX3 dS as7 Rw po ak6=> ?_;cases po with
  |cons o3 KC Kx zp as5=>
   rename_i j l4;exfalso;have hj:j<o.size:=(SS.1 KC).1;have Fl:=ak6 j l4 rfl;rcases SV.1 (am.full j hj)with h|h
   ·exact Kx (Rw j (Ta _ (Qf j h)))
   ·rcases SL.1 h with rfl|h
    ·exact Kx (Rw j (TC ..))
    ·exact Fl h
  |nil _ dX=>
   have Rr:∀j,j∈X3<->j∈B.reverse++i::A.reverse:=λj=>by
    rw[SV,SL,XN,XN];constructor
    ·intro h;have:=SV.1 (am.full j (hX3 j h));rw[SL]at this;rcases this with h|h|h
     ·exact .inr (.inr h)
     ·exact .inr (.inl h)
     ·exact .inl h
    ·intro h;refine dX j (hlt j ?_);rw[SV,SL];rcases h with h|h|h
     ·exact .inr (.inr h)
     ·exact .inr (.inl h)
     ·exact .inl h
   refine hQ .normal .normal E3 V3 a3 _ ((gV.trans ce).trans v7) ⟨?_,λt x e=> ?_,ov.size⟩ trivial p3
   ·rw[<- Ek Rr];exact ov.bm
   ·rw[<- DR am Rr]at e;exact ov.tok t x e
end
theorem amR:type_of% @Gm.eq_1:=by intros;rw[Gm.eq_1]
theorem amS:type_of% @AK.eq_1:=by intros;rw[AK.eq_1]
attribute [seval] amR amS
open Go.Proofs Go.Gg.Tk
theorem abt{x:aj}{q:Nat}(hq:q<x.pieces.length):uT x [(q:Int)]=true:=by
 unfold uT;simp;omega
theorem O8{lv:Bool}{P:SK}{r:Option Nat}{nt:Nat}{ops:Array Tx}{s:AS}{Φ:ao->AS->Prop}{α:Type}{ok:α->Prop}(st:α->AS)(rest:∀x,ok x->Φ .normal (st x))(h:(∀x,ok x->Φ .normal (st x))->DG lv P r nt ops ops s Φ):DG lv P r nt ops ops s Φ:=h rest
theorem qE{T V:List (Nat×AV)}{H H':List aa}(hH:H=H')(hv:∀p∈V,∃b,look T p.1=some b/\Wk b p.2):(⟨T,H⟩:AS).Sub ⟨V,H'⟩:=
 ⟨λt a e=>hv (t,a) (qx e),hH⟩
def opsOf:T7->Array Tx
 |.region _ o _=>o
 |.seq a _=>opsOf a
 |_=>#[]
structure Bk (H:List aa)(M:List AV->List AV->List aa)(L:List aa)(B:List AV->List AV->List aa)(N:Nat):Prop where
 f:∀u v,B u v=H++(M u v++L)
 l:∀u v,(B u v).length=N
section
variable {H L:List aa}{M B:List AV->List AV->List aa}{N:Nat}
theorem Bk.n(h:Bk H M L B N)(u v:List AV)(L':List aa)(j:Nat):(B u v++L')[N+j]?=L'[j]?:=by rw[<- h.l u v,aW]
theorem Bk.s(h:Bk H M L B N)(u v:List AV)(L':List aa)(j:Nat)(y:aa):(B u v++L').set (N+j) y=B u v++L'.set j y:=by rw[<- h.l u v,ez]
theorem Bk.n0(h:Bk H M L B N)(u v:List AV)(L':List aa):(B u v++L')[N]?=L'[0]?:=h.n u v L' 0
theorem Bk.s0(h:Bk H M L B N)(u v:List AV)(L':List aa)(y:aa):(B u v++L').set N y=B u v++L'.set 0 y:=h.s u v L' 0 y
theorem Bk.n1(h:Bk H M L B N)(u v:List AV)(L':List aa):(B u v++L')[N+1]?=L'[1]?:=h.n u v L' 1
theorem Bk.s1(h:Bk H M L B N)(u v:List AV)(L':List aa)(y:aa):(B u v++L').set (N+1) y=B u v++L'.set 1 y:=h.s u v L' 1 y
theorem Bk.g(h:Bk H M L B N){j:Nat}{u v:List AV}(hl:j<(M u v).length){a y:aa}{u' v':List AV}(ha:(M u v)[j]?=some a)(hy:(M u v).set j y=M u' v')(L':List aa):(B u v++L')[H.length+j]?=some a/\(B u v++L').set (H.length+j) y=B u' v'++L':=by
 rw[h.f,h.f,SD,SD,SD,SD,aW,ez,SW hl,Wz _ _ hl,hy];exact⟨ha,rfl⟩
theorem Bk.gu(h:Bk H M L B N)(j:Nat)(hl:∀u v,j<(M u v).length)(ha:∀u v,(M u v)[j]?=some (.cells u 76))(hy:∀u v w,(M u v).set j (.cells w 76)=M w v):(∀u v L',(B u v++L')[H.length+j]?=some (.cells u 76))/\(∀u v w L',(B u v++L').set (H.length+j) (.cells w 76)=B w v++L')/\(∀u v,(B u v)[H.length+j]?=some (.cells u 76))/\∀u v w,(B u v).set (H.length+j) (.cells w 76)=B w v:=by
 have k1:=λu v w L'=>h.g (hl u v) (ha u v) (hy u v w) L';have k2:=λu v w=>k1 u v w [];simp only[SZ]at k2;exact⟨λu v L'=>(k1 u v u L').1,λu v w L'=>(k1 u v w L').2,λu v=>(k2 u v u).1,λu v w=>(k2 u v w).2⟩
theorem Bk.gv(h:Bk H M L B N)(j:Nat)(hl:∀u v,j<(M u v).length)(ha:∀u v,(M u v)[j]?=some (.cells v 88))(hy:∀u v w,(M u v).set j (.cells w 88)=M u w):(∀u v L',(B u v++L')[H.length+j]?=some (.cells v 88))/\(∀u v w L',(B u v++L').set (H.length+j) (.cells w 88)=B u w++L')/\(∀u v,(B u v)[H.length+j]?=some (.cells v 88))/\∀u v w,(B u v).set (H.length+j) (.cells w 88)=B u w:=by
 have k1:=λu v w L'=>h.g (hl u v) (ha u v) (hy u v w) L';have k2:=λu v w=>k1 u v w [];simp only[SZ]at k2;exact⟨λu v L'=>(k1 u v v L').1,λu v w L'=>(k1 u v w L').2,λu v=>(k2 u v v).1,λu v w=>(k2 u v w).2⟩
theorem pV{x:aj}{p q:Nat}{k kp:AV->List aa->Prop}(i j:Nat)(M:List AV->List AV->List aa)(u0 v0:List AV)(hx:x.Ok)(dY:x.an=p)(iB:uT x [(q:Int)]=true)(hm:H[0]?=some .main)(h1:(M u0 v0)[i]?=some (.cells [.sl 1 [iv q] .exact] 22))(h2:(M u0 v0)[j]?=some (.cells x.l 26))(hn:∀u v,(M u v).length=(M u0 v0).length)(hk:∀D L mp N B,eB x 1 D->bF D->(D.l mp).length=28->(∀a∈D.l mp,a.leaf=true)->Bk H M L B N->k (.aJ [x.av,.agg (D.l mp),iv (dQ D)]) (B u0 v0)):bc true SC 51 (H++M u0 v0) [x.av,iv 1,.fn (.func 80) [] [.op (H.length+i) 0,.op (H.length+j) 0]] k kp:=by
 refine xe (x:=x) (b:=uT x [(q:Int)]) hx dY (fF hm) (λL k kp hk=>cO (Er (x:=x) (ns:=[(q:Int)]) (e:=.exact) (il:=H.length+i) (ir:=H.length+j) hx (by simp) ?_ ?_ hk)) (λh=>by rw[iB]at h;cases h) λ_ js D L mp gU gT bS rB hg=> ?_
 ·rw[SD,aW];exact fF h1
 ·rw[SD,aW];exact fF h2
 ·have:=hk D L mp (H.length+(M u0 v0).length+L.length) (λu v=>H++(M u v++L)) ⟨p,js,dY,gU,gT,bS⟩ bS (Kn.len bS mp) (tr D mp) ⟨λ_ _=>rfl,λu v=>by rw[SQ,SQ,hn];omega⟩;rw[SD];exact this
end
theorem aaS{H:List aa}{x:aj}{q nt:Nat}{ops:Array Tx}{c:T7}{Ψ:ao->AS->Prop}(ho:nt=27/\ops=opsOf (cs (ZJ.body.getD .skip))\/nt=29/\ops=opsOf (cs (ZK.body.getD .skip)))(hx:x.Ok)(hq:q<x.pieces.length)(hm:H[0]?=some .main)(rest:∀y:Nat×Nat×Kn×List aa,eB x 1 y.2.2.1/\bF y.2.2.1/\(∃L,y.2.2.2=H++L)/\y.2.2.2[H.length]?=some (.cells x.l 26)/\y.2.2.2[y.1]?=some (.cells (y.2.2.1.l y.2.1) 88)->ao.then (λs'=>aX true SC none nt c s' Ψ) Ψ .normal ⟨[(7,.op y.1 0),(8,iv (dQ y.2.2.1)),(1,iv q),(2,.op H.length 0)],y.2.2.2⟩):DG true SC none nt ops ops ⟨[(5,iv 0),(4,.sl 0 [] .exact),(2,.op H.length 0),(0,.agg x.l),(1,iv q)],H++[.cells x.l 26]⟩ (ao.then (λs'=>aX true SC none nt c s' Ψ) Ψ):=by
 rcases ho with⟨rfl,rfl⟩|⟨rfl,rfl⟩
 all_goals
  dsimp only[ZK,ZJ,S8,cs,opsOf];have hp:=hx.an;have lq:=hx.cT;have iB:=abt hq;obtain⟨p,dY⟩:∃p:Nat,x.an=p:=⟨x.an.toNat,by omega⟩;have bO:x.l=[iv x.first,iv x.hours,iv x.an,ek x.seen,bi x.pieces,bi x.aB]:=rfl;have eF:∀(L:List aa)(j:Nat),(H++L)[H.length+j]?=L[j]?:=λL j=>aW H L j;have zI:∀(L:List aa)(j:Nat)(y:aa),(H++L).set (H.length+j) y=H++L.set j y:=λL j y=>ez H L j y;have aS:∀(L:List aa),(H++L)[H.length]?=L[0]?:=λL=>aW H L 0;have bf:x.l.length=6:=rfl;have nv:(1<=2^24)=True:=eq_true (by decide);have dZ:Un 6 x.l=x.l:=rfl;obtain⟨u0,hu⟩:∃u0:List AV,u0=[.val (.int .i64 0),.val (.int .i64 0),.val (.int .i64 0),.sl 0 [] .exact,.sl 0 [] .exact,.sl 0 [] .exact]:=⟨_,rfl⟩;obtain⟨v0,hv⟩:∃v0:List AV,v0=[.val (.bool false),.val (.map none),.val (.int .u16 0),.val (.int .u16 0),.val (.int .u16 0),.val (.int .u16 0),.val (.int .u16 0),.val (.int .u16 0),.val (.int .u16 0),.val (.int .u16 0),.val (.int .u16 0),.val (.int .u16 0),.val (.int .u16 0),.val (.int .u16 0),.val (.int .u16 0),.val (.int .u16 0),.val (.int .u16 0),.val (.int .i64 0),.val (.int .i64 0),.val (.int .i64 0),.val (.int .i64 0),.val (.int .i64 0),.val (.int .i64 0),.val (.int .i64 0),.val (.int .i64 0),.val (.int .i64 0),.val (.int .i64 0),.val (.int .i64 0)]:=⟨_,rfl⟩;have dG:=hu.symm;have cZ:=hv.symm;have iC:u0.length=6:=by rw[hu];rfl
  have iD:v0.length=28:=by rw[hv];rfl
  have jj:UD 6 u0=[]:=by rw[hu];rfl
  have fZ:UD 28 v0=[]:=by rw[hv];rfl
  refine qX 5 10 rfl ?_ ?_
  ·refine qX 5 11 rfl ?_ ?_
   ·refine qX 4 10 rfl ?_ ?_
    ·refine qX 4 11 rfl ?_ ?_
     ·refine qX 10 11 rfl ?_ ?_
      ·refine pU (.add (.add (.add (.add (.add .base 5 10) 5 11) 4 10) 4 11) 10 11) 5 [0,1,2,3,11,10,4] [6,7,8,9,12,13,14] [11,10,4] [12,13] [⟨0,false,[],[([11],[11]),([11,10],[11,10]),([11,10,4],[11,10,4])]⟩,⟨1,false,[],[([11],[11]),([11,10],[11,10])]⟩,⟨2,false,[],[([11],[11]),([11,10],[11,10])]⟩,⟨3,false,[],[([11],[11]),([11,10],[11,10])]⟩,⟨11,true,[11],[]⟩,⟨10,true,[11,10],[]⟩,⟨4,true,[11,10,4],[]⟩] [⟨6,false,[],[]⟩,⟨7,false,[],[]⟩,⟨8,false,[],[([12],[12])]⟩,⟨9,false,[],[([12],[12]),([12,13],[12,13])]⟩,⟨12,true,[12],[]⟩,⟨13,true,[12,13],[]⟩,⟨14,false,[12,13],[]⟩] (λD=>bif isDone 4 D then H++[.cells x.l 26,.cells v0 88,.cells u0 76,.cells x.l 26,.cells [.sl 1 [iv q] .exact] 22]else bif isDone 10 D then H++[.cells x.l 26,.cells v0 88,.cells u0 76]else bif isDone 11 D then H++[.cells x.l 26,.cells v0 88]else H++[.cells x.l 26]) (by kernel_rfl) (by kernel_rfl) (by kernel_rfl) (by kernel_rfl) (by kernel_rfl) (by first|rfl|simp only[seval]) ?_;(try simp only[seval,z1,dZ,nv,and_self,aS,dG,cZ,bf,SQ]);refine kY _ _ (cO (nq (x:=x) (ns:=[(q:Int)]) ⟨rfl,rfl⟩)) ?_;(try simp only[seval,aS,dG,cZ,bf,SQ,SD]);refine aK ((pV 4 3 (λu v=>[.cells x.l 26,.cells v 88,.cells u 76,.cells x.l 26,.cells [.sl 1 [iv q] .exact] 22]) u0 v0 hx dY iB hm rfl rfl (λ_ _=>rfl) λD L mp N Bf eD bS bR ep hB=> ?_));obtain⟨jz,jH,jA,jI⟩:=hB.gu 2 (λ_ _=>by simp) (λ_ _=>rfl) λ_ _ _=>rfl;obtain⟨jB,jJ,jC,jK⟩:=hB.gv 1 (λ_ _=>by simp) (λ_ _=>rfl) λ_ _ _=>rfl;refine⟨λDD=>bif isDone 13 DD then(Bf x.l (D.l mp))else bif isDone 12 DD then(Bf x.l v0)else Bf u0 v0,by first|rfl|simp only[seval],?_⟩;try simp only[seval,dG,cZ,hB.l,hB.n0,hB.s0,hB.n1,hB.s1,bf,bR,iC,iD,jj,fZ,aj.av,jz,jH,jA,jI,jB,jJ,jC,jK]
       first|refine⟨kx x,ep,?_⟩|trace_state
       have hR:=rest (H.length+1,mp,D,(Bf x.l (D.l mp))) ⟨eD,bS,⟨_,by rw[hB.f]⟩,by rw[hB.f];exact aW H _ 0,by simp only[seval,dG,cZ,hB.l,hB.n0,hB.s0,hB.n1,hB.s1,bf,bR,iC,iD,jj,fZ,aj.av,jz,jH,jA,jI,jB,jJ,jC,jK]⟩;exact mJ (qE rfl (by simp only[seval];simp[bA,Wk.refl])) hR
      ·refine pU (.add (.add (.add (.add (.add .base 5 10) 5 11) 4 10) 4 11) 11 10) 5 [0,1,2,3,10,11,4] [6,7,8,9,12,13,14] [10,11,4] [12,13] [⟨0,false,[],[([10],[10]),([10,11],[10,11]),([10,11,4],[10,11,4])]⟩,⟨1,false,[],[([10],[10]),([10,11],[10,11])]⟩,⟨2,false,[],[([10],[10]),([10,11],[10,11])]⟩,⟨3,false,[],[([10],[10]),([10,11],[10,11])]⟩,⟨10,true,[10],[]⟩,⟨11,true,[10,11],[]⟩,⟨4,true,[10,11,4],[]⟩] [⟨6,false,[],[]⟩,⟨7,false,[],[]⟩,⟨8,false,[],[([12],[12])]⟩,⟨9,false,[],[([12],[12]),([12,13],[12,13])]⟩,⟨12,true,[12],[]⟩,⟨13,true,[12,13],[]⟩,⟨14,false,[12,13],[]⟩] (λD=>bif isDone 4 D then H++[.cells x.l 26,.cells u0 76,.cells v0 88,.cells x.l 26,.cells [.sl 1 [iv q] .exact] 22]else bif isDone 11 D then H++[.cells x.l 26,.cells u0 76,.cells v0 88]else bif isDone 10 D then H++[.cells x.l 26,.cells u0 76]else H++[.cells x.l 26]) (by kernel_rfl) (by kernel_rfl) (by kernel_rfl) (by kernel_rfl) (by kernel_rfl) (by first|rfl|simp only[seval]) ?_;(try simp only[seval,z1,dZ,nv,and_self,aS,dG,cZ,bf,SQ]);refine kY _ _ (cO (nq (x:=x) (ns:=[(q:Int)]) ⟨rfl,rfl⟩)) ?_;(try simp only[seval,aS,dG,cZ,bf,SQ,SD]);refine aK ((pV 4 3 (λu v=>[.cells x.l 26,.cells u 76,.cells v 88,.cells x.l 26,.cells [.sl 1 [iv q] .exact] 22]) u0 v0 hx dY iB hm rfl rfl (λ_ _=>rfl) λD L mp N Bf eD bS bR ep hB=> ?_));obtain⟨jz,jH,jA,jI⟩:=hB.gu 1 (λ_ _=>by simp) (λ_ _=>rfl) λ_ _ _=>rfl;obtain⟨jB,jJ,jC,jK⟩:=hB.gv 2 (λ_ _=>by simp) (λ_ _=>rfl) λ_ _ _=>rfl;refine⟨λDD=>bif isDone 13 DD then(Bf x.l (D.l mp))else bif isDone 12 DD then(Bf x.l v0)else Bf u0 v0,by first|rfl|simp only[seval],?_⟩;try simp only[seval,dG,cZ,hB.l,hB.n0,hB.s0,hB.n1,hB.s1,bf,bR,iC,iD,jj,fZ,aj.av,jz,jH,jA,jI,jB,jJ,jC,jK]
       first|refine⟨kx x,ep,?_⟩|trace_state
       have hR:=rest (H.length+2,mp,D,(Bf x.l (D.l mp))) ⟨eD,bS,⟨_,by rw[hB.f]⟩,by rw[hB.f];exact aW H _ 0,by simp only[seval,dG,cZ,hB.l,hB.n0,hB.s0,hB.n1,hB.s1,bf,bR,iC,iD,jj,fZ,aj.av,jz,jH,jA,jI,jB,jJ,jC,jK]⟩;exact mJ (qE rfl (by simp only[seval];simp[bA,Wk.refl])) hR
     ·refine pU (.add (.add (.add (.add .base 5 10) 5 11) 4 10) 11 4) 5 [0,1,2,3,10,4,11] [6,7,8,9,12,13,14] [10,4,11] [12,13] [⟨0,false,[],[([10],[10]),([10,4],[10,4]),([10,4,11],[10,4,11])]⟩,⟨1,false,[],[([10],[10])]⟩,⟨2,false,[],[([10],[10])]⟩,⟨3,false,[],[([10],[10])]⟩,⟨10,true,[10],[]⟩,⟨4,true,[10,4],[]⟩,⟨11,true,[10,4,11],[]⟩] [⟨6,false,[],[]⟩,⟨7,false,[],[]⟩,⟨8,false,[],[([12],[12])]⟩,⟨9,false,[],[([12],[12]),([12,13],[12,13])]⟩,⟨12,true,[12],[]⟩,⟨13,true,[12,13],[]⟩,⟨14,false,[12,13],[]⟩] (λD=>bif isDone 11 D then H++[.cells x.l 26,.cells u0 76,.cells x.l 26,.cells [.sl 1 [iv q] .exact] 22,.cells v0 88]else bif isDone 4 D then H++[.cells x.l 26,.cells u0 76,.cells x.l 26,.cells [.sl 1 [iv q] .exact] 22]else bif isDone 10 D then H++[.cells x.l 26,.cells u0 76]else H++[.cells x.l 26]) (by kernel_rfl) (by kernel_rfl) (by kernel_rfl) (by kernel_rfl) (by kernel_rfl) (by first|rfl|simp only[seval]) ?_;(try simp only[seval,z1,dZ,nv,and_self,aS,dG,cZ,bf,SQ]);refine kY _ _ (cO (nq (x:=x) (ns:=[(q:Int)]) ⟨rfl,rfl⟩)) ?_;(try simp only[seval,aS,dG,cZ,bf,SQ,SD]);refine aK ((pV 3 2 (λu v=>[.cells x.l 26,.cells u 76,.cells x.l 26,.cells [.sl 1 [iv q] .exact] 22,.cells v 88]) u0 v0 hx dY iB hm rfl rfl (λ_ _=>rfl) λD L mp N Bf eD bS bR ep hB=> ?_));obtain⟨jz,jH,jA,jI⟩:=hB.gu 1 (λ_ _=>by simp) (λ_ _=>rfl) λ_ _ _=>rfl;obtain⟨jB,jJ,jC,jK⟩:=hB.gv 4 (λ_ _=>by simp) (λ_ _=>rfl) λ_ _ _=>rfl;refine⟨λDD=>bif isDone 13 DD then(Bf x.l (D.l mp))else bif isDone 12 DD then(Bf x.l v0)else Bf u0 v0,by first|rfl|simp only[seval],?_⟩;try simp only[seval,dG,cZ,hB.l,hB.n0,hB.s0,hB.n1,hB.s1,bf,bR,iC,iD,jj,fZ,aj.av,jz,jH,jA,jI,jB,jJ,jC,jK]
      first|refine⟨kx x,ep,?_⟩|trace_state
      have hR:=rest (H.length+4,mp,D,(Bf x.l (D.l mp))) ⟨eD,bS,⟨_,by rw[hB.f]⟩,by rw[hB.f];exact aW H _ 0,by simp only[seval,dG,cZ,hB.l,hB.n0,hB.s0,hB.n1,hB.s1,bf,bR,iC,iD,jj,fZ,aj.av,jz,jH,jA,jI,jB,jJ,jC,jK]⟩;exact mJ (qE rfl (by simp only[seval];simp[bA,Wk.refl])) hR
    ·refine qX 4 11 rfl ?_ ?_
     ·refine pU (.add (.add (.add (.add .base 5 10) 5 11) 10 4) 4 11) 5 [0,1,2,3,11,4,10] [6,7,8,9,12,13,14] [11,4,10] [12,13] [⟨0,false,[],[([11],[11]),([11,4],[11,4]),([11,4,10],[11,4,10])]⟩,⟨1,false,[],[([11],[11])]⟩,⟨2,false,[],[([11],[11])]⟩,⟨3,false,[],[([11],[11])]⟩,⟨11,true,[11],[]⟩,⟨4,true,[11,4],[]⟩,⟨10,true,[11,4,10],[]⟩] [⟨6,false,[],[]⟩,⟨7,false,[],[]⟩,⟨8,false,[],[([12],[12])]⟩,⟨9,false,[],[([12],[12]),([12,13],[12,13])]⟩,⟨12,true,[12],[]⟩,⟨13,true,[12,13],[]⟩,⟨14,false,[12,13],[]⟩] (λD=>bif isDone 10 D then H++[.cells x.l 26,.cells v0 88,.cells x.l 26,.cells [.sl 1 [iv q] .exact] 22,.cells u0 76]else bif isDone 4 D then H++[.cells x.l 26,.cells v0 88,.cells x.l 26,.cells [.sl 1 [iv q] .exact] 22]else bif isDone 11 D then H++[.cells x.l 26,.cells v0 88]else H++[.cells x.l 26]) (by kernel_rfl) (by kernel_rfl) (by kernel_rfl) (by kernel_rfl) (by kernel_rfl) (by first|rfl|simp only[seval]) ?_;(try simp only[seval,z1,dZ,nv,and_self,aS,dG,cZ,bf,SQ]);refine kY _ _ (cO (nq (x:=x) (ns:=[(q:Int)]) ⟨rfl,rfl⟩)) ?_;(try simp only[seval,aS,dG,cZ,bf,SQ,SD]);refine aK ((pV 3 2 (λu v=>[.cells x.l 26,.cells v 88,.cells x.l 26,.cells [.sl 1 [iv q] .exact] 22,.cells u 76]) u0 v0 hx dY iB hm rfl rfl (λ_ _=>rfl) λD L mp N Bf eD bS bR ep hB=> ?_));obtain⟨jz,jH,jA,jI⟩:=hB.gu 4 (λ_ _=>by simp) (λ_ _=>rfl) λ_ _ _=>rfl;obtain⟨jB,jJ,jC,jK⟩:=hB.gv 1 (λ_ _=>by simp) (λ_ _=>rfl) λ_ _ _=>rfl;refine⟨λDD=>bif isDone 13 DD then(Bf x.l (D.l mp))else bif isDone 12 DD then(Bf x.l v0)else Bf u0 v0,by first|rfl|simp only[seval],?_⟩;try simp only[seval,dG,cZ,hB.l,hB.n0,hB.s0,hB.n1,hB.s1,bf,bR,iC,iD,jj,fZ,aj.av,jz,jH,jA,jI,jB,jJ,jC,jK]
      first|refine⟨kx x,ep,?_⟩|trace_state
      have hR:=rest (H.length+1,mp,D,(Bf x.l (D.l mp))) ⟨eD,bS,⟨_,by rw[hB.f]⟩,by rw[hB.f];exact aW H _ 0,by simp only[seval,dG,cZ,hB.l,hB.n0,hB.s0,hB.n1,hB.s1,bf,bR,iC,iD,jj,fZ,aj.av,jz,jH,jA,jI,jB,jJ,jC,jK]⟩;exact mJ (qE rfl (by simp only[seval];simp[bA,Wk.refl])) hR
     ·refine qX 10 11 rfl ?_ ?_
      ·refine pU (.add (.add (.add (.add (.add .base 5 10) 5 11) 10 4) 11 4) 10 11) 5 [0,1,2,3,4,11,10] [6,7,8,9,12,13,14] [4,11,10] [12,13] [⟨0,false,[],[([4],[4]),([4,11],[4,11]),([4,11,10],[4,11,10])]⟩,⟨1,false,[],[]⟩,⟨2,false,[],[]⟩,⟨3,false,[],[]⟩,⟨4,true,[4],[]⟩,⟨11,true,[4,11],[]⟩,⟨10,true,[4,11,10],[]⟩] [⟨6,false,[],[]⟩,⟨7,false,[],[]⟩,⟨8,false,[],[([12],[12])]⟩,⟨9,false,[],[([12],[12]),([12,13],[12,13])]⟩,⟨12,true,[12],[]⟩,⟨13,true,[12,13],[]⟩,⟨14,false,[12,13],[]⟩] (λD=>bif isDone 10 D then H++[.cells x.l 26,.cells x.l 26,.cells [.sl 1 [iv q] .exact] 22,.cells v0 88,.cells u0 76]else bif isDone 11 D then H++[.cells x.l 26,.cells x.l 26,.cells [.sl 1 [iv q] .exact] 22,.cells v0 88]else bif isDone 4 D then H++[.cells x.l 26,.cells x.l 26,.cells [.sl 1 [iv q] .exact] 22]else H++[.cells x.l 26]) (by kernel_rfl) (by kernel_rfl) (by kernel_rfl) (by kernel_rfl) (by kernel_rfl) (by first|rfl|simp only[seval]) ?_;(try simp only[seval,z1,dZ,nv,and_self,aS,dG,cZ,bf,SQ]);refine kY _ _ (cO (nq (x:=x) (ns:=[(q:Int)]) ⟨rfl,rfl⟩)) ?_;(try simp only[seval,aS,dG,cZ,bf,SQ,SD]);refine aK ((pV 2 1 (λu v=>[.cells x.l 26,.cells x.l 26,.cells [.sl 1 [iv q] .exact] 22,.cells v 88,.cells u 76]) u0 v0 hx dY iB hm rfl rfl (λ_ _=>rfl) λD L mp N Bf eD bS bR ep hB=> ?_));obtain⟨jz,jH,jA,jI⟩:=hB.gu 4 (λ_ _=>by simp) (λ_ _=>rfl) λ_ _ _=>rfl;obtain⟨jB,jJ,jC,jK⟩:=hB.gv 3 (λ_ _=>by simp) (λ_ _=>rfl) λ_ _ _=>rfl;refine⟨λDD=>bif isDone 13 DD then(Bf x.l (D.l mp))else bif isDone 12 DD then(Bf x.l v0)else Bf u0 v0,by first|rfl|simp only[seval],?_⟩;try simp only[seval,dG,cZ,hB.l,hB.n0,hB.s0,hB.n1,hB.s1,bf,bR,iC,iD,jj,fZ,aj.av,jz,jH,jA,jI,jB,jJ,jC,jK]
       first|refine⟨kx x,ep,?_⟩|trace_state
       have hR:=rest (H.length+3,mp,D,(Bf x.l (D.l mp))) ⟨eD,bS,⟨_,by rw[hB.f]⟩,by rw[hB.f];exact aW H _ 0,by simp only[seval,dG,cZ,hB.l,hB.n0,hB.s0,hB.n1,hB.s1,bf,bR,iC,iD,jj,fZ,aj.av,jz,jH,jA,jI,jB,jJ,jC,jK]⟩;exact mJ (qE rfl (by simp only[seval];simp[bA,Wk.refl])) hR
      ·refine pU (.add (.add (.add (.add (.add .base 5 10) 5 11) 10 4) 11 4) 11 10) 5 [0,1,2,3,4,10,11] [6,7,8,9,12,13,14] [4,10,11] [12,13] [⟨0,false,[],[([4],[4]),([4,10],[4,10]),([4,10,11],[4,10,11])]⟩,⟨1,false,[],[]⟩,⟨2,false,[],[]⟩,⟨3,false,[],[]⟩,⟨4,true,[4],[]⟩,⟨10,true,[4,10],[]⟩,⟨11,true,[4,10,11],[]⟩] [⟨6,false,[],[]⟩,⟨7,false,[],[]⟩,⟨8,false,[],[([12],[12])]⟩,⟨9,false,[],[([12],[12]),([12,13],[12,13])]⟩,⟨12,true,[12],[]⟩,⟨13,true,[12,13],[]⟩,⟨14,false,[12,13],[]⟩] (λD=>bif isDone 11 D then H++[.cells x.l 26,.cells x.l 26,.cells [.sl 1 [iv q] .exact] 22,.cells u0 76,.cells v0 88]else bif isDone 10 D then H++[.cells x.l 26,.cells x.l 26,.cells [.sl 1 [iv q] .exact] 22,.cells u0 76]else bif isDone 4 D then H++[.cells x.l 26,.cells x.l 26,.cells [.sl 1 [iv q] .exact] 22]else H++[.cells x.l 26]) (by kernel_rfl) (by kernel_rfl) (by kernel_rfl) (by kernel_rfl) (by kernel_rfl) (by first|rfl|simp only[seval]) ?_;(try simp only[seval,z1,dZ,nv,and_self,aS,dG,cZ,bf,SQ]);refine kY _ _ (cO (nq (x:=x) (ns:=[(q:Int)]) ⟨rfl,rfl⟩)) ?_;(try simp only[seval,aS,dG,cZ,bf,SQ,SD]);refine aK ((pV 2 1 (λu v=>[.cells x.l 26,.cells x.l 26,.cells [.sl 1 [iv q] .exact] 22,.cells u 76,.cells v 88]) u0 v0 hx dY iB hm rfl rfl (λ_ _=>rfl) λD L mp N Bf eD bS bR ep hB=> ?_));obtain⟨jz,jH,jA,jI⟩:=hB.gu 3 (λ_ _=>by simp) (λ_ _=>rfl) λ_ _ _=>rfl;obtain⟨jB,jJ,jC,jK⟩:=hB.gv 4 (λ_ _=>by simp) (λ_ _=>rfl) λ_ _ _=>rfl;refine⟨λDD=>bif isDone 13 DD then(Bf x.l (D.l mp))else bif isDone 12 DD then(Bf x.l v0)else Bf u0 v0,by first|rfl|simp only[seval],?_⟩;try simp only[seval,dG,cZ,hB.l,hB.n0,hB.s0,hB.n1,hB.s1,bf,bR,iC,iD,jj,fZ,aj.av,jz,jH,jA,jI,jB,jJ,jC,jK]
       first|refine⟨kx x,ep,?_⟩|trace_state
       have hR:=rest (H.length+4,mp,D,(Bf x.l (D.l mp))) ⟨eD,bS,⟨_,by rw[hB.f]⟩,by rw[hB.f];exact aW H _ 0,by simp only[seval,dG,cZ,hB.l,hB.n0,hB.s0,hB.n1,hB.s1,bf,bR,iC,iD,jj,fZ,aj.av,jz,jH,jA,jI,jB,jJ,jC,jK]⟩;exact mJ (qE rfl (by simp only[seval];simp[bA,Wk.refl])) hR
   ·refine qX 4 10 rfl ?_ ?_
    ·refine pU (.add (.add (.add .base 5 10) 11 5) 4 10) 5 [0,1,2,3,10,4] [6,7,8,9,11,12,13,14] [10,4] [11,12,13] [⟨0,false,[],[([10],[10]),([10,4],[10,4])]⟩,⟨1,false,[],[([10],[10])]⟩,⟨2,false,[],[([10],[10])]⟩,⟨3,false,[],[([10],[10])]⟩,⟨10,true,[10],[]⟩,⟨4,true,[10,4],[]⟩] [⟨6,false,[],[([11],[11])]⟩,⟨7,false,[],[([11],[11])]⟩,⟨8,false,[],[([11],[11]),([11,12],[11,12])]⟩,⟨9,false,[],[([11],[11]),([11,12],[11,12]),([11,12,13],[11,12,13])]⟩,⟨11,true,[11],[]⟩,⟨12,true,[11,12],[]⟩,⟨13,true,[11,12,13],[]⟩,⟨14,false,[11,12,13],[]⟩] (λD=>bif isDone 4 D then H++[.cells x.l 26,.cells u0 76,.cells x.l 26,.cells [.sl 1 [iv q] .exact] 22]else bif isDone 10 D then H++[.cells x.l 26,.cells u0 76]else H++[.cells x.l 26]) (by kernel_rfl) (by kernel_rfl) (by kernel_rfl) (by kernel_rfl) (by kernel_rfl) (by first|rfl|simp only[seval]) ?_;(try simp only[seval,z1,dZ,nv,and_self,aS,dG,cZ,bf,SQ]);refine kY _ _ (cO (nq (x:=x) (ns:=[(q:Int)]) ⟨rfl,rfl⟩)) ?_;(try simp only[seval,aS,dG,cZ,bf,SQ,SD]);refine aK ((pV 3 2 (λu _=>[.cells x.l 26,.cells u 76,.cells x.l 26,.cells [.sl 1 [iv q] .exact] 22]) u0 v0 hx dY iB hm rfl rfl (λ_ _=>rfl) λD L mp N Bf eD bS bR ep hB=> ?_));obtain⟨jz,jH,jA,jI⟩:=hB.gu 1 (λ_ _=>by simp) (λ_ _=>rfl) λ_ _ _=>rfl;refine⟨λDD=>bif isDone 13 DD then(Bf x.l v0++[.cells (D.l mp) 88])else bif isDone 12 DD then(Bf x.l v0++[.cells v0 88])else bif isDone 11 DD then(Bf u0 v0++[.cells v0 88])else Bf u0 v0,by first|rfl|simp only[seval],?_⟩;try simp only[seval,dG,cZ,hB.l,hB.n0,hB.s0,hB.n1,hB.s1,bf,bR,iC,iD,jj,fZ,aj.av,jz,jH,jA,jI]
     first|refine⟨kx x,ep,?_⟩|trace_state
     have hR:=rest (N,mp,D,(Bf x.l v0++[.cells (D.l mp) 88])) ⟨eD,bS,⟨_,by rw[hB.f]<;>rw[SD]⟩,by rw[hB.f];rw[SD];exact aW H _ 0,by simp only[seval,dG,cZ,hB.l,hB.n0,hB.s0,hB.n1,hB.s1,bf,bR,iC,iD,jj,fZ,aj.av,jz,jH,jA,jI]⟩;exact mJ (qE rfl (by simp only[seval];simp[bA,Wk.refl])) hR
    ·refine pU (.add (.add (.add .base 5 10) 11 5) 10 4) 5 [0,1,2,3,4,10] [6,7,8,9,11,12,13,14] [4,10] [11,12,13] [⟨0,false,[],[([4],[4]),([4,10],[4,10])]⟩,⟨1,false,[],[]⟩,⟨2,false,[],[]⟩,⟨3,false,[],[]⟩,⟨4,true,[4],[]⟩,⟨10,true,[4,10],[]⟩] [⟨6,false,[],[([11],[11])]⟩,⟨7,false,[],[([11],[11])]⟩,⟨8,false,[],[([11],[11]),([11,12],[11,12])]⟩,⟨9,false,[],[([11],[11]),([11,12],[11,12]),([11,12,13],[11,12,13])]⟩,⟨11,true,[11],[]⟩,⟨12,true,[11,12],[]⟩,⟨13,true,[11,12,13],[]⟩,⟨14,false,[11,12,13],[]⟩] (λD=>bif isDone 10 D then H++[.cells x.l 26,.cells x.l 26,.cells [.sl 1 [iv q] .exact] 22,.cells u0 76]else bif isDone 4 D then H++[.cells x.l 26,.cells x.l 26,.cells [.sl 1 [iv q] .exact] 22]else H++[.cells x.l 26]) (by kernel_rfl) (by kernel_rfl) (by kernel_rfl) (by kernel_rfl) (by kernel_rfl) (by first|rfl|simp only[seval]) ?_;(try simp only[seval,z1,dZ,nv,and_self,aS,dG,cZ,bf,SQ]);refine kY _ _ (cO (nq (x:=x) (ns:=[(q:Int)]) ⟨rfl,rfl⟩)) ?_;(try simp only[seval,aS,dG,cZ,bf,SQ,SD]);refine aK ((pV 2 1 (λu _=>[.cells x.l 26,.cells x.l 26,.cells [.sl 1 [iv q] .exact] 22,.cells u 76]) u0 v0 hx dY iB hm rfl rfl (λ_ _=>rfl) λD L mp N Bf eD bS bR ep hB=> ?_));obtain⟨jz,jH,jA,jI⟩:=hB.gu 3 (λ_ _=>by simp) (λ_ _=>rfl) λ_ _ _=>rfl;refine⟨λDD=>bif isDone 13 DD then(Bf x.l v0++[.cells (D.l mp) 88])else bif isDone 12 DD then(Bf x.l v0++[.cells v0 88])else bif isDone 11 DD then(Bf u0 v0++[.cells v0 88])else Bf u0 v0,by first|rfl|simp only[seval],?_⟩;try simp only[seval,dG,cZ,hB.l,hB.n0,hB.s0,hB.n1,hB.s1,bf,bR,iC,iD,jj,fZ,aj.av,jz,jH,jA,jI]
     first|refine⟨kx x,ep,?_⟩|trace_state
     have hR:=rest (N,mp,D,(Bf x.l v0++[.cells (D.l mp) 88])) ⟨eD,bS,⟨_,by rw[hB.f]<;>rw[SD]⟩,by rw[hB.f];rw[SD];exact aW H _ 0,by simp only[seval,dG,cZ,hB.l,hB.n0,hB.s0,hB.n1,hB.s1,bf,bR,iC,iD,jj,fZ,aj.av,jz,jH,jA,jI]⟩;exact mJ (qE rfl (by simp only[seval];simp[bA,Wk.refl])) hR
  ·refine qX 5 11 rfl ?_ ?_
   ·refine qX 4 11 rfl ?_ ?_
    ·refine pU (.add (.add (.add .base 10 5) 5 11) 4 11) 5 [0,1,2,3,11,4] [6,7,8,9,10,12,13,14] [11,4] [10,12,13] [⟨0,false,[],[([11],[11]),([11,4],[11,4])]⟩,⟨1,false,[],[([11],[11])]⟩,⟨2,false,[],[([11],[11])]⟩,⟨3,false,[],[([11],[11])]⟩,⟨11,true,[11],[]⟩,⟨4,true,[11,4],[]⟩] [⟨6,false,[],[([10],[10])]⟩,⟨7,false,[],[([10],[10])]⟩,⟨8,false,[],[([10],[10]),([10,12],[10,12])]⟩,⟨9,false,[],[([10],[10]),([10,12],[10,12]),([10,12,13],[10,12,13])]⟩,⟨10,true,[10],[]⟩,⟨12,true,[10,12],[]⟩,⟨13,true,[10,12,13],[]⟩,⟨14,false,[10,12,13],[]⟩] (λD=>bif isDone 4 D then H++[.cells x.l 26,.cells v0 88,.cells x.l 26,.cells [.sl 1 [iv q] .exact] 22]else bif isDone 11 D then H++[.cells x.l 26,.cells v0 88]else H++[.cells x.l 26]) (by kernel_rfl) (by kernel_rfl) (by kernel_rfl) (by kernel_rfl) (by kernel_rfl) (by first|rfl|simp only[seval]) ?_;(try simp only[seval,z1,dZ,nv,and_self,aS,dG,cZ,bf,SQ]);refine kY _ _ (cO (nq (x:=x) (ns:=[(q:Int)]) ⟨rfl,rfl⟩)) ?_;(try simp only[seval,aS,dG,cZ,bf,SQ,SD]);refine aK ((pV 3 2 (λ_ v=>[.cells x.l 26,.cells v 88,.cells x.l 26,.cells [.sl 1 [iv q] .exact] 22]) u0 v0 hx dY iB hm rfl rfl (λ_ _=>rfl) λD L mp N Bf eD bS bR ep hB=> ?_));obtain⟨jB,jJ,jC,jK⟩:=hB.gv 1 (λ_ _=>by simp) (λ_ _=>rfl) λ_ _ _=>rfl;refine⟨λDD=>bif isDone 13 DD then(Bf u0 (D.l mp)++[.cells x.l 76])else bif isDone 12 DD then(Bf u0 v0++[.cells x.l 76])else bif isDone 10 DD then(Bf u0 v0++[.cells u0 76])else Bf u0 v0,by first|rfl|simp only[seval],?_⟩;try simp only[seval,dG,cZ,hB.l,hB.n0,hB.s0,hB.n1,hB.s1,bf,bR,iC,iD,jj,fZ,aj.av,jB,jJ,jC,jK]
     first|refine⟨kx x,ep,?_⟩|trace_state
     have hR:=rest (H.length+1,mp,D,(Bf u0 (D.l mp)++[.cells x.l 76])) ⟨eD,bS,⟨_,by rw[hB.f]<;>rw[SD]⟩,by rw[hB.f];rw[SD];exact aW H _ 0,by simp only[seval,dG,cZ,hB.l,hB.n0,hB.s0,hB.n1,hB.s1,bf,bR,iC,iD,jj,fZ,aj.av,jB,jJ,jC,jK]⟩;exact mJ (qE rfl (by simp only[seval];simp[bA,Wk.refl])) hR
    ·refine pU (.add (.add (.add .base 10 5) 5 11) 11 4) 5 [0,1,2,3,4,11] [6,7,8,9,10,12,13,14] [4,11] [10,12,13] [⟨0,false,[],[([4],[4]),([4,11],[4,11])]⟩,⟨1,false,[],[]⟩,⟨2,false,[],[]⟩,⟨3,false,[],[]⟩,⟨4,true,[4],[]⟩,⟨11,true,[4,11],[]⟩] [⟨6,false,[],[([10],[10])]⟩,⟨7,false,[],[([10],[10])]⟩,⟨8,false,[],[([10],[10]),([10,12],[10,12])]⟩,⟨9,false,[],[([10],[10]),([10,12],[10,12]),([10,12,13],[10,12,13])]⟩,⟨10,true,[10],[]⟩,⟨12,true,[10,12],[]⟩,⟨13,true,[10,12,13],[]⟩,⟨14,false,[10,12,13],[]⟩] (λD=>bif isDone 11 D then H++[.cells x.l 26,.cells x.l 26,.cells [.sl 1 [iv q] .exact] 22,.cells v0 88]else bif isDone 4 D then H++[.cells x.l 26,.cells x.l 26,.cells [.sl 1 [iv q] .exact] 22]else H++[.cells x.l 26]) (by kernel_rfl) (by kernel_rfl) (by kernel_rfl) (by kernel_rfl) (by kernel_rfl) (by first|rfl|simp only[seval]) ?_;(try simp only[seval,z1,dZ,nv,and_self,aS,dG,cZ,bf,SQ]);refine kY _ _ (cO (nq (x:=x) (ns:=[(q:Int)]) ⟨rfl,rfl⟩)) ?_;(try simp only[seval,aS,dG,cZ,bf,SQ,SD]);refine aK ((pV 2 1 (λ_ v=>[.cells x.l 26,.cells x.l 26,.cells [.sl 1 [iv q] .exact] 22,.cells v 88]) u0 v0 hx dY iB hm rfl rfl (λ_ _=>rfl) λD L mp N Bf eD bS bR ep hB=> ?_));obtain⟨jB,jJ,jC,jK⟩:=hB.gv 3 (λ_ _=>by simp) (λ_ _=>rfl) λ_ _ _=>rfl;refine⟨λDD=>bif isDone 13 DD then(Bf u0 (D.l mp)++[.cells x.l 76])else bif isDone 12 DD then(Bf u0 v0++[.cells x.l 76])else bif isDone 10 DD then(Bf u0 v0++[.cells u0 76])else Bf u0 v0,by first|rfl|simp only[seval],?_⟩;try simp only[seval,dG,cZ,hB.l,hB.n0,hB.s0,hB.n1,hB.s1,bf,bR,iC,iD,jj,fZ,aj.av,jB,jJ,jC,jK]
     first|refine⟨kx x,ep,?_⟩|trace_state
     have hR:=rest (H.length+3,mp,D,(Bf u0 (D.l mp)++[.cells x.l 76])) ⟨eD,bS,⟨_,by rw[hB.f]<;>rw[SD]⟩,by rw[hB.f];rw[SD];exact aW H _ 0,by simp only[seval,dG,cZ,hB.l,hB.n0,hB.s0,hB.n1,hB.s1,bf,bR,iC,iD,jj,fZ,aj.av,jB,jJ,jC,jK]⟩;exact mJ (qE rfl (by simp only[seval];simp[bA,Wk.refl])) hR
   ·refine qX 10 11 rfl ?_ ?_
    ·refine pU (.add (.add (.add .base 10 5) 11 5) 10 11) 5 [0,1,2,3,4] [6,7,8,9,11,10,12,13,14] [4] [11,10,12,13] [⟨0,false,[],[([4],[4])]⟩,⟨1,false,[],[]⟩,⟨2,false,[],[]⟩,⟨3,false,[],[]⟩,⟨4,true,[4],[]⟩] [⟨6,false,[],[([11],[11]),([11,10],[11,10])]⟩,⟨7,false,[],[([11],[11]),([11,10],[11,10])]⟩,⟨8,false,[],[([11],[11]),([11,10],[11,10]),([11,10,12],[11,10,12])]⟩,⟨9,false,[],[([11],[11]),([11,10],[11,10]),([11,10,12],[11,10,12]),([11,10,12,13],[11,10,12,13])]⟩,⟨11,true,[11],[]⟩,⟨10,true,[11,10],[]⟩,⟨12,true,[11,10,12],[]⟩,⟨13,true,[11,10,12,13],[]⟩,⟨14,false,[11,10,12,13],[]⟩] (λD=>bif isDone 4 D then H++[.cells x.l 26,.cells x.l 26,.cells [.sl 1 [iv q] .exact] 22]else H++[.cells x.l 26]) (by kernel_rfl) (by kernel_rfl) (by kernel_rfl) (by kernel_rfl) (by kernel_rfl) (by first|rfl|simp only[seval]) ?_;(try simp only[seval,z1,dZ,nv,and_self,aS,dG,cZ,bf,SQ]);refine kY _ _ (cO (nq (x:=x) (ns:=[(q:Int)]) ⟨rfl,rfl⟩)) ?_;(try simp only[seval,aS,dG,cZ,bf,SQ,SD]);refine aK ((pV 2 1 (λ_ _=>[.cells x.l 26,.cells x.l 26,.cells [.sl 1 [iv q] .exact] 22]) u0 v0 hx dY iB hm rfl rfl (λ_ _=>rfl) λD L mp N Bf eD bS bR ep hB=> ?_));refine⟨λDD=>bif isDone 13 DD then(Bf u0 v0++[.cells (D.l mp) 88,.cells x.l 76])else bif isDone 12 DD then(Bf u0 v0++[.cells v0 88,.cells x.l 76])else bif isDone 10 DD then(Bf u0 v0++[.cells v0 88,.cells u0 76])else bif isDone 11 DD then(Bf u0 v0++[.cells v0 88])else Bf u0 v0,by first|rfl|simp only[seval],?_⟩;try simp only[seval,dG,cZ,hB.l,hB.n0,hB.s0,hB.n1,hB.s1,bf,bR,iC,iD,jj,fZ,aj.av]
     first|refine⟨kx x,ep,?_⟩|trace_state
     have hR:=rest (N,mp,D,(Bf u0 v0++[.cells (D.l mp) 88,.cells x.l 76])) ⟨eD,bS,⟨_,by rw[hB.f]<;>rw[SD]⟩,by rw[hB.f];rw[SD];exact aW H _ 0,by simp only[seval,dG,cZ,hB.l,hB.n0,hB.s0,hB.n1,hB.s1,bf,bR,iC,iD,jj,fZ,aj.av]⟩;exact mJ (qE rfl (by simp only[seval];simp[bA,Wk.refl])) hR
    ·refine pU (.add (.add (.add .base 10 5) 11 5) 11 10) 5 [0,1,2,3,4] [6,7,8,9,10,11,12,13,14] [4] [10,11,12,13] [⟨0,false,[],[([4],[4])]⟩,⟨1,false,[],[]⟩,⟨2,false,[],[]⟩,⟨3,false,[],[]⟩,⟨4,true,[4],[]⟩] [⟨6,false,[],[([10],[10]),([10,11],[10,11])]⟩,⟨7,false,[],[([10],[10]),([10,11],[10,11])]⟩,⟨8,false,[],[([10],[10]),([10,11],[10,11]),([10,11,12],[10,11,12])]⟩,⟨9,false,[],[([10],[10]),([10,11],[10,11]),([10,11,12],[10,11,12]),([10,11,12,13],[10,11,12,13])]⟩,⟨10,true,[10],[]⟩,⟨11,true,[10,11],[]⟩,⟨12,true,[10,11,12],[]⟩,⟨13,true,[10,11,12,13],[]⟩,⟨14,false,[10,11,12,13],[]⟩] (λD=>bif isDone 4 D then H++[.cells x.l 26,.cells x.l 26,.cells [.sl 1 [iv q] .exact] 22]else H++[.cells x.l 26]) (by kernel_rfl) (by kernel_rfl) (by kernel_rfl) (by kernel_rfl) (by kernel_rfl) (by first|rfl|simp only[seval]) ?_;(try simp only[seval,z1,dZ,nv,and_self,aS,dG,cZ,bf,SQ]);refine kY _ _ (cO (nq (x:=x) (ns:=[(q:Int)]) ⟨rfl,rfl⟩)) ?_;(try simp only[seval,aS,dG,cZ,bf,SQ,SD]);refine aK ((pV 2 1 (λ_ _=>[.cells x.l 26,.cells x.l 26,.cells [.sl 1 [iv q] .exact] 22]) u0 v0 hx dY iB hm rfl rfl (λ_ _=>rfl) λD L mp N Bf eD bS bR ep hB=> ?_));refine⟨λDD=>bif isDone 13 DD then(Bf u0 v0++[.cells x.l 76,.cells (D.l mp) 88])else bif isDone 12 DD then(Bf u0 v0++[.cells x.l 76,.cells v0 88])else bif isDone 11 DD then(Bf u0 v0++[.cells u0 76,.cells v0 88])else bif isDone 10 DD then(Bf u0 v0++[.cells u0 76])else Bf u0 v0,by first|rfl|simp only[seval],?_⟩;try simp only[seval,dG,cZ,hB.l,hB.n0,hB.s0,hB.n1,hB.s1,bf,bR,iC,iD,jj,fZ,aj.av]
     first|refine⟨kx x,ep,?_⟩|trace_state
     have hR:=rest (N+1,mp,D,(Bf u0 v0++[.cells x.l 76,.cells (D.l mp) 88])) ⟨eD,bS,⟨_,by rw[hB.f]<;>rw[SD]⟩,by rw[hB.f];rw[SD];exact aW H _ 0,by simp only[seval,dG,cZ,hB.l,hB.n0,hB.s0,hB.n1,hB.s1,bf,bR,iC,iD,jj,fZ,aj.av]⟩;exact mJ (qE rfl (by simp only[seval];simp[bA,Wk.refl])) hR
section
variable {lv:Bool}{H:List aa}{k kp:AV->List aa->Prop}
theorem ahL{x:aj}{q:Nat}(hx:x.Ok)(hq:q<x.pieces.length)(hm:H[0]?=some .main)(hk:∀D,eB x 1 D->(D.has=false->k (.aJ [bk [],iv 11]) H)/\(D.has=true->k (.aJ [bk (fC (D.aA.getD q 0) x.first 16),iv 0]) H)):bc true SC 34 H [x.av,iv q] k kp:=by
 refine bH (rs:=[.tmp 4,.tmp 5]) (nt:=29) ZK λhH hA=> ?_;simp only[br,SX,aj.av];have hp:=hx.an;have lq:=hx.cT;have bO:x.l=[iv x.first,iv x.hours,iv x.an,ek x.seen,bi x.pieces,bi x.aB]:=rfl;have aS:∀(L:List aa),(H++L)[H.length]?=L[0]?:=λL=>aW H L 0;have bf:x.l.length=6:=rfl;refine ai ?_;(repeat apply gQ);refine Ob [4,10,11,12,13] [0,1,2,3,4,5,6,7,8,9,10,11,12,13,14] F.mixed (by kernel_rfl) ?_;refine O8 (α:=Nat×Nat×Kn×List aa) (ok:=λy=>eB x 1 y.2.2.1/\bF y.2.2.1/\(∃L,y.2.2.2=H++L)/\y.2.2.2[H.length]?=some (.cells x.l 26)/\y.2.2.2[y.1]?=some (.cells (y.2.2.1.l y.2.1) 88)) (λy=>⟨[(7,.op y.1 0),(8,iv (dQ y.2.2.1)),(1,iv q),(2,.op H.length 0)],y.2.2.2⟩) (λy hy=> ?_) (λrest=> ?_)
 ·obtain⟨i,mp,D,G⟩:=y;obtain⟨eD,bS,⟨L0,hG⟩,EH,BC⟩:=hy;dsimp only at hG EH BC;obtain⟨gV,ce⟩:=hk D eD;have eK:∀(ns:List Int)(e:End)(m:Int),k (.aJ [bk ns,iv m]) H->cw H.length G (.aJ [.sl ns.length (ns.map iv) e,iv m]) k:=λns e m h=>by
   rw[hG];exact iJ hH (Dm (iX _ _ _) (Wk.refl _)) (by simp[iE,eG,bk,tw]) h
  (try simp only[seval]);cases gr:D.has with
  |false=>
   have hE:dQ D=11:=(by rw[dQ,gr];rfl);refine ak ?_;simp only[seval,hE,show ((11:Int)!=0)=true from rfl];refine aD ?_;refine ai ?_;refine aZ ?_;exact eK [] .exact 11 (gV gr)
  |true=>
   have hE:dQ D=0:=(by rw[dQ,gr];rfl);have ce:=ce gr;obtain⟨u,hu⟩:=cz (xs:=D.aA) (i:=q) (by rw[bS.aA];omega);have lu:=bS.mv _ (Tf hu);have jZ:D.aA.getD q 0=u:=(by rw[SE,hu];rfl);rw[jZ]at ce;have b3:(0<=(q:Int)/\(q:Int)<4)=True:=(by simp;omega);have us:=Kn.Gu (mp:=mp) hu;have jd:=hx.first;refine ak ?_;simp only[seval,hE,show ((0:Int)!=0)=false from rfl];refine aD ?_;refine aN ?_;refine eO 6 ?_;simp only[seval,EH,BC,b3,us,bO];refine aK ((En lu (by omega) ?_));(try simp only[seval]);refine aZ ?_;exact eK _ _ 0 ce
 ·exact aaS (.inr ⟨rfl,rfl⟩) hx hq hm rest
theorem ahP{x:aj}{q:Nat}(hx:x.Ok)(hq:q<x.pieces.length)(hm:H[0]?=some .main)(hk:∀D,eB x 1 D->(D.has=false->k (.aJ [bk [],iv 11]) H)/\(D.has=true->k (.aJ [bk (fC (D.hours.getD q 0) 0 16),iv 0]) H)):bc true SC 39 H [x.av,iv q] k kp:=by
 refine bH (rs:=[.tmp 4,.tmp 5]) (nt:=27) ZJ λhH hA=> ?_;simp only[br,SX,aj.av];have hp:=hx.an;have lq:=hx.cT;have aS:∀(L:List aa),(H++L)[H.length]?=L[0]?:=λL=>aW H L 0;have bf:x.l.length=6:=rfl;refine ai ?_;(repeat apply gQ);refine Ob [4,10,11,12,13] [0,1,2,3,4,5,6,7,8,9,10,11,12,13,14] F.mixed (by kernel_rfl) ?_;refine O8 (α:=Nat×Nat×Kn×List aa) (ok:=λy=>eB x 1 y.2.2.1/\bF y.2.2.1/\(∃L,y.2.2.2=H++L)/\y.2.2.2[H.length]?=some (.cells x.l 26)/\y.2.2.2[y.1]?=some (.cells (y.2.2.1.l y.2.1) 88)) (λy=>⟨[(7,.op y.1 0),(8,iv (dQ y.2.2.1)),(1,iv q),(2,.op H.length 0)],y.2.2.2⟩) (λy hy=> ?_) (λrest=> ?_)
 ·obtain⟨i,mp,D,G⟩:=y;obtain⟨eD,bS,⟨L0,hG⟩,EH,BC⟩:=hy;dsimp only at hG EH BC;obtain⟨gV,ce⟩:=hk D eD;have eK:∀(ns:List Int)(e:End)(m:Int),k (.aJ [bk ns,iv m]) H->cw H.length G (.aJ [.sl ns.length (ns.map iv) e,iv m]) k:=λns e m h=>by
   rw[hG];exact iJ hH (Dm (iX _ _ _) (Wk.refl _)) (by simp[iE,eG,bk,tw]) h
  (try simp only[seval]);cases gr:D.has with
  |false=>
   have hE:dQ D=11:=(by rw[dQ,gr];rfl);refine ak ?_;simp only[seval,hE,show ((11:Int)!=0)=true from rfl];refine aD ?_;refine ai ?_;refine aZ ?_;exact eK [] .exact 11 (gV gr)
  |true=>
   have hE:dQ D=0:=(by rw[dQ,gr];rfl);have ce:=ce gr;obtain⟨u,hu⟩:=cz (xs:=D.hours) (i:=q) (by rw[bS.hours];omega);have lu:=bS.mb _ (Tf hu);have jZ:D.hours.getD q 0=u:=(by rw[SE,hu];rfl);rw[jZ]at ce;have b3:(0<=(q:Int)/\(q:Int)<4)=True:=(by simp;omega);have us:=Kn.Fx bS (mp:=mp) hu;have jd:=hx.first;refine ak ?_;simp only[seval,hE,show ((0:Int)!=0)=false from rfl];refine aD ?_;refine aN ?_;refine ak ?_;simp only[seval,BC,b3,us];refine aK ((En lu (by omega) ?_));(try simp only[seval]);refine aZ ?_;exact eK _ _ 0 ce
 ·exact aaS (.inl ⟨rfl,rfl⟩) hx hq hm rest
end
theorem alG{x:aj}{deep:Int}{D:Kn}(hx:x.Ok)(h:eB x deep D)(hh:D.has=true):jv x D.first:=by
 obtain⟨p,js,h1,h2,h3,_⟩:=h;have hp:=hx.an;have hj:∀j∈js,j<x.an.toNat+1:=λj hj=>by have:=TG.1 (h2.mem_iff.1 hj);omega
 obtain⟨j,a,t,l,b,c,d⟩:=aab hx h3 (h2.nodup_iff.2 XZ) hj hh;rw[c];exact Qb (deep:=deep) (j:=j) hx (by have:=hj j a;omega) (by rw[b];simp)
namespace Tk
def sJ (x:aj)(t:List Int)(i:Nat):List Int:=(S0 i).map λp=>t.getD (4+p) 0+x.first
def sK (t:List Int)(i:Nat):List Int:=(S0 i).map λs=>t.getD (8+s) 0
theorem aih(x:aj)(t:List Int)(i:Nat):sJ x t (i+1)=sJ x t i++[t.getD (4+i) 0+x.first]:=by
 unfold sJ;rw[Vk,TF];rfl
theorem aij(t:List Int)(i:Nat):sK t (i+1)=sK t i++[t.getD (8+i) 0]:=by
 unfold sK;rw[Vk,TF];rfl
theorem aig(x:aj)(t:List Int)(i:Nat):(sJ x t i).length=i:=by simp[sJ]
theorem aii(t:List Int)(i:Nat):(sK t i).length=i:=by simp[sK]
end Tk
theorem arI{a a' b b' c c' d d':AV}(h1:Wk a a')(h2:Wk b b')(h3:Wk c c')(h4:Wk d d'):Wk (.aJ [a,b,c,d]) (.aJ [a',b',c',d']):=λE v h=>by
 cases h with
 |aJ hs h=>
  refine .aJ hs λi x e=> ?_
  match i with
  |0=>cases e;exact h1 _ _ (h 0 a rfl)
  |1=>cases e;exact h2 _ _ (h 1 b rfl)
  |2=>cases e;exact h3 _ _ (h 2 c rfl)
  |3=>cases e;exact h4 _ _ (h 3 d rfl)
section
variable {lv:Bool}{H:List aa}{k kp:AV->List aa->Prop}
theorem ahy{x:aj}(hx:x.Ok)(hm:H[0]?=some .main)(hk:∀D,eB x 0 D->(D.has=false->k (.aJ [bk [],bk [],bk [],iv 11]) H)/\(D.has=true->k (.aJ [bk (D.first.take (x.hours.toNat+1)),bk (sJ x D.first x.pieces.length),bk (sK D.first x.aB.length),iv 0]) H)):bc true SC 18 H [x.av] k kp:=by
 refine bH (rs:=[.tmp 2,.tmp 3,.tmp 4,.tmp 5]) (nt:=64) Tryz.f18 λhH hA=> ?_;simp only[br,SX,aj.av];have hp:=hx.an;have hh:=hx.hours;have lq:=hx.cT;have aT:=hx.fi;have jd:=hx.first;obtain⟨p,dY⟩:∃p:Nat,x.an=p:=⟨x.an.toNat,by omega⟩;have bO:x.l=[iv x.first,iv x.hours,iv x.an,ek x.seen,bi x.pieces,bi x.aB]:=rfl;have aS:∀(L:List aa),(H++L)[H.length]?=L[0]?:=λL=>aW H L 0;have bf:x.l.length=6:=rfl;have dZ:Un 6 x.l=x.l:=rfl;refine ai ?_;refine ak ?_;simp only[seval,aS,bf,dZ];refine aK ((xe (x:=x) hx dY (fF hm) D4 (λh=>by cases h) λ_ js D L mp gU gT bS rB hg=> ?_));have eD:eB x 0 D:=⟨p,js,dY,gU,gT,bS⟩;have bR:=Kn.len bS mp;have ep:=tr D mp;obtain⟨gV,ce⟩:=hk D eD;obtain⟨Y,hY⟩:∃Y:List aa,Y=[aa.cells x.l 26]++L:=⟨_,rfl⟩;obtain⟨B,hB⟩:∃B,B=H++Y:=⟨_,rfl⟩;have oX:H++[aa.cells x.l 26]++L=B:=by rw[hB,hY,SD]
 have zm:∀(L':List aa),(B++L')[H.length]?=some (.cells x.l 26):=λL'=>by rw[hB,hY,SD,aS];rfl
 have bn:∀(L':List aa)(j:Nat),(B++L')[B.length+j]?=L'[j]?:=λL' j=>aW B L' j;have vA:∀(L':List aa)(j:Nat)(y:aa),(B++L').set (B.length+j) y=B++L'.set j y:=λL' j y=>ez B L' j y;have eK:∀(L':List aa)(l1 l2 l3:List Int)(e e' Pf:End)(m:Int),k (.aJ [bk l1,bk l2,bk l3,iv m]) H->cw H.length (B++L') (.aJ [.sl l1.length (l1.map iv) e,.sl l2.length (l2.map iv) e',.sl l3.length (l3.map iv) Pf,iv m]) k:=λL' l1 l2 l3 e e' Pf m h=>by
  rw[hB,SD];exact iJ hH (arI (iX _ _ _) (iX _ _ _) (iX _ _ _) (Wk.refl _)) (by simp[iE,eG,bk,tw]) h
 rw[oX];clear oX hg;(try simp only[seval,aj.av,bf,bR]);refine⟨kx x,ep,?_⟩;cases gr:D.has with
 |false=>
  have hE:dQ D=11:=by rw[dQ,gr];rfl
  refine ak ?_;simp only[seval,hE,show ((11:Int)!=0)=true from rfl];refine aD ?_;refine ai ?_;refine aZ ?_;exact eK _ [] [] [] .exact .exact .exact 11 (gV gr)
 |true=>
  have hE:dQ D=0:=by rw[dQ,gr];rfl
  have ce:=ce gr;have qt:=alG hx eD gr;obtain⟨t,ht⟩:∃t,t=D.first:=⟨_,rfl⟩;rw[<- ht]at qt ce;have qq:=qt.len;obtain⟨pre,Re,JN⟩:∃pre:List AV,pre.length=17/\D.l mp=pre++(t.map iv++[]):=⟨bv D.has:: .mp mp::(D.aA.map (λn=>wv n)++(D.hours.map (λn=>wv n)++(D.less.map (λn=>wv n)++D.aV.map (λn=>wv n)))),by simp[bS.aA,bS.hours,bS.less,bS.aV],by rw[ht];simp[Kn.l]⟩;obtain⟨n,hn⟩:∃n:Nat,x.hours=n:=⟨x.hours.toNat,by omega⟩;have pj:x.hours+1=((n+1:Nat):Int):=by omega
  have bZ:SF.wrap (x.hours+1)=((n+1:Nat):Int):=by rw[bI _ (by omega)];exact pj
  have de:UD 1 x.l=[iv x.hours,iv x.an,ek x.seen,bi x.pieces,bi x.aB]:=rfl;have EZ:UD 4 x.l=[.sl x.pieces.length (x.pieces.flatMap aH.l) .shut,.sl x.aB.length (x.aB.flatMap aH.l) .shut]:=rfl;have uq:UD 5 x.l=[.sl x.aB.length (x.aB.flatMap aH.l) .shut]:=rfl;refine ak ?_;simp only[seval,hE,show ((0:Int)!=0)=false from rfl];refine aD ?_;refine aN ?_;have Ba:∀(L':List aa),(B++L')[B.length+1]?=L'[1]?:=λL'=>bn L' 1;have yN:∀(L':List aa),(B++L')[B.length+2]?=L'[2]?:=λL'=>bn L' 2;have tZ:∀(L':List aa)(y:aa),(B++L').set (B.length+2) y=B++L'.set 2 y:=λL' y=>vA L' 2 y;have bn3:∀(L':List aa),(B++L')[B.length+3]?=L'[3]?:=λL'=>bn L' 3;have bs3:∀(L':List aa)(y:aa),(B++L').set (B.length+3) y=B++L'.set 3 y:=λL' y=>vA L' 3 y;have bn4:∀(L':List aa),(B++L')[B.length+4]?=L'[4]?:=λL'=>bn L' 4;have bs4:∀(L':List aa)(y:aa),(B++L').set (B.length+4) y=B++L'.set 4 y:=λL' y=>vA L' 4 y;refine ak ?_;simp only[seval,zm,de,bZ,ado];refine⟨by omega,by omega,?_⟩;have vW:(D.l mp).drop 17=t.map iv:=by rw[JN,SZ,Wq (by omega),WY (by omega),Uw]
  have alb:((n:Int)+1).toNat=n+1:=by omega
  have qi:min 4 (n+1)=n+1:=by omega
  have B_:min 4 11=4:=rfl;have Ru:min (n+1) 4=n+1:=by omega
  have aY:Un (n+1) (Un 4 (U2 iv t))++UD (n+1) (U2 iv (TL (n+1) 0))=(t.take (n+1)).map iv:=by rw[U1,Ru,WY (by simp),SZ,VU]
  refine ak ?_;simp only[seval,vW,alb,qi,B_,qq,Ru,T_,YH,Ba,yN,tZ];refine⟨by rw[<- VU];exact of_eq_true (aam _),?_⟩;rw[aY];obtain⟨tl,K1⟩:∃tl,tl=t.take (n+1):=⟨_,rfl⟩;have Sd:tl.length=n+1:=by rw[K1,T_];omega
  have Ce:x.hours.toNat=n:=by omega
  rw[Ce,<- K1]at ce;rw[<- K1]
  (repeat apply gQ);refine H9 (id:=B.length+2) (by simp only[seval,yN]<;>rfl) ?_
  simp only[seval,tZ,Sd]
  (repeat apply gQ);refine Oj (t:=2) (y:=bk tl) (by simp only[seval]<;>rfl) ?_ ?_
  ·have e:bk tl=.sl (n+1) ((tl.map iv).take (n+1)) .shut:=by
    rw[SY (by simp;omega),bk,Sd]
   rw[e];exact No (p:=n+1) (by simp only[seval,yN]<;>rfl) (by omega) (by simp;omega)
  (repeat apply gQ);refine vu (t:=3) (sz:=1) (el:=3) (by simp only[seval]<;>rfl) ?_
  refine ak ?_;simp only[seval,zm,EZ];obtain⟨gl,oz⟩:∃gl:Nat->List Int,∀i,gl i=sJ x t i:=⟨_,λ_=>rfl⟩;have B1:gl 0=[]:=by rw[oz];rfl
  have Kc:∀i,(gl i).length=i:=λi=>by rw[oz];exact aig _ _ _
  refine cJ ?_;refine gP x.pieces.length (λi:Nat=>[(3,.sl (gl i).length ((gl i).map iv) (.opn (B.length+3))),(31,iv i)]) (λi=>B++[.cells x.l 76,.cells (D.l mp) 88,.part (n+1) (tl.map iv) 3,.tail (gl i).length 1 3]) (λi=>True) (λ_ _=>rfl) (by rw[B1];simp only[seval];simp[bA,Wk.refl]) (by rw[B1];rfl) (λ_ _ _=>by simp) trivial (λcp dz i cW _ R hR=> ?_);refine ai ?_;refine aD ?_;refine⟨λh=> ?_,λh=> ?_⟩
  ·have bG:i<x.pieces.length:=(by omega);obtain⟨v,hv,hv9,_⟩:=qt.num i bG;have B3:t.getD (4+i) 0=v:=(by rw[SE,hv];rfl);have b3:(0<=(i:Int)/\(i:Int)<4)=True:=(by simp;omega);have fU:SF.wrap ((i:Int)+1)=((i+1:Nat):Int):=(by rw[bI _ (by omega)];rfl);have Ct:SF.wrap ((v:Int)+x.first)=v+x.first:=bI _ (by omega);have BX:(D.l mp).drop (21+i)=iv v::((t.drop (4+i+1)).map iv++[]):=by
    have:=El JN Re hv;rw[show 21+i=17+(4+i) by omega];exact this
   have dg:gl (i+1)=gl i++[(v:Int)+x.first]:=(by rw[oz,oz,aih,B3]);have Rh:=Kc i;refine aN ?_;refine ai ?_;refine eO 10 ?_;simp only[seval,z1,zm,Ba,b3,BX,Ct,bO,bn3,bs3]
   first|refine⟨by decide,by omega,?_⟩|refine⟨by omega,?_⟩
   refine ak ?_;simp only[seval,fU];refine hR _ ⟨bG,trivial,?_⟩;rw[dg,TF,SQ];exact dE
  ·have cS:i=x.pieces.length:=(by omega);subst cS;clear hR;refine bU ?_
   (repeat apply gQ);refine vu (t:=4) (sz:=1) (el:=3) (by simp only[seval]<;>rfl) ?_
   have FX:(gl x.pieces.length)=sJ x t x.pieces.length:=oz _;generalize gl x.pieces.length=nl at FX⊢;refine ak ?_;simp only[seval,zm,uq];obtain⟨go,hgo⟩:∃go:Nat->List Int,∀i,go i=sK t i:=⟨_,λ_=>rfl⟩;have QZ:go 0=[]:=(by rw[hgo];rfl);have aj0:∀i,(go i).length=i:=λi=>(by rw[hgo];exact aii _ _);refine cJ ?_;refine gP x.aB.length (λi:Nat=>[(4,.sl (go i).length ((go i).map iv) (.opn (B.length+4))),(49,iv i)]) (λi=>B++[.cells x.l 76,.cells (D.l mp) 88,.part (n+1) (tl.map iv) 3,.tail nl.length 1 3,.tail (go i).length 1 3]) (λi=>True) (λ_ _=>rfl) (by rw[QZ];simp only[seval];simp[bA,Wk.refl]) (by rw[QZ];rfl) (λ_ _ _=>by simp) trivial (λcp dz i cW _ R hR=> ?_);refine ai ?_;refine aD ?_;refine⟨λh=> ?_,λh=> ?_⟩
   ·have bG:i<x.aB.length:=(by omega);obtain⟨v,hv,hv9⟩:=qt.own i bG;have B3:t.getD (8+i) 0=v:=(by rw[SE,hv];rfl);have b3:(0<=(i:Int)/\(i:Int)<3)=True:=(by simp;omega);have fU:SF.wrap ((i:Int)+1)=((i+1:Nat):Int):=(by rw[bI _ (by omega)];rfl);have BX:(D.l mp).drop (25+i)=iv v::((t.drop (8+i+1)).map iv++[]):=by
     have:=El JN Re hv;rw[show 25+i=17+(8+i) by omega];exact this
    have dg:go (i+1)=go i++[(v:Int)]:=(by rw[hgo,hgo,aij,B3]);have Rh:=aj0 i;refine aN ?_;refine ai ?_;refine ak ?_;simp only[seval,z1,Ba,b3,BX,bn4,bs4]
    first|refine⟨by decide,by omega,?_⟩|refine⟨by omega,?_⟩
    refine ak ?_;simp only[seval,fU];refine hR _ ⟨bG,trivial,?_⟩;rw[dg,TF,SQ];exact dE
   ·have cS:i=x.aB.length:=(by omega);subst cS;clear hR;refine bU ?_;have So:(go x.aB.length)=sK t x.aB.length:=hgo _;generalize go x.aB.length=ol at So⊢;refine ai ?_;refine aZ ?_;rw[<- FX,<- So]at ce;exact eK _ tl nl ol .shut _ _ 0 ce
end
open Go.Conc Go.Proofs Go.Gg.Tk
namespace Tk
def aaQ (n:Int)(o k:Int):Int:=x7 [o,max (k-n) (n-k)]
def CR (l:List Int)(n:Int)(o:Int):Int:=l.foldl (aaQ n) o
def qT (own q:Nat)(m:Int×Nat)(t:List Int):Int×Nat:=if m.2.testBit (mz t q)then m else(CR (fC own 0 16) (mz t q) m.1,m.2|||2^mz t q)
def vo (x:aj)(y:aH)(q:Nat)(o:Int)(h:List Int):Int:=if b_ h y=0 then o else((jo x 1 h).foldl (qT (b_ h y) q) (o,0)).1
def yK (x:aj)(y:aH)(q:Nat):Nat->Int
 |0=> -1
 |i+1=>(kG x i).foldl (vo x y q) (yK x y q i)
def H2 (x:aj)(i:Nat):List aa:=[.cells x.l 76,.cells [iv i] 3,.obj (.deferred (some [])),.gone]
def oT (x:aj):Nat->List aa
 |0=>[]
 |i+1=>oT x i++H2 x i
def wY (n:Nat):Nat->List Nat
 |0=>[]
 |i+1=>(n+4* i+2)::wY n i
theorem H5(x:aj):∀i,(oT x i).length=4* i
 |0=>rfl
 |i+1=>by rw[oT,SQ,H5 x i];rfl
theorem N2(x:aj)(B:List aa):∀(i:Nat)(L:List aa),∃Y,iK (wY B.length i) (B++oT x i++L)=some (B++Y)
 |0,L=>⟨oT x 0++L,by rw[wY,y_,SD]⟩
 |i+1,L=>by
  have hl:(B++oT x i).length=B.length+4* i:=by rw[SQ,H5]
  have e:B++oT x (i+1)++L=(B++oT x i)++(H2 x i++L):=by rw[oT];simp
  have hg:((B++oT x i)++(H2 x i++L))[B.length+4* i+2]?=some (.obj (.deferred (some []))):=by rw[<- hl,aW];rfl
  obtain⟨Y,hY⟩:=N2 x B i ([.cells x.l 76,.cells [iv i] 3,.gone,.gone]++L);refine⟨Y,?_⟩;rw[wY,e,y9 hg,<- hl,ez];exact hY
end Tk
theorem afj{lv:Bool}{P:SK}{nt:Nat}{c:T7}{s:AS}{ms:List Nat}{Φ:ao->AS->List Nat->Prop}(h:kz lv P nt [] c s ms Φ):mC lv P nt c s ms Φ:=λE V a Q ah hd hQ=>
 h E V a Q ah ⟨by rw[SZ];exact hd.1,hd.2⟩ λae e E' V' a' s' cH hk aQ cq he hΦ=>hQ ae e E' V' a' s' cH hk aQ ⟨by have:=cq.1;rwa [SZ]at this,cq.2⟩ he hΦ
section
variable {lv:Bool}{H:List aa}{k kp:AV->List aa->Prop}
theorem ahJ{x:aj}{s q:Nat}{y:aH}(hx:x.Ok)(hs:x.aB[s]?=some y)(hq:q<x.pieces.length)(hk:∀o:Int,o=yK (x.wo [(s:Int)]) y q (x.an.toNat+1)->k (.aJ [iv (if o<0 then 0 else o),iv (if o<0 then 11 else 0)]) H):bc lv SC 31 H [x.av,iv s,iv q] k kp:=by
 refine PS (rs:=[.tmp 6,.tmp 7]) (nt:=97) F.f31 rfl rfl rfl (by simp) λhH hA=> ?_;simp only[br,SX,aj.av];have hp:=hx.an;have aT:=hx.fi;have lq:=hx.cT;have dN:=eX hs;have iB:=abt hq;obtain⟨p,dY⟩:∃p:Nat,x.an=p:=⟨x.an.toNat,by omega⟩;obtain⟨w,hw⟩:∃w,w=x.wo [(s:Int)]:=⟨_,rfl⟩;have K9:w.Ok:=by rw[hw];exact hx.wo _
 have bO:x.l=[iv x.first,iv x.hours,iv x.an,ek x.seen,bi x.pieces,bi x.aB]:=rfl;have eF:∀(L:List aa)(j:Nat),(H++L)[H.length+j]?=L[j]?:=λL j=>aW H L j;have zI:∀(L:List aa)(j:Nat)(y:aa),(H++L).set (H.length+j) y=H++L.set j y:=λL j y=>ez H L j y;have aS:∀(L:List aa),(H++L)[H.length]?=L[0]?:=λL=>aW H L 0;have de:∀(L:List aa),(H++L)[H.length+1]?=L[1]?:=λL=>aW H L 1;have ki:∀(L:List aa),(H++L)[H.length+2]?=L[2]?:=λL=>aW H L 2;have uq:∀(L:List aa),(H++L)[H.length+5]?=L[5]?:=λL=>aW H L 5;have KR:∀(L:List aa)(y:aa),(H++L).set (H.length+5) y=H++L.set 5 y:=λL y=>ez H L 5 y;have hd6:∀(L:List aa),(H++L)[H.length+6]?=L[6]?:=λL=>aW H L 6;have hs6:∀(L:List aa)(y:aa),(H++L).set (H.length+6) y=H++L.set 6 y:=λL y=>ez H L 6 y;have bf:x.l.length=6:=rfl;have dZ:Un 6 x.l=x.l:=rfl;have QS:UD 5 x.l=[.sl x.aB.length (x.aB.flatMap aH.l) .shut]:=rfl;have BW:UD 2 x.l=[iv x.an,ek x.seen,bi x.pieces,bi x.aB]:=rfl;have nv:(1<=2^24)=True:=eq_true (by decide);(try refine ng ?_);refine ai ?_;(try refine ng ?_);refine ak ?_;simp only[seval,aS,bf,dZ];refine aK ((Eo (x:=x) hx ?_));(try simp only[seval]);(try refine ng ?_);refine ak ?_;simp only[seval,show ((0:Int)!=0)=false from rfl];(try refine ng ?_);refine aD ?_;refine aN ?_;(try refine ng ?_);refine ak ?_;simp only[seval,z1,nv,aS,ki,bf,dZ];refine aK ((nq (x:=x) (ns:=[(q:Int)]) ?_));have bZ:SF.wrap ((x.aB.length:Int)-1)=(x.aB.length:Int)-1:=bI _ (by omega);have ho1:(decide ((s:Int)<0)||decide ((s:Int)>(x.aB.length:Int)-1))=false:=by simp;omega
 (try simp only[seval]);refine aK ((Er (x:=x) (ns:=[(q:Int)]) (e:=.exact) (il:=H.length+4) (ir:=H.length+3) hx (by simp) (by rw[eF];rfl) (by rw[eF];rfl) ?_));rw[iB];(try simp only[seval,aS,de,QS,bZ]);refine aK ((sI (n:=s) (lo:=0) (hi:=(x.aB.length:Int)-1) ?_));rw[ho1];(try simp only[seval]);(try refine ng ?_);refine aD ?_;refine aN ?_;(try refine ng ?_);have ajm:tM [(s:Int)] x.aB.length:=λi n hn=>by
  match i,hn with
  |0,hn=>cases hn;simp;omega
 refine ak ?_;simp only[seval,z1,nv,aS,de,bf,dZ];refine aK ((PC (x:=x) (ns:=[(s:Int)]) aT ajm ?_));rw[<- hw];have rM:w.l.length=6:=rfl;have uG:Un 6 w.l=w.l:=rfl;have Rk:w.l=[iv w.first,iv w.hours,iv w.an,ek w.seen,bi w.pieces,bi w.aB]:=rfl;have Lc:UD 6 [AV.val (SG SF 0),AV.val (SG SF 0),AV.val (SG SF 0),AV.sl 0 [] .exact,AV.sl 0 [] .exact,AV.sl 0 [] .exact]=[]:=rfl;(try simp only[seval,aj.av,rM,uG,uq,KR,hd6,hs6,Lc]);refine⟨kx w,?_⟩;have gY:SF.wrap (x.an+1)=((p+1:Nat):Int):=by rw[dY,bI _ (by omega)];rfl
 refine Ib ?_;refine ng ?_;refine ak ?_;simp only[seval,aS,BW,gY];obtain⟨Bo,re⟩:∃Bo:Int->List aa,∀o,Bo o=H++[.cells x.l 26,.cells [iv s] 3,.cells [iv q] 3,.cells x.l 26,.cells [.sl 1 [iv q] .exact] 22,.cells w.l 76,.cells [iv o] 3]:=⟨_,λ_=>rfl⟩;have fS:∀o,(Bo o).length=H.length+7:=λo=>by rw[re];simp
 have b0:∀o L,(Bo o++L)[H.length]?=some (.cells x.l 26):=λo L=>by rw[re,SD,aS];rfl
 have b1:∀o L,(Bo o++L)[H.length+1]?=some (.cells [iv s] 3):=λo L=>by rw[re,SD,eF];rfl
 have b2:∀o L,(Bo o++L)[H.length+2]?=some (.cells [iv q] 3):=λo L=>by rw[re,SD,eF];rfl
 have b5:∀o L,(Bo o++L)[H.length+5]?=some (.cells w.l 76):=λo L=>by rw[re,SD,eF];rfl
 have b6:∀o L,(Bo o++L)[H.length+6]?=some (.cells [iv o] 3):=λo L=>by rw[re,SD,eF];rfl
 have s6:∀o o' L,(Bo o++L).set (H.length+6) (.cells [iv o'] 3)=Bo o'++L:=λo o' L=>by rw[re,re,SD,SD,zI];rfl
 obtain⟨fo,v4⟩:∃fo:Nat->Int,∀i,fo i=yK w y q i:=⟨_,λ_=>rfl⟩;refine afj ?_;refine w5 ?_;refine Om (measure λi=>p+1-i).wf (λi:Nat=>⟨[(45,iv i),(44,iv ((p+1:Nat):Int)),(3,.op H.length 0),(4,.op (H.length+1) 0),(5,.op (H.length+2) 0),(9,.op (H.length+5) 0),(10,.op (H.length+6) 0)],Bo (fo i)++oT w i⟩) (λi=>wY (H.length+7) i) (λi=>i<=p+1) 0 (fP (by simp only[seval];simp[bA,Wk.refl]) (by rw[re,v4];show _=_++[];rw[SZ];rfl)) rfl (by omega) λi io=> ?_;obtain⟨N,hN⟩:∃N,N=H.length+7+4* i:=⟨_,rfl⟩;obtain⟨AO,pY⟩:∃AO:Int->List aa,∀o,AO o=Bo o++oT w i:=⟨_,λ_=>rfl⟩;have pZ:∀o,(AO o).length=N:=λo=>by rw[pY,SQ,fS,H5,hN]
 have a0:∀o L,(AO o++L)[H.length]?=some (.cells x.l 26):=λo L=>by rw[pY,SD];exact b0 _ _
 have a1:∀o L,(AO o++L)[H.length+1]?=some (.cells [iv s] 3):=λo L=>by rw[pY,SD];exact b1 _ _
 have a2:∀o L,(AO o++L)[H.length+2]?=some (.cells [iv q] 3):=λo L=>by rw[pY,SD];exact b2 _ _
 have a5:∀o L,(AO o++L)[H.length+5]?=some (.cells w.l 76):=λo L=>by rw[pY,SD];exact b5 _ _
 have a50:∀o,(AO o)[H.length+5]?=some (.cells w.l 76):=λo=>by have:=a5 o [];rwa [SZ]at this
 have a6:∀o L,(AO o++L)[H.length+6]?=some (.cells [iv o] 3):=λo L=>by rw[pY,SD];exact b6 _ _
 have as6:∀o o' L,(AO o++L).set (H.length+6) (.cells [iv o'] 3)=AO o'++L:=λo o' L=>by rw[pY,pY,SD,SD];exact s6 _ _ _
 have ag:∀o (L:List aa)(j:Nat),(AO o++L)[N+j]?=L[j]?:=λo L j=>by rw[<- pZ o,aW]
 have tW:∀o (L:List aa)(j:Nat)(y:aa),(AO o++L).set (N+j) y=AO o++L.set j y:=λo L j y=>by rw[<- pZ o,ez]
 have Mc:∀m o o',(∀z∈AO o,fj m z)->∀z∈AO o',fj m z:=λm o o' hz z fh=>by
  rw[pY,re]at hz fh;simp only[SV]at fh;rcases fh with(h'|h')|h'
  ·exact hz z (by simp[h'])
  ·simp only[SL,S4,or_false]at h';rcases h' with rfl|rfl|rfl|rfl|rfl|rfl|rfl
   ·exact hz _ (by simp)
   ·exact hz _ (by simp)
   ·exact hz _ (by simp)
   ·exact hz _ (by simp)
   ·exact hz _ (by simp)
   ·exact hz _ (by simp)
   ·intro a ha;rw[Tb]at ha;subst ha;exact .val _
  ·exact hz z (by simp[h'])
 have okX:∀(X:List aa) o o',bQ (AO o++X)->bQ (AO o'++X):=λX o o' hX z hz=>by
  have hlen:(AO o'++X).length=(AO o++X).length:=by simp[pZ]
  rw[hlen];rcases SV.1 hz with h'|h'
  ·exact Mc _ o o' (λz hz=>hX z (Th _ hz)) z h'
  ·exact hX z (S5 _ h')
 rw[<- pY];refine sA ?_;refine ai ?_;refine sA ?_;refine aD ?_;refine⟨λhc=> ?_,λhc=> ?_⟩
 ·have p_:i<=3:=by omega
  have Jo:=Dg K9 i p_;refine aN ?_;refine D8 ?_;refine w5 ?_;refine sA ?_;refine ai ?_;refine sA ?_;refine ak ?_;simp only[seval,a50,Rk];refine aK ((IZ (x:=w) (n:=i) ?_));rw[pZ];(try simp only[seval]);refine w5 ?_;refine Ic (by rfl) λl fn T N1 bo hT xq p8=> ?_;(try simp only[seval]);rw[pZ];have hY:jP lv SC (.fn (.yield l) [] []) (λo h=> .go (vo w y q o h)) (λo=>AO o++[.cells w.l 76,.cells [iv i] 3,.obj (.deferred (some [])),.loop l .ready none fn T 97 #[51] N1 bo (N+2)]) (N+4) (λ_=>True) (λh=>mD h/\∀ns∈f_ w h,∀a∈(iy w h ns).map (di h ns),jv w a) (.aJ []):=by
   refine⟨λo h M k kp _ ha dH=> ?_,λ_ _ _ _ _ _=>trivial,λo=>by simp[pZ],λm o o' hz z fh=> ?_,rfl,rfl,rfl⟩
   ·obtain⟨o6,Cr⟩:=ha;have h4:=o6.len;have nw:(h.map iv).length=4:=(by rw[To,h4]);simp only[c_]at dH;obtain⟨Lo,ld⟩:∃Lo,Lo=aa.loop l .busy none fn T 97 #[51] N1 bo (N+2):=⟨_,rfl⟩;obtain⟨C,hC⟩:∃C,C=N+4+M.length:=⟨_,rfl⟩;obtain⟨P1,dA⟩:∃P1:Int->List aa,∀o,P1 o=AO o++([.cells w.l 76,.cells [iv i] 3,.obj (.deferred (some [])),Lo]++M):=⟨_,λ_=>rfl⟩;have eE:∀o,(P1 o).length=C:=λo=>(by rw[dA,hC];simp[pZ];omega);have p0:∀o L,(P1 o++L)[H.length]?=some (.cells x.l 26):=λo L=>(by rw[dA,SD];exact a0 _ _);have p1:∀o L,(P1 o++L)[H.length+1]?=some (.cells [iv s] 3):=λo L=>(by rw[dA,SD];exact a1 _ _);have p2:∀o L,(P1 o++L)[H.length+2]?=some (.cells [iv q] 3):=λo L=>(by rw[dA,SD];exact a2 _ _);have p5:∀o L,(P1 o++L)[H.length+5]?=some (.cells w.l 76):=λo L=>(by rw[dA,SD];exact a5 _ _);have p6:∀o L,(P1 o++L)[H.length+6]?=some (.cells [iv o] 3):=λo L=>(by rw[dA,SD];exact a6 _ _);have ps6:∀o o' L,(P1 o++L).set (H.length+6) (.cells [iv o'] 3)=P1 o'++L:=λo o' L=>(by rw[dA o,dA o',SD (AO o),SD (AO o')];exact as6 _ _ _);have Mo:∀o L,(P1 o++L)[N+3]?=some Lo:=λo L=>(by rw[dA,SD,ag];rfl);have MH:∀o (L:List aa) y,(P1 o++L).set (N+3) y=AO o++([.cells w.l 76,.cells [iv i] 3,.obj (.deferred (some [])),y]++M)++L:=λo L y=>(by rw[dA,SD,tW];simp);have pb:∀o (L:List aa)(j:Nat),(P1 o++L)[C+j]?=L[j]?:=λo L j=>(by rw[<- eE o,aW]);have wz:∀o (L:List aa),(P1 o++L)[C]?=L[0]?:=λo L=>pb o L 0;have pb1:∀o (L:List aa),(P1 o++L)[C+1]?=L[1]?:=λo L=>pb o L 1;have pb2:∀o (L:List aa),(P1 o++L)[C+2]?=L[2]?:=λo L=>pb o L 2;have Ae:∀o (L:List aa)(j:Nat)(y:aa),(P1 o++L).set (C+j) y=P1 o++L.set j y:=λo L j y=>(by rw[<- eE o,ez]);have ps1:∀o (L:List aa)(y:aa),(P1 o++L).set (C+1) y=P1 o++L.set 1 y:=λo L y=>Ae o L 1 y;have ps2:∀o (L:List aa)(y:aa),(P1 o++L).set (C+2) y=P1 o++L.set 2 y:=λo L y=>Ae o L 2 y;have zZ:∀m o o',(∀z∈P1 o,fj m z)->∀z∈P1 o',fj m z:=λm o o' hz z fh=>by
     rw[dA]at hz fh;rcases SV.1 fh with h'|h'
     ·exact Mc m o o' (λz uI=>hz z (Th _ uI)) z h'
     ·exact hz z (S5 _ h')
    subst hT xq p8;rw[SD];refine vC (id:=N+3) (by rw[ag];rfl) rfl (by kernel_rfl) λoo Jp=> ?_;simp only[sf];have vX:UD 4 [iv 0,iv 0,iv 0,iv 0]=[]:=rfl;refine ak ?_;simp only[seval,h4,vX];unfold tT;refine⟨none,fn,_,97,#[51],_,_,_,by rw[ag];rfl,?_⟩;dsimp only;rw[tW];simp only[UC,TY];rw[<- ld];have xk:(AO o).length+(M.length+1+1+1+1)=C:=(by rw[pZ,hC];omega);rw[xk];have xB:∀z:aa,(AO o++aa.cells w.l 76::aa.cells [AV.val (SG SF ↑i)] 3::aa.obj (atI (some []))::Lo::(M++[z]))=P1 o++[z]:=λz=>(by rw[dA];simp[iv]);rw[xB];obtain⟨own,jg⟩:∃own,own=b_ h y:=⟨_,rfl⟩;refine cJ ?_;refine qU [7,8] [0,1,2,3,4,5,6,7,8] [⟨0,false,[],[([7],[7])]⟩,⟨1,false,[],[([7],[7])]⟩,⟨2,false,[],[([7],[7])]⟩,⟨3,false,[],[([7],[7])]⟩,⟨4,false,[],[([7],[7])]⟩,⟨5,false,[],[([7],[7])]⟩,⟨6,false,[],[([7],[7])]⟩,⟨7,true,[7],[]⟩,⟨8,true,[7,8],[]⟩] (λD=>bif isDone 8 D then P1 o++[.cells (h.map iv) 83,.cells [wv own] 79]else bif isDone 7 D then P1 o++[.cells (h.map iv) 83,.cells [.val (.int .u16 0)] 79]else P1 o++[.cells (h.map iv) 83]) ?_;simp only[seval,eE,wz,pb1,ps1,p0,p1,h4,nw,QS,G5 hs,jR dN];have hmE:Un 4 (U2 (λn=>AV.val (SG SF n)) h)=h.map iv:=SY (by rw[nw];exact SU _);rw[hmE];refine iG (wv own) (cO (Ep (h:=h) (y:=y) o6 ⟨by rw[jg],rfl⟩)) ?_;refine⟨iG (wv own) (cO (Ep (h:=h) (y:=y) o6 ⟨by rw[jg],rfl⟩)) rfl,?_⟩;(try simp only[seval,wv]);have hm3:U2 (λn=>AV.val (SG SF n)) h=h.map iv:=rfl;rw[hm3];refine ak ?_;simp only[seval,pb1];refine aD ?_;refine⟨λhz=> ?_,λhz=> ?_⟩
    ·refine bU ?_;have fh:own=0:=(by simpa using hz);have e1:vo w y q o h=o:=(by unfold vo;rw[<- jg,if_pos fh]);rw[e1]at dH;show oQ _ _ _ _ _ _ _;refine⟨l,.busy,none,fn,_,97,#[51],_,_,N+2,by show (P1 _++_)[_]?=_;rw[Mo,ld],?_⟩;show cw C ((P1 _++_).set _ _) _ k;rw[MH];rw[SD]at dH;exact jU (G:=[.cells (h.map iv) 83,.cells [wv own] 79]) (Wk.refl _) rfl (by rw[hC];simp[pZ];omega) oo (.val _) dH
    ·refine aN ?_;refine ak ?_;simp only[seval,eE];refine ak ?_;simp only[seval,p5,wz,Rk,h4,nw];have akg:Un 4 (U2 iv h)=h.map iv:=SY (by rw[nw];exact SU _);rw[akg];refine aK ((I0 (x:=w) (h:=h) (deep:=1) ?_));(try simp only[seval]);have fh:own≠0:=(by simpa using hz);have aks:own<65536:=by
      rw[jg];have:b_ h y<2^9:=D_;omega
     refine cJ ?_;refine D6 (N+3) (by rfl) (by show (P1 _++_)[N+3]?=_;rw[Mo,ld]) λl2 eW T2 gE gF oq xr xv=> ?_;simp only[seval];rw[eE]at oq⊢;have okm:∀v m m',(∀z∈[aa.cells (h.map iv) 83,.cells [wv own] 79,.cells [wv m] 79,.cells w.l 76,.cells (h.map iv) 83,.cells [iv 1] 3,.loop l2 .ready none eW T2 97 #[64] gE gF (N+2)],fj v z)->∀z∈[aa.cells (h.map iv) 83,.cells [wv own] 79,.cells [wv m'] 79,.cells w.l 76,.cells (h.map iv) 83,.cells [iv 1] 3,.loop l2 .ready none eW T2 97 #[64] gE gF (N+2)],fj v z:=λv m m' hz z fh=>by
      simp only[SL,S4,or_false]at fh;rcases fh with rfl|rfl|rfl|rfl|rfl|rfl|rfl
      ·exact hz _ (by simp)
      ·exact hz _ (by simp)
      ·intro a ha;rw[Tb]at ha;subst ha;exact .val _
      ·exact hz _ (by simp)
      ·exact hz _ (by simp)
      ·exact hz _ (by simp)
      ·exact hz (.loop l2 .ready none eW T2 97 #[64] gE gF (N+2)) (by simp)
     have xp:jP lv SC (.fn (.yield l2) [] []) (λm t=> .go (qT own q m t)) (λm:Int×Nat=>P1 m.1++[.cells (h.map iv) 83,.cells [wv own] 79,.cells [wv m.2] 79,.cells w.l 76,.cells (h.map iv) 83,.cells [iv 1] 3,.loop l2 .ready none eW T2 97 #[64] gE gF (N+2)]) (C+7) (λm=>m.2<65536) (jv w) (.aJ []):=by
      refine⟨λm t M2 k2 xZ hm ht lj=> ?_,λm t m' hm ht he=> ?_,λm=>by simp[eE],λv m m' hz z fh=> ?_,rfl,rfl,rfl⟩
      ·obtain⟨o2,met⟩:=m;replace hm:met<65536:=hm;have qq:=ht.len;have zL:(t.map iv).length=11:=(by rw[To,qq]);simp only[c_]at lj;have FV:w.pieces.length=x.pieces.length:=(by rw[hw];rfl);obtain⟨n,lS,hn9,_⟩:=ht.num q (by rw[FV];exact hq);have FM:mz t q=n:=(by unfold mz;rw[SE,lS];rfl);obtain⟨pK,sM⟩:∃Lo,Lo=aa.loop l2 .busy none eW T2 97 #[64] gE gF (N+2):=⟨_,rfl⟩;obtain⟨D,hD⟩:∃D,D=C+7+M2.length:=⟨_,rfl⟩;obtain⟨Q1,gp⟩:∃Q1:Int->Nat->List aa,∀o m,Q1 o m=P1 o++([.cells (h.map iv) 83,.cells [wv own] 79,.cells [wv m] 79,.cells w.l 76,.cells (h.map iv) 83,.cells [iv 1] 3,pK]++M2):=⟨_,λ_ _=>rfl⟩;have Qo:∀o m,(Q1 o m).length=D:=λo m=>(by rw[gp,hD];simp[eE];omega);have q2:∀o m L,(Q1 o m++L)[H.length+2]?=some (.cells [iv q] 3):=λo m L=>(by rw[gp,SD];exact p2 _ _);have q6:∀o m L,(Q1 o m++L)[H.length+6]?=some (.cells [iv o] 3):=λo m L=>(by rw[gp,SD];exact p6 _ _);have qs6:∀o o' m L,(Q1 o m++L).set (H.length+6) (.cells [iv o'] 3)=Q1 o' m++L:=λo o' m L=>(by rw[gp o,gp o',SD (P1 o),SD (P1 o')];exact ps6 _ _ _);have qo:∀o m L,(Q1 o m++L)[C+1]?=some (.cells [wv own] 79):=λo m L=>(by rw[gp,SD,pb];rfl);have qm:∀o m L,(Q1 o m++L)[C+2]?=some (.cells [wv m] 79):=λo m L=>(by rw[gp,SD,pb];rfl);have qsm:∀o m m' L,(Q1 o m++L).set (C+2) (.cells [wv m'] 79)=Q1 o m'++L:=λo m m' L=>(by rw[gp o m,gp o m',SD (P1 o),Ae,SD (P1 o)];rfl);have ql:∀o m L,(Q1 o m++L)[C+6]?=some pK:=λo m L=>(by rw[gp,SD,pb];rfl);have qsl:∀o m L y,(Q1 o m++L).set (C+6) y=(P1 o++([.cells (h.map iv) 83,.cells [wv own] 79,.cells [wv m] 79,.cells w.l 76,.cells (h.map iv) 83,.cells [iv 1] 3,y]++M2))++L:=λo m L y=>(by rw[gp,SD,Ae];simp);have qc:∀o m (L:List aa),(Q1 o m++L)[D]?=L[0]?:=λo m L=>(by rw[<- Qo o m];exact aW _ L 0);have GK:∀o (L:List aa),(P1 o++L)[C+6]?=L[6]?:=λo L=>pb o L 6;have vZ:∀(o':Int)(m':Nat)(G:List aa),bQ (P1 o2++([aa.cells (h.map iv) 83,.cells [wv own] 79,.cells [wv met] 79,.cells w.l 76,.cells (h.map iv) 83,.cells [iv 1] 3,.loop l2 .ready none eW T2 97 #[64] gE gF (N+2)]++M2))->k2 (.val (.bool true)) (P1 o'++([aa.cells (h.map iv) 83,.cells [wv own] 79,.cells [wv m'] 79,.cells w.l 76,.cells (h.map iv) 83,.cells [iv 1] 3,.loop l2 .ready none eW T2 97 #[64] gE gF (N+2)]++M2))->cw D ((Q1 o' m'++G).set (C+6) (.loop l2 .ready none eW T2 97 #[64] gE gF (N+2))) (.val (.bool true)) k2:=λo' m' G am aE=>by
        rw[qsl];refine jU (G:=G) (Wk.refl _) rfl (by rw[hD];simp[eE];omega) ?_ (.val _) aE;intro z hz;have hlen:(P1 o'++([aa.cells (h.map iv) 83,.cells [wv own] 79,.cells [wv m'] 79,.cells w.l 76,.cells (h.map iv) 83,.cells [iv 1] 3,.loop l2 .ready none eW T2 97 #[64] gE gF (N+2)]++M2)).length=(P1 o2++([aa.cells (h.map iv) 83,.cells [wv own] 79,.cells [wv met] 79,.cells w.l 76,.cells (h.map iv) 83,.cells [iv 1] 3,.loop l2 .ready none eW T2 97 #[64] gE gF (N+2)]++M2)).length:=(by simp[eE]);rw[hlen];rcases SV.1 hz with h'|h'
        ·exact zZ _ o2 o' (λz hz=>am z (Th _ hz)) z h'
        ·rcases SV.1 h' with h'|h'
         ·exact okm _ met m' (λz hz=>am z (S5 _ (Th _ hz))) z h'
         ·exact am z (S5 _ (S5 _ h'))
       subst oq xr xv;rw[SD];refine vC (id:=C+6) (by rw[GK];rfl) rfl (by kernel_rfl) λrh Jq=> ?_;simp only[sf];have BW:UD 11 [iv 0,iv 0,iv 0,iv 0,iv 0,iv 0,iv 0,iv 0,iv 0,iv 0,iv 0]=[]:=rfl;refine ak ?_;simp only[seval,qq,BW];unfold tT;refine⟨none,eW,_,97,#[64],_,_,_,by rw[GK];rfl,?_⟩;dsimp only;rw[Ae];simp only[UC,TY];rw[<- sM];have Bx:(P1 o2).length+(M2.length+1+1+1+1+1+1+1)=D:=(by rw[eE,hD];omega);rw[Bx];have iO:∀z:aa,(P1 o2++aa.cells (U2 iv h) 83::aa.cells [AV.val (SG S7 ↑own)] 79::aa.cells [AV.val (SG S7 ↑met)] 79::aa.cells w.l 76::aa.cells (U2 iv h) 83::aa.cells [AV.val (SG SF 1)] 3::pK::(M2++[z]))=Q1 o2 met++[z]:=λz=>(by rw[gp];simp[iv]);rw[iO];have b4:(0<=(q:Int)/\(q:Int)<4)=True:=(by simp;omega);have o4:=kW (i:=4+q) lS;refine ak ?_;simp only[seval,q2,qc,b4,o4];refine ak ?_;simp only[seval,qm];refine aK ((ug (m:=met) (n:=n) hm ?_));(try simp only[seval]);refine aD ?_;refine⟨λhb=> ?_,λhb=> ?_⟩
       ·refine bU ?_;have e1:qT own q (o2,met) t=(o2,met):=(by unfold qT;rw[FM,if_pos hb]);rw[e1]at lj;rw[SD]at lj;show oQ _ _ _ _ _ _ _;refine⟨l2,.busy,none,eW,_,97,#[64],_,_,N+2,by show (Q1 _ _++_)[_]?=_;rw[ql,sM],?_⟩;exact vZ o2 met _ rh lj
       ·refine aN ?_;have dq:met.testBit n=false:=(by simpa using hb);have e1:qT own q (o2,met) t=(CR (fC own 0 16) n o2,met|||2^n):=(by unfold qT;rw[FM,if_neg (by simpa using hb)]);rw[e1]at lj;rw[SD]at lj;refine ak ?_;simp only[seval,qm];refine aK ((uh (m:=met) (n:=n) hm (by omega) ?_));(try simp only[seval,qm,qsm,wv]);refine ak ?_;simp only[seval,qo];refine aK ((En (s:=own) (more:=0) aks (by decide) ?_));(try simp only[seval,bk]);have Rg:∀v∈fC own 0 16,0<=v/\v<16:=λv hv=>by
         unfold fC at hv;obtain⟨j,hj,rfl⟩:=Tn.1 hv;have:=TG.1 (Uj.1 hj).1;omega
        have je:=LV own 0 16;generalize fC own 0 16=ls at Rg je lj⊢;obtain⟨oj,gX⟩:∃oj:Nat->Int,∀j,oj j=CR (ls.take j) n o2:=⟨_,λ_=>rfl⟩;have aku:oj 0=o2:=(by rw[gX];rfl);generalize met|||2^n=aaJ at lj⊢;refine cJ ?_;refine gP ls.length (λj:Nat=>[(78,iv j)]) (λj=>Q1 (oj j) aaJ++[.cells (t.map iv) 86]) (λ_=>True) (λ_ _=>rfl) (by simp only[seval];simp[bA,Wk.refl]) (by rw[aku]) (λ_ _ _=>by simp[Qo]) trivial (λcp dz j o_ _ R hR=> ?_);clear cp dz;refine ai ?_;refine aD ?_;refine⟨λh1=> ?_,λh1=> ?_⟩
        ·have eR:j<ls.length:=(by omega);obtain⟨v,hv⟩:=cz eR;have hvb:=Rg v (wn hv);have dg:oj (j+1)=aaQ n (oj j) v:=by
          rw[gX,gX,CR,CR];obtain⟨aj8,uF⟩:=SN.1 hv;rw[XL aj8,XP,uF];rfl
         have hwa:SF.wrap (v-(n:Int))=v-n:=bI _ (by omega);have FU:SF.wrap ((n:Int)-v)=n-v:=bI _ (by omega);have fU:SF.wrap ((j:Int)+1)=((j+1:Nat):Int):=(by rw[bI _ (by omega)];rfl);have ajc:(2<=2^24)=True:=eq_true (by decide);refine aN ?_;refine ak ?_;simp only[seval,fN hv,jR eR];refine ak ?_;simp only[seval,q6,z2,ajc,hwa,FU];have Ca:(if v-(n:Int)<(n:Int)-v then(n:Int)-v else v-(n:Int))=max (v-n) (n-v):=(by split<;>omega);rw[Ca];refine aK ((ahZ (ns:=[oj j,max (v-n) (n-v)]) (by simp) ?_));(try simp only[seval,q6,qs6]);refine ak ?_;simp only[seval,fU];refine hR _ ⟨eR,trivial,?_⟩;rw[dg];exact dE
        ·have xH:j=ls.length:=(by omega);subst xH;refine bU ?_;show oQ _ _ _ _ _ _ _;refine⟨l2,.busy,none,eW,_,97,#[64],_,_,N+2,by show (Q1 _ _++_)[_]?=_;rw[ql,sM],?_⟩;exact vZ (oj ls.length) aaJ _ rh (by rw[gX,TP];exact lj)
      ·cases he;show (qT own q m t).2<65536;unfold qT;split
       ·exact hm
       ·obtain⟨n,lS,hn9,_⟩:=ht.num q (by rw[hw];exact hq);have FM:mz t q=n:=(by unfold mz;rw[SE,lS];rfl);rw[FM];exact pD hm (wH (by omega))
      ·rcases SV.1 fh with h'|h'
       ·exact zZ v m.1 m'.1 (λz uI=>hz z (Th _ uI)) z h'
       ·exact okm v m.2 m'.2 (λz uI=>hz z (S5 _ uI)) z h'
     refine cO (I3 (x:=w) (h:=h) (deep:=1) (ir:=C+3) (ih:=C+3+1) (id:=C+3+2) (σ:=(o,0)) K9 o6 xp (λm L=> ?_) (λm L=> ?_) (λm L=> ?_) (λn=>by simp[iE]) (show (0:Nat)<65536 by decide) (λa ha=>ha.len) Cr ?_)
     ·rw[SD];exact pb _ _ 3
     ·rw[SD];exact pb _ _ 4
     ·rw[SD];exact pb _ _ 5
     rw[C3 (g:=qT own q) (λ_ _=>rfl)];simp only[gg,SZ];have e1:vo w y q o h=((jo w 1 h).foldl (qT own q) (o,0)).1:=(by unfold vo;rw[<- jg,if_neg fh]);generalize(jo w 1 h).foldl (qT own q) (o,0)=r at e1⊢;rw[e1]at dH;have GK:∀o (L:List aa),(P1 o++L)[C+6]?=L[6]?:=λo L=>pb o L 6;refine⟨.ready,none,_,_,_,_,_,_,_,by rw[GK];rfl,by decide,?_⟩;rw[Ae,GN];(try simp only[seval]);show oQ _ _ _ _ _ _ _;refine⟨l,.busy,none,fn,_,97,#[51],_,_,N+2,by show (P1 _++_)[_]?=_;rw[Mo,ld],?_⟩;show cw C ((P1 _++_).set _ _) _ k;rw[MH];rw[SD]at dH;exact jU (G:=[.cells (h.map iv) 83,.cells [wv own] 79,.cells [wv r.2] 79,.cells w.l 76,.cells (h.map iv) 83,.cells [iv 1] 3,.gone]) (Wk.refl _) rfl (by rw[hC];simp[pZ];omega) (okX _ o r.1 oo) (.val _) dH
   ·rcases SV.1 fh with h'|h'
    ·exact Mc m o o' (λz uI=>hz z (Th _ uI)) z h'
    ·exact hz z (S5 _ h')
  refine cO (I1 (x:=w) (bh:=i) (ir:=N) (it:=N+1) (σ:=fo i) K9 hY (λo L=> ?_) (λo L=> ?_) p_ (λn=>by simp[iE]) trivial (λa ha=>Jo a ha) ?_)
  ·rw[SD];exact ag _ _ 0
  ·rw[SD];exact ag _ _ 1
  rw[C3 (g:=vo w y q) (λ_ _=>rfl)];simp only[gg,SZ];have hfx:(kG w i).foldl (vo w y q) (fo i)=fo (i+1):=by rw[v4,v4,yK]
  rw[hfx];have xV:SF.wrap ((i:Int)+1)=((i+1:Nat):Int):=by rw[bI _ (by omega)];rfl
  refine⟨.ready,none,_,_,_,_,_,_,_,by show (AO _++_)[N+3]?=_;rw[ag];rfl,by decide,?_⟩;rw[show N+2+1=N+3 from rfl,tW,GM];(try simp only[seval]);refine D7 ?_;refine ak ?_;simp only[seval,xV];refine⟨i+1,?_,by omega,fP (by push_cast;simp only[seval];simp[bA,Wk.refl]) (by rw[pY,oT,SD];rfl),by rw[wY,hN]⟩;show p+1-(i+1)<p+1-i;omega
 ·have cS:i=p+1:=by omega
  subst cS;refine bU ?_;have HW:∀o,(AO o)[H.length+6]?=some (.cells [iv o] 3):=λo=>by have:=a6 o [];rwa [SZ]at this
  have nK:x.an.toNat=p:=by omega
  rw[nK]at hk;have aE:=hk (fo (p+1)) (by rw[v4,hw]);generalize fo (p+1)=o at aE⊢;(try refine ng ?_);refine ak ?_;simp only[seval,HW];obtain⟨Y,vN⟩:=N2 w (Bo o) (p+1) [];rw[SZ,fS]at vN;have Qw:iK (wY (H.length+7) (p+1)) (AO o)=some (H++([.cells x.l 26,.cells [iv s] 3,.cells [iv q] 3,.cells x.l 26,.cells [.sl 1 [iv q] .exact] 22,.cells w.l 76,.cells [iv o] 3]++Y)):=by rw[pY,vN,re,SD]
  (try refine ng ?_);refine aD ?_;refine⟨λho=> ?_,λho=> ?_⟩
  ·have aO:o<0:=(by simpa using ho);rw[if_pos aO,if_pos aO]at aE;refine ai ?_;refine aZ ?_;refine ew Qw ?_;(try simp only[seval]);exact iJ hH (Wk.refl _) (by simp[iE,eG]) aE
  ·have aO:¬o<0:=(by simpa using ho);rw[if_neg aO,if_neg aO]at aE;refine aN ?_;refine Ia ?_;have HW:∀o,(AO o)[H.length+6]?=some (.cells [iv o] 3):=λo=>(by have:=a6 o [];rwa [SZ]at this);refine ak ?_;simp only[seval,HW];refine aZ ?_;refine ew Qw ?_;(try simp only[seval]);exact iJ hH (Wk.refl _) (by simp[iE,eG]) aE
end
open Go.Conc
section
variable (lv:Bool)(P:SK)
def wL (s:AS)(o:Tx)(next:AS->Prop):Prop:=match o.op with
 |.buildSlice t len parts=>ap (qR P t) λ(e,sz,z)=>len* sz<=2^24/\ap (j8 s parts.toList) λl9=>ap (oh (ig.at (.elems sz)) (gM z (len* sz)) l9) λl=>next ((⟨s.T,s.H++[.cells l e]⟩:AS).put o.dst (.bK s.H.length 0 len len))
 |.call c=>match c.callee with
  |.builtin .append=>match c.args.toList,c.argTypes.toList with
   |[x,y],[t,t']=>ap (jL P t t') λ(elem,sz,_)=>ap (s.ev x) λa=>ap (s.ev y) λb=>a.vt λn l e=>e=.exact/\ap (s.src sz b) λ(m,l')=>l.length=n* sz/\l'.length=m* sz/\n+m<=2^30/\0<m/\next ((⟨s.T,s.H++[.own sz (l++l') elem]⟩:AS).put o.dst (.bK s.H.length 0 (n+m) 0))
   |_,_=>False
  |_=>False
 |_=>False
def qM (m:Nat):Nat->List Tx->AS->(AS->Prop)->(AV->AS->Prop)->Prop
 |_,[],s,K,_=>K s
 |k,o::rest,s,K,bad=>o.guard=none/\(bif k==m then wL P s o (λs'=>qM m (k+1) rest s' K bad)else mB lv P s o (λs'=>qM m (k+1) rest s' K bad) bad)
end
section
variable {lv:Bool}{P:SK}{r:Option Nat}{s:AS}
theorem wL.step{o:Tx}{next:AS->Prop}{bad:AV->AS->Prop}(h:wL P s o next):Step lv P r o s next bad:=by
 unfold wL at h;split at h
 ·rename_i t len parts ho;obtain⟨⟨e,sz,z⟩,h1,h2,h⟩:=h.out;obtain⟨l9,h3,h⟩:=h.out;obtain⟨l,h4,h⟩:=h.out;exact acy ho h1 h2 h3 h4 h
 ·rename_i c ho;split at h
  ·rename_i aY;split at h
   ·rename_i x y t t' ha dV;obtain⟨⟨elem,sz,z⟩,h1,hA⟩:=h.out;obtain⟨a,h2,hB⟩:=hA.out;obtain⟨b,h3,hC⟩:=hB.out;obtain⟨n,l,e,e1,e0,hD⟩:=N3 hC;subst e1 e0;obtain⟨⟨m,l'⟩,h4,h5,h6,h7,h8,h9⟩:=hD.out;exact acw ho aY (nf ha) (sd dV) h1 h2 h3 h4 h5 h6 h7 h8 h9
   ·exact h.elim
  ·exact h.elim
 ·exact h.elim
theorem qM.acn{m:Nat}{K:AS->Prop}{bad:AV->AS->Prop}:∀(l:List Tx)(k:Nat)(s:AS),qM lv P m k l s K bad->AP lv P r l s K bad
 |[],k,s,h=>h
 |o::rest,k,s,h=>by
  obtain⟨h1,h2⟩:=h;refine⟨h1,?_⟩;have hs:∀{s'},qM lv P m (k+1) rest s' K bad->AP lv P r rest s' K bad:=λ{s'} h=>qM.acn rest (k+1) s' h;cases hkm:(k==m)<;>rw[hkm]at h2<;>simp only[cond_true,cond_false]at h2
  rotate_left
  ·exact(wL.step h2).mono (λ_ h=>hs h) (λ_ _ h=>h)
  ·exact(mB.sound (r:=r) h2).mono (λ_ h=>hs h) (λ_ _ h=>h)
theorem ae6{nt id:Nat}{ops:Array Tx}{Φ:ao->AS->Prop}(m:Nat)(hd:jT nt ops=true)(h:qM lv P m 0 ops.toList s (Φ .normal) (λpv s=>Φ (.panic pv) s)):aX lv P r nt (.region id ops false) s Φ:=ae7 hd (h.acn ops.toList 0 s)
end
theorem ad3:type_of% @wL.eq_1:=by intros;rw[wL.eq_1]
theorem anf:type_of% @qM.eq_1:=by intros;rw[qM.eq_1]
theorem ane:type_of% @qM.eq_2:=by intros;rw[qM.eq_2]
attribute [seval] ad3 anf ane
open Go.Proofs Go.Gg.Tk
namespace Tk
def fM:aj:=⟨10,3,2,[⟨2,⟨12,13⟩⟩],[⟨⟨10,12⟩,⟨0,1⟩⟩,⟨⟨11,11⟩,⟨0,2⟩⟩,⟨⟨12,15⟩,⟨1,2⟩⟩],[⟨⟨12,12⟩,⟨0,2⟩⟩,⟨⟨10,15⟩,⟨2,2⟩⟩]⟩
def tD:aj:={fM with aB:=[⟨⟨15,15⟩,⟨0,0⟩⟩,⟨⟨10,15⟩,⟨2,2⟩⟩]}
end Tk
theorem ads:gM (TD #[SG .i64 0,SG .i64 0,SG .i64 0]) 3=[iv 0,iv 0,iv 0]:=rfl
theorem adr:gM (TD #[SG .i64 0,SG .i64 0,SG .i64 0,SG .i64 0]) 12=TL 12 (iv 0):=rfl
theorem adq:gM (TD #[SG .i64 0,SG .i64 0,SG .i64 0,SG .i64 0]) 8=[iv 0,iv 0,iv 0,iv 0,iv 0,iv 0,iv 0,iv 0]:=rfl
theorem abL:TL 12 (iv 0)=[iv 0,iv 0,iv 0,iv 0,iv 0,iv 0,iv 0,iv 0,iv 0,iv 0,iv 0,iv 0]:=rfl
theorem abl:(3<=2^24)=True:=eq_true (by decide)
theorem abm:(8<=2^24)=True:=eq_true (by decide)
theorem abk:(12<=2^24)=True:=eq_true (by decide)
section
variable {lv:Bool}{H:List aa}{k kp:AV->List aa->Prop}
theorem xf(hk:k fM.av H):bc lv SC 53 H [] k kp:=by
 refine bH (rs:=[.cell 0 26]) (nt:=11) ao' λhH hA=> ?_;simp only[br,SX];refine ai ?_;refine ai ?_;refine aK ((PD (a:=2) (b:=12) (c:=13) ?_));(try simp only[seval,Seen.av,Seen.l,jq.av,ads,abl]);refine aK ((qZ (a:=10) (b:=12) (c:=0) (d:=1) ?_));(try simp only[seval]);refine aK ((qZ (a:=11) (b:=11) (c:=0) (d:=2) ?_));(try simp only[seval]);refine aK ((qZ (a:=12) (b:=15) (c:=1) (d:=2) ?_));(try simp only[seval,aH.av,aH.l,adr,abL,abk]);refine aK ((qZ (a:=12) (b:=12) (c:=0) (d:=2) ?_));(try simp only[seval]);refine aK ((qZ (a:=10) (b:=15) (c:=2) (d:=2) ?_));have aS:∀(L:List aa),(H++L)[H.length]?=L[0]?:=λL=>aW H L 0;have dM:∀(L:List aa)(y:aa),(H++L).set H.length y=H++L.set 0 y:=λL y=>ez H L 0 y;(try simp only[seval,aH.av,aH.l,adq,abm,aS,dM]);refine oU ?_;simp only[seval,aS];refine iJ hH (b:=fM.av) (Np (.cons (Wk.refl _) (.cons (Wk.refl _) (.cons (Wk.refl _) (.cons (iX _ _ _) (.cons (iX _ _ _) (.cons (iX _ _ _) .nil))))))) (by rw[Gi];trivial) hk
theorem ahT(hk:∀X:aa,k (.agg [iv 10,iv 3,iv 2,.sl 1 (fM.seen.flatMap Seen.l) .exact,.sl 3 (fM.pieces.flatMap aH.l) .exact,.bK (H.length+1) 0 2 2]) (H++[X,.cells (fM.aB.flatMap aH.l) 48])):bc lv SC 53 H [] k kp:=by
 refine bH (rs:=[.cell 0 26]) (nt:=11) ao' λhH hA=> ?_;simp only[br,SX];refine ai ?_
 (repeat apply gQ);refine ae6 8 (by kernel_rfl) ?_
 simp only[seval];refine aK ((PD (a:=2) (b:=12) (c:=13) ?_));(try simp only[seval,Seen.av,Seen.l,jq.av,ads,abl]);refine aK ((qZ (a:=10) (b:=12) (c:=0) (d:=1) ?_));(try simp only[seval]);refine aK ((qZ (a:=11) (b:=11) (c:=0) (d:=2) ?_));(try simp only[seval]);refine aK ((qZ (a:=12) (b:=15) (c:=1) (d:=2) ?_));(try simp only[seval,aH.av,aH.l,adr,abL,abk]);refine aK ((qZ (a:=12) (b:=12) (c:=0) (d:=2) ?_));(try simp only[seval]);refine aK ((qZ (a:=10) (b:=15) (c:=2) (d:=2) ?_));have aS:∀(L:List aa),(H++L)[H.length]?=L[0]?:=λL=>aW H L 0;have dM:∀(L:List aa)(y:aa),(H++L).set H.length y=H++L.set 0 y:=λL y=>ez H L 0 y;(try simp only[seval,aH.av,aH.l,adq,abm,aS,dM]);refine oU ?_;simp only[seval,aS];exact cm (hk _)
theorem ahU(hk:k tD.av H):bc lv SC 54 H [] k kp:=by
 refine bH (rs:=[.cell 0 26]) (nt:=8) Tryz.f54 λhH hA=> ?_;simp only[br,SX];have eF:∀(L:List aa)(j:Nat),(H++L)[H.length+j]?=L[j]?:=λL j=>aW H L j;have zI:∀(L:List aa)(j:Nat)(y:aa),(H++L).set (H.length+j) y=H++L.set j y:=λL j y=>ez H L j y;have aS:∀(L:List aa),(H++L)[H.length]?=L[0]?:=λL=>aW H L 0;have dM:∀(L:List aa)(y:aa),(H++L).set H.length y=H++L.set 0 y:=λL y=>ez H L 0 y;refine ai ?_;refine ai ?_;refine aK ((ahT (λX=> ?_)));simp only[SD,VE,Uw];have ki:∀(L:List aa),(H++L)[H.length+2]?=L[2]?:=λL=>aW H L 2;have fY:∀(L:List aa)(y:aa),(H++L).set (H.length+2) y=H++L.set 2 y:=λL y=>ez H L 2 y;have zp:∀(L:List aa),(H++L)[H.length+3]?=L[3]?:=λL=>aW H L 3;have po:∀(L:List aa)(y:aa),(H++L).set (H.length+3) y=H++L.set 3 y:=λL y=>ez H L 3 y;have hrx:fM.aB.flatMap aH.l=[iv 12,iv 12,iv 0,iv 2,iv 10,iv 15,iv 2,iv 2]:=rfl;rw[hrx];have e2:H.length+1+1=H.length+2:=rfl;(try simp only[seval,zp,po,e2]);refine eO 4 ?_;simp only[seval,ki,fY,zp];refine iG _ (cO (qZ (a:=15) (b:=15) (c:=0) (d:=0) ⟨rfl,rfl⟩)) ?_;(try simp only[seval,aH.av,aH.l,ki,fY]);obtain⟨rs,Cm⟩:∃rs,rs=tD.aB.flatMap aH.l:=⟨_,rfl⟩;have ak1:[AV.val (SG SF 15),AV.val (SG SF 15),AV.val (SG SF 0),AV.val (SG SF 0),AV.val (SG SF 10),AV.val (SG SF 15),AV.val (SG SF 2),AV.val (SG SF 2)]=rs:=by rw[Cm];rfl
 have uD:rs.length=8:=by rw[Cm];rfl
 rw[ak1];refine ak ?_;simp only[seval,aS,dM,zp]
 (repeat apply gQ);refine H9 (id:=H.length+2) (by simp only[seval,ki]<;>rfl) ?_
 simp only[seval,fY,uD]
 (repeat apply gQ);refine afc (id:=H.length) (j:=5) (y:=bi tD.aB) (by simp only[seval,aS]<;>rfl) rfl ?_ ?_
 ·have e:bi tD.aB=.sl 2 (rs.take 8) .shut:=by rw[SY (by omega),Cm];rfl
  rw[e];exact No (p:=8) (by simp only[seval,ki]<;>rfl) (by omega) (by omega)
 (try simp only[seval,dM]);refine oU ?_;simp only[seval,aS];refine iJ hH (b:=tD.av) (Np (.cons (Wk.refl _) (.cons (Wk.refl _) (.cons (Wk.refl _) (.cons (iX _ _ _) (.cons (iX _ _ _) (.cons (Wk.refl _) .nil))))))) (by rw[Gi];trivial) hk
end
open Go.Gg.Tk
theorem yj:fM.Ok:=by
 refine⟨by decide,by decide,by decide,by decide,by decide,by decide,λs hs=> ?_,λy hy=> ?_,λy hy=> ?_⟩
 ·simp only[fM,Tb]at hs;subst hs;exact⟨by decide,by decide,by decide,by decide⟩
 ·simp only[fM,SL,S4,or_false]at hy;rcases hy with rfl|rfl|rfl<;>exact⟨⟨by decide,by decide,by decide⟩,⟨by decide,by decide,by decide⟩⟩
 ·simp only[fM,SL,S4,or_false]at hy;rcases hy with rfl|rfl<;>exact⟨⟨by decide,by decide,by decide⟩,⟨by decide,by decide,by decide⟩⟩
theorem ang:tD.Ok:=by
 refine⟨by decide,by decide,by decide,by decide,by decide,by decide,λs hs=> ?_,λy hy=> ?_,λy hy=> ?_⟩
 ·simp only[tD,fM,Tb]at hs;subst hs;exact⟨by decide,by decide,by decide,by decide⟩
 ·simp only[tD,fM,SL,S4,or_false]at hy;rcases hy with rfl|rfl|rfl<;>exact⟨⟨by decide,by decide,by decide⟩,⟨by decide,by decide,by decide⟩⟩
 ·simp only[tD,SL,S4,or_false]at hy;rcases hy with rfl|rfl<;>exact⟨⟨by decide,by decide,by decide⟩,⟨by decide,by decide,by decide⟩⟩
theorem ahc:cnt fM=4:=by kernel_rfl
theorem ahf:live fM=[[10,11,13,14],[10,11,13,15],[10,12,13,14],[10,12,13,15]]:=by kernel_rfl
theorem ahd:(bx fM).head?=some ⟨[10,11,13,14],[12,11,13],[0,2]⟩:=by kernel_rfl
theorem ahg:iI (CV fM 2) 10 16=[13,14]:=by kernel_rfl
theorem Ps:tE fM 0 0=true/\CZ fM 0 0=false:=by decide+kernel
theorem Pq:Ev tD=some [0]:=by kernel_rfl
theorem aha:yK (fM.wo [1]) ⟨⟨10,15⟩,⟨2,2⟩⟩ 0 3=1:=by kernel_rfl
open Go.Conc Go.Proofs
theorem Tk.Bounds.of_map{l:List (List Int)}{g:List Int->List Int}{v w:List Int->Int}{a b:Int}(h:Bounds (l.map g) v a b)(e:∀y∈l,v (g y)=w y):Bounds l w a b:=by
 obtain⟨g1,m1,e1⟩:=h.F3;obtain⟨g2,m2,e2⟩:=h.F2;obtain⟨y1,n1,rfl⟩:=Tn.1 m1;obtain⟨y2,n2,rfl⟩:=Tn.1 m2;exact⟨⟨y1,n1,e1.trans (e y1 n1)⟩,λy hy=>by rw[<- e y hy];exact h.le _ (Tn.2 ⟨y,hy,rfl⟩),⟨y2,n2,e2.trans (e y2 n2)⟩,λy hy=>by rw[<- e y hy];exact h.ge _ (Tn.2 ⟨y,hy,rfl⟩)⟩
theorem anG{h:List Int}{i:Nat}(hi:i<h.length):(cL h).getD i 0=h.getD i 0:=by
 unfold cL;rw[SE,SE,SW hi]
theorem amo{x:aj}{h:List Int}(hm:h∈live x):h.length=1+x.hours.toNat:=Kl (Uj.1 hm).1
theorem an5{x:aj}{D:Kn}(hx:x.Ok)(hD:eB x 0 D)(hh:D.has=true){hs:List (List Int)}(hp:hs.Perm D.aL)(v:List Int->Int)(w:List Int->Int)(e:∀y∈live x,v (cL y)=w y):Bounds (live x) w (hs.foldl (λb h=>b.add (v h)) (⟨0,0,false⟩:ie)).lo (hs.foldl (λb h=>b.add (v h)) (⟨0,0,false⟩:ie)).hi:=by
 have dp:=hp.trans (aaf hx hD);have aC:hs≠[]:=λh=>by
  rw[h]at dp;have:=dp.length_eq;rw[To]at this;have h0:live x=[]:=List.eq_nil_of_length_eq_zero this.symm;rw[(wi hx hD).2 (aax.1 h0)]at hh;cases hh
 exact((afN v aC).anp dp).of_map e
theorem F6{x:aj}{deep:Int}{D:Kn}(hx:x.Ok)(hD:eB x deep D)(hh:D.has=true):bx x≠[]:=λh=>by
 rw[(wi hx hD).2 h]at hh;cases hh
theorem aaI{α:Type}{f:Nat->α}{l:List α}{n:Nat}(d:α)(hl:l.length=n)(h:∀i,i<n->f i=l.getD i d):(S0 n).map f=l:=by
 refine Yo λi=> ?_;rw[Tj];by_cases hi:i<n
 ·rw[Xz hi,UN,h i hi,SE,SP (by omega)];rfl
 ·rw[Uu (by simp;omega),Uu (by omega)];rfl
theorem agP{x:aj}(hx:x.Ok){u:Tr}(hu:u∈bx x){s:Nat}(hs:s<x.aB.length):(dR u).getD (8+s) 0=((u.cg.getD s 0:Nat):Int):=by
 obtain⟨h1,h2⟩:=u6 hx hu;have h3:=(He hx hu).1;have hh:=hx.hours;have lq:=hx.cT;have h4:=wy (h:=u.bu) (by omega);have dN:s<u.cg.length:=by omega
 have hg:(dR u)[8+s]?=some ((u.cg[s]:Nat):Int):=by
  unfold dR di kQ;have h8:(cL u.bu++((u.aA.map λn=>(n-u.bu.headD 0).toNat).map (λn:Nat=>(n:Int))++TL (4-(u.aA.map λn=>(n-u.bu.headD 0).toNat).length) (-1))).length=8:=by simp[h4];omega
  rw[Tg (by omega),h8,UR,SW (by simpa using dN),Tj,SP dN];rfl
 rw[SE,hg,SE,SP dN];rfl
theorem aro{x:aj}{u:Tr}(hu:u∈bx x):u.bu.headD 0=x.first:=by
 obtain⟨h,a,b⟩:=S6.1 hu;rw[yp b];exact(zv _ _ _ (by simp) a).2
theorem ait{x:aj}(hx:x.Ok){u:Tr}(hu:u∈bx x):(dR u).take (x.hours.toNat+1)=u.bu:=by
 have hl:=(u6 hx hu).1;have hh:=hx.hours;have h1:(dR u).take (x.hours.toNat+1)=((dR u).take 4).take (x.hours.toNat+1):=by rw[U1,Wx (by omega)]
 rw[h1,IR hx hu];exact Mj (by omega)
theorem aiu{x:aj}(hx:x.Ok){u:Tr}(hu:u∈bx x):sJ x (dR u) x.pieces.length=u.aA:=by
 unfold sJ;refine aaI 0 (u6 hx hu).2 λi hi=> ?_;rw[IQ hx hu hi,aro hu];omega
theorem aiv{x:aj}(hx:x.Ok){u:Tr}(hu:u∈bx x):sK (dR u) x.aB.length=u.cg.map λn:Nat=>(n:Int):=by
 unfold sK;refine aaI 0 (by rw[To];exact(He hx hu).1) λi hi=> ?_;have hl:=(He hx hu).1;rw[agP hx hu hi,SE,SE,Tj,SP (by omega)];rfl
section
variable {H:List aa}{k kp:AV->List aa->Prop}{x:aj}
theorem ahC(hx:x.Ok)(hm:H[0]?=some .main)(hk:k (.aJ [iv (cnt x),iv 0]) H):bc true SC 21 H [x.av] k kp:=
 ahB hx hm λD hD=>by rw[count_eq hx hD];exact hk
theorem ahO{hour:Nat}(hx:x.Ok)(hh:(hour:Int)<=x.hours)(hm:H[0]?=some .main)(h0:bx x=[]->k (.aJ [.agg [iv 0,iv 0],iv 11]) H)(h1:∀lo hi,bx x≠[]->Bounds (live x) (λh=>h.getD hour 0) lo hi->k (.aJ [.agg [iv lo,iv hi],iv 0]) H):bc true SC 36 H [x.av,iv hour] k kp:=
 ahN hx hh hm λD hD=>⟨λhn=>h0 ((wi hx hD).1 hn),λhy hs hp=>h1 _ _ (F6 hx hD hy) (an5 hx hD hy hp (λh=>h.getD hour 0) _ λy pt=>anG (by rw[amo pt];have:=hx.hours;omega))⟩
theorem ahM{q:Nat}(hx:x.Ok)(hq:q<x.pieces.length)(hm:H[0]?=some .main)(h0:bx x=[]->k (.aJ [bk [],iv 11]) H)(h1:bx x≠[]->k (.aJ [bk (iI (CV x q) x.first 16),iv 0]) H):bc true SC 34 H [x.av,iv q] k kp:=
 ahL hx hq hm λD hD=>⟨λhn=>h0 ((wi hx hD).1 hn),λhy=>by rw[LU λn _=>anc hx hD hq n];exact h1 (F6 hx hD hy)⟩
theorem Py{q:Nat}(hx:x.Ok)(hq:q<x.pieces.length)(hm:H[0]?=some .main)(h0:bx x=[]->k (.aJ [bk [],iv 11]) H)(h1:bx x≠[]->k (.aJ [bk (iI (oD x q) 0 16),iv 0]) H):bc true SC 39 H [x.av,iv q] k kp:=
 ahP hx hq hm λD hD=>⟨λhn=>h0 ((wi hx hD).1 hn),λhy=>by rw[LU λn _=>akx hx hD hq n];exact h1 (F6 hx hD hy)⟩
theorem ahI{s q:Nat}(hx:x.Ok)(hs:s<x.aB.length)(hq:q<x.pieces.length)(hm:H[0]?=some .main)(hk:k (.aJ [iv (if(bx x).isEmpty then 0 else vM (tE x s q) (CZ x s q)),iv (if(bx x).isEmpty then 11 else 0)]) H):bc true SC 28 H [x.av,iv s,iv q] k kp:=
 ahH hx hs hq hm λD hD=>by rw[anI hx hD hs,Oq hx hD];exact hk
theorem Pz{a b:Nat}(hx:x.Ok)(ha:a<x.pieces.length)(hb:b<x.pieces.length)(hm:H[0]?=some .main)(h0:a=b->k (.aJ [iv 0,iv 8]) H)(hk:a≠b->k (.aJ [iv (if(bx x).isEmpty then 0 else vM (fK x a b) (fK x b a)),iv (if(bx x).isEmpty then 11 else 0)]) H):bc true SC 42 H [x.av,iv a,iv b] k kp:=
 ahR hx ha hb hm h0 λdl D hD=>by rw[afr hx hD ha hb,Oq hx hD];exact hk dl
def Bw (x:aj)(i:Nat):List Int:=(S0 i).flatMap λs=>if 1<(iI (tE x s) 0 16).length then[-1]else iI (tE x s) 0 16
theorem ahG(hx:x.Ok)(hm:H[0]?=some .main)(h0:bx x=[]->k (.aJ [bk [],iv 11]) H)(h1:bx x≠[]->k (.aJ [bk (Bw x x.aB.length),iv 0]) H):bc true SC 26 H [x.av] k kp:=
 ahF hx hm λD hD=>⟨λhn=>h0 ((wi hx hD).1 hn),λhy=>by
  have e:ui D.aV x.aB.length=Bw x x.aB.length:=by
   unfold ui Bw;refine Bq λs hs=> ?_;rw[LU λn _=>Mk hx hD (TG.1 hs) n]
  rw[e];exact h1 (F6 hx hD hy)⟩
theorem ahz(hx:x.Ok)(hm:H[0]?=some .main)(h0:bx x=[]->k (.aJ [bk [],bk [],bk [],iv 11]) H)(h1:∀u l,bx x=u::l->k (.aJ [bk u.bu,bk u.aA,bk (u.cg.map λn:Nat=>(n:Int)),iv 0]) H):bc true SC 18 H [x.av] k kp:=
 ahy hx hm λD hD=>⟨λhn=>h0 ((wi hx hD).1 hn),λhy=>by
  obtain⟨u,l,e1,e2⟩:=alA hx hD hy;have hu:u∈bx x:=by rw[e1];simp
  rw[e2,ait hx hu,aiu hx hu,aiv hx hu];exact h1 u l e1⟩
end
theorem Pr:(bx fM).isEmpty=false:=by kernel_rfl
theorem ahb{lo hi:Int}(h:Bounds (live fM) (λh=>h.getD 1 0) lo hi):lo=11/\hi=12:=by
 have k:Bounds (live fM) (λh=>h.getD 1 0) 11 12:=by
  rw[ahf];exact⟨⟨[10,11,13,14],by simp,rfl⟩,by decide,⟨[10,12,13,14],by simp,rfl⟩,by decide⟩
 exact h.uniq k
theorem ahe:Bw fM 2=[0,2]:=by kernel_rfl
theorem z3:gM (SG .i64 0) 3=[iv 0,iv 0,iv 0]:=rfl
theorem z4:gM (SG .i64 0) 4=[iv 0,iv 0,iv 0,iv 0]:=rfl
section
variable {H:List aa}{k kp:AV->List aa->Prop}
theorem ahA(hm:H[0]?=some .main)(hk:k (bv true) H):bc true SC 19 H [] k kp:=by
 have aC:bx fM≠[]:=λh=>by have:=Pr;rw[h]at this;cases this
 refine bH (rs:=[.tmp 0]) (nt:=138) Tryz.f19 λhH hA=> ?_;simp only[br,SX];have aS:∀(L:List aa),(H++L)[H.length]?=L[0]?:=λL=>aW H L 0;have dM:∀(L:List aa)(y:aa),(H++L).set H.length y=H++L.set 0 y:=λL y=>ez H L 0 y;refine ai ?_;refine ai ?_;refine aK ((xf ?_));(try simp only[seval]);refine aK ((ahC yj hm ?_));rw[ahc];(try simp only[seval]);refine ai ?_;refine aK ((xf ?_));(try simp only[seval]);refine aK ((ahO (hour:=1) yj (by decide) hm (λh=>absurd h aC) (λlo hi _ hb=> ?_)));obtain⟨rfl,rfl⟩:=ahb hb;(try simp only[seval,aS,dM]);refine ai ?_;refine aK ((xf ?_));(try simp only[seval]);refine aK ((ahM (q:=2) yj (by decide) (fF hm) (λh=>absurd h aC) (λ_=> ?_)));rw[show iI (CV fM 2) fM.first 16=[13,14]from ahg];(try simp only[seval]);refine ai ?_;refine aK ((xf ?_));(try simp only[seval]);refine aK ((ahI (s:=0) (q:=0) yj (by decide) (by decide) (fF hm) ?_));rw[Pr,Ps.1,Ps.2,show vM true false=1 from rfl];(try simp only[seval]);refine ai ?_;refine aK ((xf ?_));(try simp only[seval]);refine aK ((ahG yj (fF hm) (λh=>absurd h aC) (λ_=> ?_)));rw[show Bw fM fM.aB.length=[0,2]from ahe];(try simp only[seval]);refine ai ?_;refine aK ((xf ?_));(try simp only[seval]);refine aK ((ahJ (x:=fM) (s:=1) (q:=0) (y:=⟨⟨10,15⟩,⟨2,2⟩⟩) yj rfl (by decide) (λo ho=> ?_)));rw[show yK (fM.wo [((1:Nat):Int)]) ⟨⟨10,15⟩,⟨2,2⟩⟩ 0 (fM.an.toNat+1)=1 from aha]at ho;subst ho;(try simp only[seval]);refine ai ?_;refine aK ((ahU ?_));(try simp only[seval]);refine aK ((ahK ang (λl hl=> ?_) (λh=>by rw[Pq]at h;cases h)));rw[Pq]at hl;cases hl;(try simp only[seval]);refine ai ?_;refine aK ((xf ?_));(try simp only[seval]);refine aK ((ahz yj (fF hm) (λh=>absurd h aC) (λu l hu=> ?_)));have jZ:=ahd;rw[hu]at jZ;cases jZ;(try simp only[seval]);refine eO 77 ?_;simp only[seval,Vq,aS,beq_self_eq_true];refine iG (.agg [iv 11,iv 12]) (cO (ahE ⟨rfl,rfl⟩)) ?_;have dl:∀k,dw SC .eql 46 (.agg [iv 11,iv 12]) (.agg [iv 11,iv 12]) k=k (bv true):=λk=>aei (P:=SC) (t:=46) (n:=2) (xs:=[11,12]) (ys:=[11,12]) (by kernel_rfl) (by kernel_rfl) rfl rfl k;simp only[iv,bv]at dl;(try simp only[seval,dl,Vq,beq_self_eq_true,z2]);(try refine⟨by decide,?_⟩);refine iG (bv true) (cO (yZ (xs:=[13,14]) (ys:=[13,14]) (e:=.shut) (e':=.exact) (by decide) ⟨by rw[decide_eq_true rfl],rfl⟩)) ?_;(try simp only[seval,Vq,z1,z2,z3,z4]);(try refine⟨by decide,?_⟩);refine iG (bv true) (cO (yZ (xs:=[0,2]) (ys:=[0,2]) (e:=.shut) (e':=.exact) (by decide) ⟨by rw[decide_eq_true rfl],rfl⟩)) ?_;(try simp only[seval,Vq,z1,z2,z3,z4]);(try refine⟨by decide,?_⟩);refine iG (bv true) (cO (yZ (xs:=[0]) (ys:=[0]) (e:=.shut) (e':=.exact) (by decide) ⟨by rw[decide_eq_true rfl],rfl⟩)) ?_;(try simp only[seval,Vq,z1,z2,z3,z4]);(try refine⟨by decide,?_⟩);refine iG (bv true) (cO (yZ (xs:=[10,11,13,14]) (ys:=[10,11,13,14]) (e:=.shut) (e':=.exact) (by decide) ⟨by rw[decide_eq_true rfl],rfl⟩)) ?_;(try simp only[seval,Vq,z1,z2,z3,z4]);(try refine⟨by decide,?_⟩);refine iG (bv true) (cO (yZ (xs:=[12,11,13]) (ys:=[12,11,13]) (e:=.shut) (e':=.exact) (by decide) ⟨by rw[decide_eq_true rfl],rfl⟩)) ?_;(try simp only[seval,Vq,z1,z2,z3,z4]);(try refine⟨by decide,?_⟩);refine iG (bv true) (cO (yZ (xs:=[0,2]) (ys:=[0,2]) (e:=.shut) (e':=.exact) (by decide) ⟨by rw[decide_eq_true rfl],rfl⟩)) ?_;(try simp only[seval,Vq,z1,z2,z3,z4]);refine aZ ?_;exact iJ hH (Wk.refl _) (.val _) hk
end
theorem Ox{f:Nat->Bool}{m:Int}{i n:Nat}(hn:n<i)(h:f n=true):(n:Int)+m∈iI f m i:=
 Tn.2 ⟨n,Uj.2 ⟨TG.2 hn,h⟩,rfl⟩
theorem afB{f:Nat->Bool}{m v:Int}{i:Nat}:v∈iI f m i<->∃n:Nat,n<i/\f n=true/\v=(n:Int)+m:=by
 unfold iI;constructor
 ·intro h;obtain⟨n,hn,rfl⟩:=Tn.1 h;obtain⟨h1,h2⟩:=Uj.1 hn;exact⟨n,TG.1 h1,h2,rfl⟩
 ·rintro⟨n,h1,h2,rfl⟩
  exact Ox h1 h2
variable {x:aj}
variable {P:SK}
theorem aea{t:TypeId}(ht:P.underlying t=some .bool)(hg:P.eqGuardType P.depth t=false)(x y:Bool)(k:AV->Prop):dw P .neq t (.val (.bool x)) (.val (.bool y)) k=k (.val (.bool (x !=y))):=by
 have wa:cD P (Xj t (.bool x) (.bool y)) (x==y):=aqC (d:=9999) ht;have e:dw P .neq t (.val (.bool x)) (.val (.bool y)) k=((VW=.eql\/VW=.neq)/\ap (AV.raw (.val (.bool x))) λX=>ap (AV.raw (.val (.bool y))) λY=>xc X Y=true/\P.eqGuardType P.depth t=false/\∃e,cD P (Xj t X Y) e/\k (.val (.bool (if VW== .neq then !e else e)))):=rfl;have r:∀b:Bool,AV.raw (.val (.bool b))=some (.bool b):=λ_=>rfl;rw[e,r,r,ww,ww];apply propext;constructor
 ·rintro⟨_,_,_,b,h1,h2⟩
  have hb:=wa.uniq h1;subst hb;exact h2
 ·intro h;exact⟨.inr rfl,rfl,hg,_,wa,h⟩
section
variable {H:List aa}{k kp:AV->List aa->Prop}
end
end Go.Gg
