/- For every list of numbers, TicketMixed returns true and does not panic, in any order in which its goroutines run; errors.errorType starts as the text of the program lays it. -/
import Derived.Test.YtkanpclgnhdbiaaGreatDoorTicketMixedCard4
import Derived.Conc.LeavingOf
import Derived.Conc.Holds
import Derived.ProofKit
import Derived.Test.YtkanpclgnhdbiaaGreatDoorChecked
import Derived.Test.YtkanpclgnhdbiaaGreatDoorRows
import Derived.LaidMore
import Derived.SevenTiedAt
import Derived.Test.YtkanpclgnhdbiaaGreatDoorTie
import Derived.Test.YtkanpclgnhdbiaaGreatDoorCards
set_option linter.all false
set_option maxRecDepth 4000
set_option maxHeartbeats 4000000
open Bool renaming and_self->aa_,eq_iff_iff->Vo,false_and->YB,false_eq_true->TM,false_or->Zu,not_false->YA,true_and->Vs,true_or->af'
open Char renaming ofNat->Zc
open Classical renaming byContradiction->Ts
open Go renaming ChangeSpec->ZV,Code->Ua,DataW->aj_,Func->Yz,FuncId->TO,OpenClaim->Yd,Program->SJ,ReturnsInLeavingWide->Xt,Value->SQ,World->To
open Go.Addr renaming add->at2
open Go.ChangeSpec renaming post_blind->an_,witness_shaped->am'
open Go.Claim7 renaming isSixth->Zt,new_of_sixth->YJ,tied_new_at->YU
open Go.Conc renaming Good->WV
open Go.DataW renaming weightsEach->Za
open Go.DataW.Whole renaming of_heap->ai'
open Go.Input renaming okWide->ZR
open Go.IntKind renaming i64->SE
open Go.OpenClaim renaming holds_of_wide_leaving->ao'
open Go.OpenSpec renaming ofChange->VD
open Go.PathCond renaming test->asg
open Go.Program renaming headLifts->at6,liftsFinal->at5,make->at4,mayEnter->at3
open Go.Proofs.Tryz renaming checked->Uz,f10->VF,f15->Xd,func10->YR,prog->SC
open Go.Value renaming cells->Z5,int->SF,okWide->Ys
open Go.World renaming doorLaid->Zz
open Int renaming le_refl->Xl,mul_le_mul->ac_,toNat->XJ
open List renaming append_assoc->SA,append_eq->Vr,append_nil->SI,cons_append->Ve,contains_nil->Zh,drop->T1,getD_eq_getElem?_getD->SD,getElem?_eq_getElem->SO,getElem?_eq_some_iff->SM,getElem?_map->Tn,getElem?_of_mem->Vg,getElem?_range->XI,getElem?_set->UP,getElem?_take->Ul,getElem_idxOf->Y9,getElem_mem->Wy,head?_cons->ZM,idxOf_lt_length_of_mem->Ws,length_drop->Uo,length_map->Tm,length_range->ZL,length_set->TE,length_take->Uf,map_append->TN,mem_cons->SL,mem_map->Tl,mem_of_getElem?->Td,mem_of_mem_take->Xv,mem_range->TF,mem_singleton->S9,nil_append->UK,nodup_iff_pairwise_ne->TD,nodup_range->X5,not_mem_nil->S0,pairwise_iff_getElem->Yp,pairwise_map->Wb,range->SZ,take->TU,take_of_length_le->SS,take_sublist->Zf
open List.Nodup renaming sublist->Yk
open Nat renaming eq_zero_or_pos->UH,le_refl->SR,lt_trichotomy->XT,reduceAdd->SX
open Option renaming getD_some->S7,map_eq_some_iff->Tp
open Option.some renaming inj->Vj
open Prod.mk renaming injEq->UY
namespace Go.Gg
open Go.Conc Go.Proofs Go.Gg.Tk
section
variable {lv:Bool}{k kp:AV->List aa->Prop}{Gf:a_->List aa}{t N:Nat}{τ:a_}{b:Int}
theorem ahX{pm:Nat}(hT:dK Gf t N)(hτ:τ.Ok b)(hb:b<2^10)(rY:pm<=4)(hk:∀(x:aj)(bE aA bK:List Int)(τ':a_),x.Ok->x.pieces.length<=pm->bE.length<=4->aA.length<=4->bK.length<=3->τ'.Ok (b+200)->k (.aM [x.av,br bE,br aA,br bK]) (Gf τ')):bk lv SC 15 (Gf τ) [.op t 0,iv pm,bv false] k kp:=by
 refine bL (rs:=[.cell 6 26,.tmp 7,.tmp 8,.tmp 9]) (nt:=240) Xd λhH hA=> ?_;simp only[bt,SX];have uI:∀o:aa,dK (λτ=>Gf τ++[o]) t (N+1):=λo=>hT.more [o];have ji:∀τ (L:List aa)(j:Nat),(Gf τ++L)[N+j]?=L[j]?:=λτ L j=>by rw[<- hT.len τ,aW]
 have dG:∀τ (L:List aa)(j:Nat)(y:aa),(Gf τ++L).set (N+j) y=Gf τ++L.set j y:=λτ L j y=>by rw[<- hT.len τ,cY]
 have sd:∀τ (L:List aa),(Gf τ++L)[N]?=L[0]?:=λτ L=>ji τ L 0;have C_:∀τ (L:List aa)(y:aa),(Gf τ++L).set N y=Gf τ++L.set 0 y:=λτ L y=>dG τ L 0 y;refine ak ?_;refine ak ?_;refine aI ((pz (uI _) hτ (by omega) (by omega) ?_));have r1:=lS τ 90;generalize dp τ 90=u1 at r1⊢;(try simp only[seval,zE4,uc]);refine aI ((Jp (ns:=[0,1,10,u1]) (uI _) hτ.tick (by omega) (by simp) (by simp) ?_));have r2:=Je (tick τ) (ns:=[0,1,10,u1]) (by simp);simp only[SL,S0,or_false]at r2;generalize v7 (tick τ) [0,1,10,u1]=first at r2⊢
 (try simp only[seval]);refine aI ((Qh (lo:=1) (hi:=3) (uI _) hτ.tick.tick (by omega) (by decide) (by decide) ?_));have r3:=adJ (tick (tick τ)) (show (1:Int)<=3 by decide);generalize Bb (tick (tick τ)) 1 3=hours at r3⊢;(try simp only[seval,zE4,uc]);refine aI ((Jp (ns:=[1,2,2,3]) (uI _) hτ.tick.tick.tick (by omega) (by simp) (by simp) ?_));have r4:=Je (tick (tick (tick τ))) (ns:=[1,2,2,3]) (by simp);simp only[SL,S0,or_false]at r4;generalize v7 (tick (tick (tick τ))) [1,2,2,3]=am at r4⊢;have oQ:0<=first/\first<=90:=by omega
 have wE:1<=am/\am<=3:=by omega
 clear r1 r2 r4;have hσ:(tick (tick (tick (tick τ)))).Ok (b+4):=hτ.tick.tick.tick.tick.mono (by omega);generalize tick (tick (tick (tick τ)))=σ at hσ⊢;(try simp only[seval,hT.len,ji,dG,sd,C_]);refine ai ?_;simp only[seval,ji,z1,AU]
 (repeat apply iY);refine vU (t:=11) (sz:=1) (el:=3) (by simp only[seval]<;>rfl) ?_
 simp only[seval,hT.len]
 (repeat apply iY);refine afI (id:=N+1) (j:=3) (sz:=3) (ij:=61) (by simp only[seval,ji]<;>rfl) rfl ?_
 simp only[seval,dG,hT.len];refine Iz [11,10,6,0,1,2] ?_;show aQ _ _ _ _ _ ⟨[(11,.sl 1 [iv first] (.opn (N+2))),(10,.op (N+1) 0),(6,.op N 0),(0,.op t 0),(1,iv pm),(2,bv false)],_⟩ _;obtain⟨zc,wL⟩:∃zc:aa,zc=.cells [iv 0,iv 0,iv 0,.sl 0 [] .exact,.sl 0 [] .exact,.sl 0 [] .exact] 26:=⟨_,rfl⟩;simp only[iv]at wL;rw[<- wL];obtain⟨hn,hhn⟩:∃hn:Nat,hours=hn:=⟨hours.toNat,by omega⟩;subst hhn;refine ak ?_;refine cL ?_;refine iD hn (λi:Nat=>[(11,.sl (i+1) ((lG σ first am i).1.map iv) (.opn (N+2))),(12,iv i)]) (λi=>Gf (lG σ first am i).2++[zc,.cells [iv first,iv hn,iv am,.sl 0 [] (.opn (N+3)),.sl 0 [] .exact,.sl 0 [] .exact] 26,.tail (i+1) 1 3,.tail 0 3 61]) (λi=>True) (λ_ _=>rfl) (by simp only[lG];simp only[seval];simp[bw,Wk.refl]) rfl (λ_ _ _=>by simp[hT.len]) trivial (λb_ dj i cV _ R hR=> ?_)
 ·clear b_ dj;have au:=R3 σ first (am:=am) (by omega) i
  have qO:=R4 hσ first am i
  have eR:lG σ first am (i+1)=((lG σ first am i).1++[(lG σ first am i).1.getD i 0+w8 (lG σ first am i).2 am],tick (tick (lG σ first am i).2)):=rfl
  have uP:=au.ge (by omega) i (SR _);generalize lG σ first am i=m at au qO eR uP hR⊢
  obtain⟨l,ρ⟩:=m;dsimp only at au qO eR uP⊢;have iG:=au.len;refine ai ?_;simp only[seval,ji];refine aD ?_;refine⟨λh=> ?_,λh=> ?_⟩
  ·as_aux_lemma=>
   have bD:i<hn:=(by omega);obtain⟨w,hw⟩:=cD (xs:=l) (i:=i) (by omega);have rR:l.getD i 0=w:=(by rw[SD,hw];rfl);rw[rR]at eR uP;have aR:=acX ρ (am:=am) (by omega);have hsd:w8 ρ am=v7 (tick ρ) [0,am,dp ρ am]:=rfl;obtain⟨v,hv⟩:∃v,v=w8 ρ am:=⟨_,rfl⟩;rw[<- hv]at eR aR hsd;have Db:SE.wrap (w+v)=w+v:=L3 (adI uP aR oQ wE (by omega));have gv:SE.wrap ((i:Int)+1)=((i+1:Nat):Int):=(by rw[bG _ (by omega)];rfl);have jb:(0<=(i:Int)/\(i:Int)<(i:Int)+1)=True:=(by simp;omega);have ja:∀L:List aa,dK (λτ=>Gf τ++L) t (N+L.length):=λL=>hT.more L;refine aN ?_;refine cL ?_;obtain⟨X,hX⟩:∃X:Nat->List aa,∀a,X a=[zc,.cells [iv first,iv hn,iv am,.sl 0 [] (.opn (N+3)),.sl 0 [] .exact,.sl 0 [] .exact] 26,.tail a 1 3,.tail 0 3 61]:=⟨_,λ_=>rfl⟩;have Rh:=(hX (i+1)).symm;simp only[iv]at Rh;have x1:∀τ a,(Gf τ++X a)[N+1]?=some (.cells [iv first,iv hn,iv am,.sl 0 [] (.opn (N+3)),.sl 0 [] .exact,.sl 0 [] .exact] 26):=λτ a=>(by rw[ji,hX];rfl);have x2:∀τ a,(Gf τ++X a)[N+2]?=some (.tail a 1 3):=λτ a=>(by rw[ji,hX];rfl);have Oi:∀τ a a',(Gf τ++X a).set (N+2) (.tail a' 1 3)=Gf τ++X a':=λτ a a'=>(by rw[dG,hX,hX];rfl);rw[Rh];refine pu [11,13,16] [0,1,2,3,4,5,6,7,8,9,10,11,12,13,14,15,16,17] [⟨0,false,[],[([11],[11]),([11,13],[11,13])]⟩,⟨1,false,[],[([11],[11]),([11,13],[11,13])]⟩,⟨2,false,[],[([11],[11]),([11,13],[11,13])]⟩,⟨3,false,[],[([11],[11]),([11,13],[11,13])]⟩,⟨4,false,[],[([11],[11]),([11,13],[11,13])]⟩,⟨5,false,[],[([11],[11])]⟩,⟨6,false,[],[([11],[11])]⟩,⟨7,false,[],[([11],[11])]⟩,⟨8,false,[],[]⟩,⟨9,false,[],[]⟩,⟨10,false,[],[]⟩,⟨11,true,[11],[]⟩,⟨12,false,[11],[]⟩,⟨13,true,[11,13],[]⟩,⟨14,false,[11,13],[]⟩,⟨15,false,[11,13],[]⟩,⟨16,true,[11,13,16],[]⟩,⟨17,false,[11,13,16],[]⟩] (λD=>bif isDone 16 D then Gf (tick (tick ρ))++X (i+1+1)else bif isDone 13 D then Gf (tick (tick ρ))++X (i+1)else bif isDone 11 D then Gf (tick ρ)++X (i+1)else Gf ρ++X (i+1)) ?_;simp only[seval,Oq,DL,z1,AU,x1,x2,Oi,ff hw,jb,Db,iG];refine kA _ _ (bX (pz (ja (X (i+1))) qO (by omega) (by omega) ⟨rfl,rfl⟩)) ?_;(try simp only[seval,Oq,DL,z1,AU,x1,x2,Oi,ff hw,jb,Db,iG]);refine kA (iv v) _ (bX (Jp (ns:=[0,am,dp ρ am]) (ja (X (i+1))) qO.tick (by omega) (by simp) (by simp) ⟨by rw[hsd],rfl⟩)) ?_;(try simp only[seval,Oq,DL,z1,AU,x1,x2,Oi,ff hw,jb,Db,iG]);refine⟨by omega,?_⟩;refine ai ?_;simp only[seval,gv];refine hR _ ⟨bD,trivial,?_⟩;rw[eR,TN,hX];exact dn
  ·as_aux_lemma=>
   have dF:i=hn:=(by omega);subst dF;clear hR;refine cq ?_;obtain⟨w,hw⟩:=cD (xs:=l) (i:=i) (by omega);have rR:l.getD i 0=w:=(by rw[SD,hw];rfl);have Gp:first<=w/\w<=first+9:=by
    rw[rR]at uP;have:am* (i:Int)<=3* 3:=ac_ (by omega) (by omega) (by omega) (by omega);generalize am* (i:Int)=q at uP this;omega
   obtain⟨mn,rW⟩:∃mn:Nat,w-first=mn:=⟨(w-first).toNat,by omega⟩
   have K5:mn<=9:=(by omega);have hwm:SE.wrap (w-first)=mn:=(by rw[L3 (by omega),rW]);have jb:(0<=(i:Int)/\(i:Int)<(i:Int)+1)=True:=(by simp;omega);refine eU 8 ?_;simp only[seval,ji,ff hw,jb,hwm];have ja:∀L:List aa,dK (λτ=>Gf τ++L) t (N+L.length):=λL=>hT.more L;refine ak ?_;refine aI ((Jo (n:=mn) (ja _) qO (by omega) (by omega) ?_));have qK:=MP ρ mn;have qO:=GU qO mn mn;generalize iq ρ mn mn=m2 at qK qO⊢;obtain⟨order,ρ⟩:=m2;dsimp only at qK qO⊢;(try simp only[seval]);refine ak ?_
   (repeat apply iY);refine vU (t:=15) (sz:=1) (el:=3) (by simp only[seval]<;>rfl) ?_
   simp only[seval,hT.len]
   (repeat apply iY);refine vU (t:=16) (sz:=1) (el:=3) (by simp only[seval]<;>rfl) ?_
   simp only[seval,hT.len];refine Iz [16,15,14,13,11,10,6,0,1,2] ?_;show aQ _ _ _ _ _ ⟨[(16,.sl 0 [] (.opn (N+5))),(15,.sl 0 [] (.opn (N+4))),(14,br order),(13,iv mn),(11,.sl (i+1) (l.map iv) (.opn (N+2))),(10,.op (N+1) 0),(6,.op N 0),(0,.op t 0),(1,iv pm),(2,bv false)],_⟩ _;obtain⟨YY,Rj⟩:∃YY:List AV->Nat->Nat->Nat->List aa,∀r c d e,YY r c d e=[zc,.cells r 26,.tail (i+1) 1 3,.tail c 3 61,.tail d 1 3,.tail e 1 3]:=⟨_,λ_ _ _ _=>rfl⟩;have hY:YW Gf N zc YY:=asr hT Rj;have Ri:[zc,.cells [iv first,iv i,iv am,.sl 0 [] (.opn (N+3)),.sl 0 [] .exact,.sl 0 [] .exact] 26,.tail (i+1) 1 3,.tail 0 3 61,.tail 0 1 3,.tail 0 1 3]=YY [iv first,iv i,iv am,.sl 0 [] (.opn (N+3)),.sl 0 [] .exact,.sl 0 [] .exact] 0 0 0++[]:=(by rw[Rj];rfl);simp only[iv]at Ri;rw[Ri];refine ak ?_;refine Iy (α:=Nat×a_) (λy=>⟨[(16,.sl 0 [] (.opn (N+5))),(15,.sl y.1 ((lh first order y.1).map iv) (.opn (N+4))),(13,iv mn),(11,.sl (i+1) (l.map iv) (.opn (N+2))),(10,.op (N+1) 0),(6,.op N 0),(0,.op t 0),(2,bv false)],Gf y.2++(YY [iv first,iv i,iv am,.sl 0 [] (.opn (N+3)),fO (N+6) y.1,.sl 0 [] .exact] 0 y.1 0++gO y.1 (gk (kT l i (λj=>first+order.getD j 0) ρ y.1).1))⟩) (λy=>y.1<=pm/\y.1<=mn/\y.2.Ok (b+60)) ?_ (λy hy=> ?_)
   ·exact ah1 hT hY (λτ'=>hT.au hH τ') hb rY (by omega) oQ iG K5 qK (qO.mono (by omega))
   ·as_aux_lemma=>
    obtain⟨np,ρ1⟩:=y;obtain⟨akN,akO,L1⟩:=hy;dsimp only at akN akO L1⊢;have F8:(kT l i (λj=>first+order.getD j 0) ρ np).1.length=np:=z8 _ _ _ _ _;have aad:∀(p:Nat) z,(kT l i (λj=>first+order.getD j 0) ρ np).1[p]?=some z->∃τ,z=l6 τ l (first+order.getD p 0) i:=λp z hz=>Ke (P:=λn z=>∃τ,z=l6 τ l n i) (λτ n=>⟨τ,rfl⟩) np p z hz;generalize(kT l i (λj=>first+order.getD j 0) ρ np).1=eN at F8 aad⊢;have iQ:=abr first order np
    have tK:∀n∈lh first order np,first<=n/\n<w:=λn hn=>by
     unfold lh at hn;obtain⟨p,hp,rfl⟩:=Tl.1 hn;have hp:=TF.1 hp;obtain⟨o,ho⟩:=cD (xs:=order) (i:=p) (by rw[qK.len];omega);have:=qK.w5 o (wR ho);rw[SD,ho];simp only[S7];omega
    have F2:(lh first order np).Nodup:=by
     have e:lh first order np=(order.take np).map λo=>first+o:=by
      unfold lh;refine anf (by rw[Tm,Uf,qK.len];omega) λp hp=> ?_;rw[Tn,Ul,if_pos hp,SD];obtain⟨o,ho⟩:=cD (xs:=order) (i:=p) (by rw[qK.len];omega);rw[ho];rfl
     rw[e];have h1:(order.take np).Nodup:=Yk (Zf _ _) qK.nodup;rw[TD,Wb];exact(TD.1 h1).imp λh e=>h (by omega)
    have St:∀p,p<np->(lh first order np).getD p 0=first+order.getD p 0:=λp hp=>by
     unfold lh;rw[SD,Tn,XI hp];rfl
    generalize lh first order np=aA at iQ tK F2 St⊢
    refine ak ?_;refine aI ((Jo (n:=np) (ja _) L1 (by omega) (by omega) ?_));have tN:=MP ρ1 np;have yz:=GU L1 np np;generalize iq ρ1 np np=m3 at tN yz⊢;obtain⟨iy,ρ2⟩:=m3;dsimp only at tN yz⊢;have yz:ρ2.Ok (b+64):=yz.mono (by omega);(try simp only[seval]);have hwe:br iy=.sl np (iy.map iv) .shut:=(by rw[br,tN.len]);rw[hwe];refine ak ?_;refine Iy (α:=Nat×a_) (λy=>⟨[(16,.sl y.1 ((iy.take y.1).map iv) (.opn (N+5))),(15,.sl np (aA.map iv) (.opn (N+4))),(13,iv mn),(11,.sl (i+1) (l.map iv) (.opn (N+2))),(10,.op (N+1) 0),(6,.op N 0),(0,.op t 0),(2,bv false)],Gf y.2++(YY [iv first,iv i,iv am,.sl 0 [] (.opn (N+3)),fO (N+6) np,fO (N+6+np) y.1] 0 np y.1++(gO np (gk eN)++gO y.1 (gk (kT l i (λj=>aA.getD (iy.getD j 0).toNat 0) ρ2 y.1).1)))⟩) (λy=>y.1<=np/\y.1<=3/\y.2.Ok (b+90)) ?_ (λy hy=> ?_)
    ·exact iZ (s':=⟨[(19,iv 0),(18,.sl np (iy.map iv) .shut),(16,.sl 0 [] (.opn (N+5))),(15,.sl np (aA.map iv) (.opn (N+4))),(13,iv mn),(11,.sl (i+1) (l.map iv) (.opn (N+2))),(10,.op (N+1) 0),(6,.op N 0),(0,.op t 0),(2,bv false)],Gf ρ2++(YY [iv first,iv i,iv am,.sl 0 [] (.opn (N+3)),fO (N+6) np,.sl 0 [] .exact] 0 np 0++gO np (gk eN))⟩) (eE (by simp only[seval];simp[bw,Wk.refl]) rfl) (ahW hT hY (xP _ _) hb (by omega) oQ Gp iG (by omega) iQ tK tN yz)
    ·as_aux_lemma=>
     obtain⟨ns,ρ3⟩:=y;obtain⟨akP,akQ,L2⟩:=hy;dsimp only at akP akQ L2⊢;have n_:(kT l i (λj=>aA.getD (iy.getD j 0).toNat 0) ρ2 ns).1.length=ns:=z8 _ _ _ _ _;have aak:∀(s:Nat) z,(kT l i (λj=>aA.getD (iy.getD j 0).toNat 0) ρ2 ns).1[s]?=some z->∃τ,z=l6 τ l (aA.getD (iy.getD s 0).toNat 0) i:=λs z hz=>Ke (P:=λn z=>∃τ,z=l6 τ l n i) (λτ n=>⟨τ,rfl⟩) ns s z hz;generalize(kT l i (λj=>aA.getD (iy.getD j 0).toNat 0) ρ2 ns).1=dx at n_ aak⊢;have sg:=tN.len;have aF:(iy.take ns).length=ns:=(by rw[Uf];omega);have eM:∀v∈iy.take ns,0<=v/\v<(np:Int):=λv hv=>tN.w5 v (Xv hv);have ak0:(iy.take ns).Nodup:=Yk (Zf _ _) tN.nodup;have aab:∀s,s<ns->(iy.take ns).getD s 0=iy.getD s 0:=λs hs=>by
      rw[SD,SD,Ul,if_pos hs]
     generalize iy.take ns=bK at aF eM ak0 aab⊢;refine ak ?_;refine aI ((pz (n:=2) (ja _) L2 (by omega) (by omega) ?_));have ik:=lS ρ3 2;generalize dp ρ3 2=u2 at ik⊢;obtain⟨cn,rfl⟩:∃cn:Nat,u2=cn:=⟨u2.toNat,by omega⟩;have Gv:=L2.tick;generalize tick ρ3=ρ4 at Gv⊢;(try simp only[seval]);have mH:∀z∈eN,vJ i z:=λz hz=>by
      obtain⟨p,hp⟩:=Vg hz;have cN:=(SM.1 hp).1;obtain⟨τ',rfl⟩:=aad p z hp;rw[<- St p (by omega)];have:=Kd au (by omega) oQ wE (n:=aA.getD p 0) (by rw[rR];exact tK _ (zP (by omega))) τ';exact⟨this.num,this.hour⟩
     have htv:∀z∈dx,vJ i z:=λz hz=>by
      obtain⟨s,hs⟩:=Vg hz;have b9:=(SM.1 hs).1;obtain⟨τ',rfl⟩:=aak s z hs;rw[<- aab s (by omega)];have ho:=eM _ (zP (l:=bK) (i:=s) (by omega));have:=Kd au (by omega) oQ wE (n:=aA.getD (bK.getD s 0).toNat 0) (by rw[rR];exact tK _ (zP (by omega))) τ';exact⟨this.num,this.hour⟩
     refine Iy (α:=List Seen×a_) (λy=>⟨[(16,.sl ns (bK.map iv) (.opn (N+5))),(15,.sl np (aA.map iv) (.opn (N+4))),(13,iv mn),(11,.sl (i+1) (l.map iv) (.opn (N+2))),(10,.op (N+1) 0),(6,.op N 0),(0,.op t 0),(2,bv false)],Gf y.2++(YY [iv first,iv i,iv am,.sl y.1.length (y.1.flatMap Seen.l) (.opn (N+3)),fO (N+6) np,fO (N+6+np) ns] y.1.length np ns++(gO np (gk eN)++gO ns (gk dx)))⟩) (λy=>y.1.length<=2/\(∀s∈y.1,0<=s.hour/\s.hour<=i/\∃τ,s.next=nG τ (l.getD s.hour.toNat 0) 1 0 99)/\y.2.Ok (b+97)) ?_ (λy hy=> ?_)
     ·refine iZ (s':=⟨[(20,iv cn),(16,.sl ns (bK.map iv) (.opn (N+5))),(15,.sl np (aA.map iv) (.opn (N+4))),(13,iv mn),(11,.sl (i+1) (l.map iv) (.opn (N+2))),(10,.op (N+1) 0),(6,.op N 0),(0,.op t 0),(2,bv false)],Gf ρ4++(YY [iv first,iv i,iv am,.sl 0 [] (.opn (N+3)),fO (N+6) np,fO (N+6+np) ns] 0 np ns++(gO np (gk eN)++gO ns (gk dx)))⟩) (eE (by simp only[seval];simp[bw,Wk.refl]) rfl) (ahZ hT hY hb (by omega) oQ wE au (by omega) (Gv.mono (by omega)))
     obtain⟨ss,ρ5⟩:=y;obtain⟨dN,gB,pS⟩:=hy;dsimp only at dN gB pS⊢;refine ak ?_;refine aD ?_;refine aN ?_;refine iZ (s':=⟨[(16,.sl ns (bK.map iv) (.opn (N+5))),(15,.sl np (aA.map iv) (.opn (N+4))),(13,iv mn),(11,.sl (i+1) (l.map iv) (.opn (N+2))),(10,.op (N+1) 0),(6,.op N 0),(0,.op t 0),(2,bv false)],Gf ρ5++(YY [iv first,iv i,iv am,.sl ss.length (ss.flatMap Seen.l) (.opn (N+3)),fO (N+6) np,fO (N+6+np) ns] ss.length np ns++(gO np (gk eN)++gO ns (gk dx)))⟩) (eE (by simp only[seval];simp[bw,Wk.refl]) rfl) (ah0 hT hY (xP _ _) hb oQ K5 (by omega) n_ htv pS λaq8 ρ6 LH yq hρ6=>ahY hT hY hb (by omega) (by omega) F8 mH hρ6 λaou ρ7 hp1 kj hρ7=>ahV hT (λτ'=>hT.au hH τ') hY wL iG hp1 iQ LH aF rfl (hk ⟨first,i,am,ss,aou,aq8⟩ l aA bK ρ7 ⟨oQ,by dsimp only;omega,wE,by dsimp only;omega,by dsimp only;omega,by dsimp only;omega,λs hs=> ?_,λy hy=> ?_,λy hy=> ?_⟩ (by dsimp only;omega) (by omega) (by omega) (by omega) (hρ7.mono (by omega))))
     ·obtain⟨h1,h2,τ',h3⟩:=gB s hs;have ht:=au.top oQ wE (by omega) s.hour.toNat (by omega);rw[h3];exact⟨⟨h1,h2⟩,(BR (by omega) (by omega)).1⟩
     ·exact⟨(kj y hy).1,(kj y hy).2⟩
     ·exact⟨(yq y hy).1,(yq y hy).2⟩
end
section
variable {lv:Bool}{H:List aa}{k kp:AV->List aa->Prop}
theorem ah8{x:aj}(hx:x.Ok)(hk:k x.av H):bk lv SC 22 H [x.av] k kp:=by
 refine bL (rs:=[.cell 2 26]) (nt:=19) Tryz.f22 λhH hA=> ?_;simp only[bt,SX,aj.av];have pP:=hx.eN;have aR:=hx.dx;have wG:=hx.vz;have bT:x.l=[iv x.first,iv x.hours,iv x.am,dP x.seen,aS x.pieces,aS x.aB]:=rfl;have aP:∀(L:List aa),(H++L)[H.length]?=L[0]?:=λL=>aW H L 0;have cH:∀(L:List aa)(y:aa),(H++L).set H.length y=H++L.set 0 y:=λL y=>cY H L 0 y;refine ai ?_;simp only[seval,bT];have NY:TU (x.seen.length* 3) (x.seen.flatMap Seen.l)=x.seen.flatMap Seen.l:=SS (by rw[mP Seen.len];omega);have NZ:TU (x.pieces.length* 4) (x.pieces.flatMap aC.l)=x.pieces.flatMap aC.l:=SS (by rw[mP aC.len];omega);have N0:TU (x.aB.length* 4) (x.aB.flatMap aC.l)=x.aB.flatMap aC.l:=SS (by rw[mP aC.len];omega);have n1:(x.seen.flatMap Seen.l).length=x.seen.length* 3:=mP Seen.len _;have n2:(x.pieces.flatMap aC.l).length=x.pieces.length* 4:=mP aC.len _;have n3:(x.aB.flatMap aC.l).length=x.aB.length* 4:=mP aC.len _;refine ai ?_;simp only[seval,aP,cH,dP,NY,n1];refine⟨by omega,?_⟩;refine ai ?_;simp only[seval,aP,cH,aS,NZ,n2];refine⟨by omega,?_⟩;refine ai ?_;simp only[seval,aP,cH,aS,N0,n3];refine⟨by omega,?_⟩;have cW:∀(L:List aa),(H++L)[H.length+1]?=L[1]?:=λL=>aW H L 1;have dN:∀(L:List aa)(y:aa),(H++L).set (H.length+1) y=H++L.set 1 y:=λL y=>cY H L 1 y;refine ai ?_;simp only[seval,aP,cW,dN];refine nH ?_;simp only[seval,cW];exact jN hH (b:=x.av) (Ee (.cons (Wk.refl _) (.cons (Wk.refl _) (.cons (Wk.refl _) (.cons (iz _ _ _) (.cons (iz _ _ _) (.cons (iz _ _ _) .nil))))))) (by rw[Ds];trivial) hk
end
namespace Tk
structure Inv (f g:Nat->Nat)(n:Nat):Prop where
 fl:∀i,i<n->f i<n
 gl:∀i,i<n->g i<n
 gf:∀i,i<n->g (f i)=i
 fg:∀i,i<n->f (g i)=i
theorem Inv.symm{f g:Nat->Nat}{n:Nat}(h:Inv f g n):Inv g f n:=⟨h.gl,h.fl,h.fg,h.gf⟩
def Tr.mv (u:Tr)(f g:Nat->Nat)(n:Nat):Tr:=⟨u.bE,(SZ n).map λj=>u.aA.getD (g j) 0,u.bK.map f⟩
def jZ (x:aj)(l:List aC):aj:={x with pieces:=l}
theorem ab9{f:Nat->Int}{n j:Nat}(h:j<n):((SZ n).map f).getD j 0=f j:=by
 rw[SD,Tn,XI h];rfl
theorem ML{f:Nat->Nat}{l:List Nat}{s:Nat}(h:s<l.length):(l.map f).getD s 0=f (l.getD s 0):=by
 rw[SD,SD,Tn,SO h];rfl
theorem abn{α:Type}{l:List α}(hn:l.Nodup){i j:Nat}(hi:i<l.length)(hj:j<l.length)(h:l[i]=l[j]):i=j:=by
 have hp:=Yp.1 (TD.1 hn);rcases XT i j with e|e|e
 ·exact absurd h (hp i j hi hj e)
 ·exact e
 ·exact absurd h.symm (hp j i hj hi e)
theorem getD_inj{l:List Int}{i j:Nat}(hn:l.Nodup)(hi:i<l.length)(hj:j<l.length)(h:l.getD i 0=l.getD j 0):i=j:=by
 rw[SD,SD,SO hi,SO hj]at h;exact abn hn hi hj h
theorem MS{x:aj}{l:List aC}{f g:Nat->Nat}(hI:Inv f g x.pieces.length)(hl:l.length=x.pieces.length)(hp:∀i,i<x.pieces.length->l[f i]?=x.pieces[i]?){u:Tr}(h:zm x u):zm (jZ x l) (u.mv f g x.pieces.length):=by
 have iQ:=h.wS;refine⟨h.bE,h.seen,by show ((SZ _).map _).length=l.length;rw[Tm,ZL,hl],λj y hy=> ?_,?_,by show (u.bK.map f).length=_;rw[Tm];exact h.ub,λv hv=> ?_,λs y hy=> ?_,?_⟩
 ·have hj:j<x.pieces.length:=by rw[<- hl];exact(SM.1 hy).1
  show fits u.bE y (((SZ _).map _).getD j 0)=true;rw[ab9 hj];refine h.piece (g j) y ?_;rw[<- hp _ (hI.gl j hj),hI.fg j hj];exact hy
 ·show ((SZ _).map _).Nodup;rw[TD,Wb];refine(TD.1 X5).imp_of_mem λ{a b} ha hb fw e=>fw ?_;have ha:=TF.1 ha;have hb:=TF.1 hb;have:=getD_inj h.GX (by rw[iQ];exact hI.gl a ha) (by rw[iQ];exact hI.gl b hb) e;rw[<- hI.fg a ha,this,hI.fg b hb]
 ·obtain⟨w,hw,rfl⟩:=Tl.1 hv;show f w<l.length;rw[hl];exact hI.fl w (h.own w hw)
 ·have hs:s<u.bK.length:=by rw[h.ub];exact(SM.1 hy).1
  show fits u.bE y (((SZ _).map _).getD ((u.bK.map f).getD s 0) 0)=true;have ho:=h.own _ (Fl hs);rw[ML hs,ab9 (hI.fl _ ho),hI.gf _ ho];exact h.stub s y hy
 ·show (u.bK.map f).Nodup;rw[TD,Wb];refine(TD.1 h.Hd).imp_of_mem λ{a b} ha hb fw e=>fw ?_;rw[<- hI.gf a (h.own a ha),e,hI.gf b (h.own b hb)]
variable {x:aj}{l:List aC}{f g:Nat->Nat}
theorem NJ(hx:x.Ok)(hl:l.length=x.pieces.length)(hm:∀y∈l,y∈x.pieces):(jZ x l).Ok:=
 ⟨hx.first,hx.hours,hx.am,hx.vz,by show l.length<=4;rw[hl];exact hx.eN,hx.dx,hx.seen,λz hz=>⟨(hx.piece z (hm z hz)).1,(hx.piece z (hm z hz)).2⟩,λz hz=>⟨(hx.stub z hz).1,(hx.stub z hz).2⟩⟩
theorem abi(hI:Inv f g x.pieces.length)(hl:l.length=x.pieces.length)(hp:∀i,i<x.pieces.length->l[f i]?=x.pieces[i]?){w:Tr}(h:zm (jZ x l) w):zm x (w.mv g f x.pieces.length):=by
 have:=MS (x:=jZ x l) (l:=x.pieces) (f:=g) (g:=f) (by show Inv g f l.length;rw[hl];exact hI.symm) hl.symm (λi hi=>by
  have hi:i<x.pieces.length:=by rw[<- hl];exact hi
  show x.pieces[g i]?=l[i]?;rw[<- hp _ (hI.gl i hi),hI.fg i hi]) h
 rw[show (jZ x l).pieces.length=x.pieces.length from hl]at this;exact this
theorem MN(hI:Inv f g x.pieces.length)(hl:l.length=x.pieces.length)(hp:∀i,i<x.pieces.length->l[f i]?=x.pieces[i]?):∀y∈l,y∈x.pieces:=λy hy=>by
 obtain⟨j,hj,e⟩:=List.getElem_of_mem hy;have h1:=hp (g j) (hI.gl j (by omega));rw[hI.fg j (by omega),SO hj,e]at h1;exact Td h1.symm
theorem abe(hx:x.Ok)(hI:Inv f g x.pieces.length)(hl:l.length=x.pieces.length)(hp:∀i,i<x.pieces.length->l[f i]?=x.pieces[i]?):cnt (jZ x l)=cnt x:=by
 have hz:=NJ hx hl (MN hI hl hp);have h1:=Py (x:=x) (z:=jZ x l) λu hu=>⟨_,(vr hz).2 (MS hI hl hp ((vr hx).1 hu)),rfl⟩;have h2:=Py (x:=jZ x l) (z:=x) λu hu=>⟨_,(vr hx).2 (abi hI hl hp ((vr hz).1 hu)),rfl⟩;omega
theorem ano(hx:x.Ok)(hI:Inv f g x.pieces.length)(hl:l.length=x.pieces.length)(hp:∀i,i<x.pieces.length->l[f i]?=x.pieces[i]?):(bZ (jZ x l)).isEmpty=(bZ x).isEmpty:=by
 have h:=abe hx hI hl hp;have a:=IS x;have b:=IS (jZ x l);rw[h,a]at b;cases h1:bZ x<;>cases h2:bZ (jZ x l)<;>simp_all
theorem abd(hx:x.Ok)(hI:Inv f g x.pieces.length)(hl:l.length=x.pieces.length)(hp:∀i,i<x.pieces.length->l[f i]?=x.pieces[i]?){s p:Nat}(hs:s<x.aB.length)(cN:p<x.pieces.length)(c:Bool):(zv (jZ x l) λu=>decide (u.bK.getD s 0=f p)==c)=zv x λu=>decide (u.bK.getD s 0=p)==c:=by
 have hz:=NJ hx hl (MN hI hl hp);rw[Vo,xy,xy];constructor
 ·rintro⟨w,hw,e⟩
  have lL:=(vr hz).1 hw;have b9:s<w.bK.length:=by rw[lL.ub];exact hs
  have ho:w.bK.getD s 0<x.pieces.length:=by have:=lL.own _ (Fl b9);rw[<- hl];exact this
  refine⟨_,(vr hx).2 (abi hI hl hp lL),?_⟩;show (decide ((w.bK.map g).getD s 0=p)==c)=true;rw[ML b9,<- e];congr 1;refine decide_eq_decide.2 ⟨λh=>by rw[<- h,hI.fg _ ho],λh=>by rw[h,hI.gf _ cN]⟩
 ·rintro⟨u,hu,e⟩
  have ku:=(vr hx).1 hu;have b9:s<u.bK.length:=by rw[ku.ub];exact hs
  have ho:=ku.own _ (Fl b9);refine⟨_,(vr hz).2 (MS hI hl hp ku),?_⟩;show (decide ((u.bK.map f).getD s 0=f p)==c)=true;rw[ML b9,<- e];congr 1;refine decide_eq_decide.2 ⟨λh=>by rw[<- hI.gf _ ho,h,hI.gf _ cN],λh=>by rw[h]⟩
theorem anp(hx:x.Ok)(hI:Inv f g x.pieces.length)(hl:l.length=x.pieces.length)(hp:∀i,i<x.pieces.length->l[f i]?=x.pieces[i]?){s p:Nat}(hs:s<x.aB.length)(cN:p<x.pieces.length):qb (jZ x l) s (f p)=qb x s p/\wV (jZ x l) s (f p)=wV x s p:=by
 have h1:=abd hx hI hl hp hs cN true;have h2:=abd hx hI hl hp hs cN false;simp only[beq_true,beq_false]at h1 h2;exact⟨h1,h2⟩
end Tk
open Go.Gg.Tk
namespace Tk
def lO (order:List Int)(i:Nat):Nat:=(order.getD i 0).toNat
def Hb (order:List Int)(j:Nat):Nat:=order.idxOf (j:Int)
theorem Ha{order:List Int}{n i:Nat}(h:xk order n)(hi:i<n):order.getD i 0=(lO order i:Int)/\lO order i<n/\order[i]?=some (lO order i:Int):=by
 have hl:=h.len;have hg:order.getD i 0=order[i]'(by omega):=by rw[SD,SO (by omega)];rfl
 have hr:=h.w5 _ (Wy (by omega:i<order.length));have e:order.getD i 0=(lO order i:Int):=by unfold lO;omega
 refine⟨e,by omega,?_⟩;rw[SO (by omega),<- hg,e]
theorem M9{order:List Int}{n:Nat}(h:xk order n){j:Nat}(hj:j<n):(j:Int)∈order:=by
 refine Ts λhn=> ?_;have h1:(order.map XJ).Nodup:=by
  rw[TD,Wb];refine(TD.1 h.nodup).imp_of_mem λ{a b} ha hb fw e=>fw ?_;have:=h.w5 a ha;have:=h.w5 b hb;omega
 have h2:∀a∈order.map XJ,a∈(SZ n).erase j:=λa ha=>by
  obtain⟨v,hv,rfl⟩:=Tl.1 ha;have hr:=h.w5 v hv;refine(List.mem_erase_of_ne λe=>hn ?_).2 (TF.2 (by omega));rw[show (j:Int)=v by omega];exact hv
 have h3:=MU h1 h2;rw[Tm,h.len,List.length_erase_of_mem (TF.2 hj),ZL]at h3;omega
theorem abK{order:List Int}{n:Nat}(h:xk order n):Inv (lO order) (Hb order) n:=by
 have hl:=h.len;refine⟨λi hi=>(Ha h hi).2.1,λj hj=> ?_,λi hi=> ?_,λj hj=> ?_⟩
 ·have:=Ws (M9 h hj);unfold Hb;omega
 ·obtain⟨h1,h2,h3⟩:=Ha h hi;have hm:=M9 h h2;have hlt:=Ws hm;have h4:order[order.idxOf (lO order i:Int)]?=some (lO order i:Int):=by
   rw[SO hlt,Y9 hlt]
  have cu:i<order.length:=by omega
  rw[SO cu]at h3;rw[SO hlt]at h4;unfold Hb;exact abn h.nodup hlt cu ((Vj h4).trans (Vj h3).symm)
 ·have hm:=M9 h hj;have hlt:=Ws hm;have h4:order.getD (order.idxOf (j:Int)) 0=(j:Int):=by
   rw[SD,SO hlt,Y9 hlt];rfl
  unfold lO Hb;rw[h4];rfl
def yL (ps:List aC)(order:List Int):Nat->List aC
 |0=>ps
 |i+1=>(yL ps order i).set (lO order i) (ps.getD i ⟨⟨0,0⟩,⟨0,0⟩⟩)
theorem MO(ps:List aC)(order:List Int):∀i,(yL ps order i).length=ps.length
 |0=>rfl
 |i+1=>by unfold yL;rw[TE,MO ps order i]
theorem abc{ps:List aC}{order:List Int}(h:xk order ps.length):∀i,i<=ps.length->∀j,j<i->(yL ps order i)[lO order j]?=ps[j]?
 |0,_,j,hj=>absurd hj (by omega)
 |i+1,hi,j,hj=>by
  have hI:=abK h;unfold yL;rw[UP];by_cases e:lO order i=lO order j
  ·have:i=j:=(by rw[<- hI.gf i (by omega),e,hI.gf j (by omega)]);subst this;rw[if_pos rfl,if_pos (by rw[MO];exact hI.fl i (by omega)),SD,SO (by omega)];rfl
  ·have aG:i≠j:=λh=>e (by rw[h]);rw[if_neg e];exact abc h i (by omega) j (by omega)
end Tk
open Go.Conc Go.Proofs Go.Gg.Tk
section
variable {lv:Bool}{k kp:AV->List aa->Prop}{Gf:a_->List aa}{t N:Nat}{b:Int}
end
section
variable {lv:Bool}{k kp:AV->List aa->Prop}{Gf:a_->List aa}{t N:Nat}{τ:a_}{b:Int}
end
theorem Qb:(bZ gn).isEmpty=false:=by kernel_rfl
theorem ahF{lo hi:Int}(h:Bounds (live gn) (λh=>h.getD 1 0) lo hi):lo=11/\hi=12:=by
 have k:Bounds (live gn) (λh=>h.getD 1 0) 11 12:=by
  rw[ahJ];exact⟨⟨[10,11,13,14],by simp,rfl⟩,by decide,⟨[10,12,13,14],by simp,rfl⟩,by decide⟩
 exact h.uniq k
theorem ahI:Ch gn 2=[0,2]:=by kernel_rfl
theorem z3:ie (SF .i64 0) 3=[iv 0,iv 0,iv 0]:=rfl
theorem z4:ie (SF .i64 0) 4=[iv 0,iv 0,iv 0,iv 0]:=rfl
section
variable {H:List aa}{k kp:AV->List aa->Prop}
theorem ah6(hm:H[0]?=some .main)(hk:k (bv true) H):bk true SC 19 H [] k kp:=by
 have aG:bZ gn≠[]:=λh=>by have:=Qb;rw[h]at this;cases this
 refine bL (rs:=[.tmp 0]) (nt:=138) Tryz.f19 λhH hA=> ?_;simp only[bt,SX];have aP:∀(L:List aa),(H++L)[H.length]?=L[0]?:=λL=>aW H L 0;have cH:∀(L:List aa)(y:aa),(H++L).set H.length y=H++L.set 0 y:=λL y=>cY H L 0 y;refine ak ?_;refine ak ?_;refine aI ((xK ?_));(try simp only[seval]);refine aI ((Jm yT hm ?_));rw[ahG];(try simp only[seval]);refine ak ?_;refine aI ((xK ?_));(try simp only[seval]);refine aI ((aij (hour:=1) yT (by decide) hm (λh=>absurd h aG) (λlo hi _ hb=> ?_)));obtain⟨rfl,rfl⟩:=ahF hb;(try simp only[seval,aP,cH]);refine ak ?_;refine aI ((xK ?_));(try simp only[seval]);refine aI ((aih (q:=2) yT (by decide) (eI hm) (λh=>absurd h aG) (λ_=> ?_)));rw[show xC (DC gn 2) gn.first 16=[13,14]from ahK];(try simp only[seval]);refine ak ?_;refine aI ((xK ?_));(try simp only[seval]);refine aI ((Jn (s:=0) (q:=0) yT (by decide) (by decide) (eI hm) ?_));rw[Qb,Qc.1,Qc.2,show vM true false=1 from rfl];(try simp only[seval]);refine ak ?_;refine aI ((xK ?_));(try simp only[seval]);refine aI ((aic yT (eI hm) (λh=>absurd h aG) (λ_=> ?_)));rw[show Ch gn gn.aB.length=[0,2]from ahI];(try simp only[seval]);refine ak ?_;refine aI ((xK ?_));(try simp only[seval]);refine aI ((aie (x:=gn) (s:=1) (q:=0) (y:=⟨⟨10,15⟩,⟨2,2⟩⟩) yT rfl (by decide) (λo ho=> ?_)));rw[show zw (gn.wo [((1:Nat):Int)]) ⟨⟨10,15⟩,⟨2,2⟩⟩ 0 (gn.am.toNat+1)=1 from ahE]at ho;subst ho;(try simp only[seval]);refine ak ?_;refine aI ((ain ?_));(try simp only[seval]);refine aI ((aif anK (λl hl=> ?_) (λh=>by rw[Qa]at h;cases h)));rw[Qa]at hl;cases hl;(try simp only[seval]);refine ak ?_;refine aI ((xK ?_));(try simp only[seval]);refine aI ((ah5 yT (eI hm) (λh=>absurd h aG) (λu l hu=> ?_)));have ku:=ahH;rw[hu]at ku;cases ku;(try simp only[seval]);refine eU 77 ?_;simp only[seval,Vr,aP,beq_self_eq_true];refine iU (.agg [iv 11,iv 12]) (bX (aia ⟨rfl,rfl⟩)) ?_;have fw:∀k,dR SC .eql 46 (.agg [iv 11,iv 12]) (.agg [iv 11,iv 12]) k=k (bv true):=λk=>aeM (P:=SC) (t:=46) (n:=2) (xs:=[11,12]) (ys:=[11,12]) (by kernel_rfl) (by kernel_rfl) rfl rfl k;simp only[iv,bv]at fw;(try simp only[seval,fw,Vr,beq_self_eq_true,z2]);(try refine⟨by decide,?_⟩);refine iU (bv true) (bX (zO (xs:=[13,14]) (ys:=[13,14]) (e:=.shut) (e':=.exact) (by decide) ⟨by rw[decide_eq_true rfl],rfl⟩)) ?_;(try simp only[seval,Vr,z1,z2,z3,z4]);(try refine⟨by decide,?_⟩);refine iU (bv true) (bX (zO (xs:=[0,2]) (ys:=[0,2]) (e:=.shut) (e':=.exact) (by decide) ⟨by rw[decide_eq_true rfl],rfl⟩)) ?_;(try simp only[seval,Vr,z1,z2,z3,z4]);(try refine⟨by decide,?_⟩);refine iU (bv true) (bX (zO (xs:=[0]) (ys:=[0]) (e:=.shut) (e':=.exact) (by decide) ⟨by rw[decide_eq_true rfl],rfl⟩)) ?_;(try simp only[seval,Vr,z1,z2,z3,z4]);(try refine⟨by decide,?_⟩);refine iU (bv true) (bX (zO (xs:=[10,11,13,14]) (ys:=[10,11,13,14]) (e:=.shut) (e':=.exact) (by decide) ⟨by rw[decide_eq_true rfl],rfl⟩)) ?_;(try simp only[seval,Vr,z1,z2,z3,z4]);(try refine⟨by decide,?_⟩);refine iU (bv true) (bX (zO (xs:=[12,11,13]) (ys:=[12,11,13]) (e:=.shut) (e':=.exact) (by decide) ⟨by rw[decide_eq_true rfl],rfl⟩)) ?_;(try simp only[seval,Vr,z1,z2,z3,z4]);(try refine⟨by decide,?_⟩);refine iU (bv true) (bX (zO (xs:=[0,2]) (ys:=[0,2]) (e:=.shut) (e':=.exact) (by decide) ⟨by rw[decide_eq_true rfl],rfl⟩)) ?_;(try simp only[seval,Vr,z1,z2,z3,z4]);refine bf ?_;exact jN hH (Wk.refl _) (.val _) hk
theorem arH(m:Nat)(τ:a_):fh m (vE τ):=λa ha=>by
 simp only[SL,S0,or_false]at ha;rcases ha with rfl|rfl|rfl
 ·rw[yI];trivial
 ·exact .val _
 ·exact .val _
noncomputable def IK:Ua:=VF.body.getD .skip
theorem ahS{aA:List Int}(hm:H[0]?=some .main)(hn:aA.length<=2^50)(hk:k (bv true) H):bk true SC 10 H [br aA] k kp:=by
 refine bL (rs:=[.tmp 2]) (nt:=124) VF λhH hA=> ?_;simp only[bt,SX];refine ak ?_;refine ak ?_;refine aI ((ah3 ?_));(try simp only[seval]);obtain⟨Gf,nR⟩:∃Gf:a_->List aa,Gf=λτ=>H++[vE τ]:=⟨_,rfl⟩;obtain⟨N,hN⟩:∃N,N=H.length+1:=⟨_,rfl⟩;have hT:dK Gf H.length N:=by rw[nR,hN];exact arG H
 have Q5:∀τ (L:List aa),(Gf τ++L)[0]?=some .main:=λτ L=>by rw[nR,SA];exact eI hm
 have hGH:∀τ,bM (Gf τ):=λτ=>by
  rw[nR];refine Ld hH λz hz m=> ?_;rw[S9.1 hz];exact arH m τ
 have Q3:∀τ (L:List aa),Gf τ++L=H++([vE τ]++L):=λτ L=>by rw[nR,SA]
 have ja:∀L:List aa,dK (λτ=>Gf τ++L) H.length (N+L.length):=λL=>hT.more L;have ji:∀τ (L:List aa)(j:Nat),(Gf τ++L)[N+j]?=L[j]?:=λτ L j=>by rw[<- hT.len τ,aW]
 have dG:∀τ (L:List aa)(j:Nat)(y:aa),(Gf τ++L).set (N+j) y=Gf τ++L.set j y:=λτ L j y=>by rw[<- hT.len τ,cY]
 have sd:∀τ (L:List aa),(Gf τ++L)[N]?=L[0]?:=λτ L=>ji τ L 0;have C_:∀τ (L:List aa)(y:aa),(Gf τ++L).set N y=Gf τ++L.set 0 y:=λτ L y=>dG τ L 0 y;have h5:∀τ (L:List aa),(Gf τ++L)[N+5]?=L[5]?:=λτ L=>ji τ L 5;have s5:∀τ (L:List aa)(y:aa),(Gf τ++L).set (N+5) y=Gf τ++L.set 5 y:=λτ L y=>dG τ L 5 y;rw[show H++[vE ⟨aA,0,7640891576956012809⟩]=Gf ⟨aA,0,7640891576956012809⟩ by rw[nR]];refine ak ?_;refine aI ((ahX (pm:=4) (b:=0) hT ⟨Xl _,Xl _,hn⟩ (by decide) (by decide) λx bE aA bK τ hx rY _ _ _ hτ=> ?_));have pP:=hx.eN;have bT:x.l=[iv x.first,iv x.hours,iv x.am,dP x.seen,aS x.pieces,aS x.aB]:=rfl;have bz:x.l.length=6:=rfl;have ew:TU 6 x.l=x.l:=rfl;have cW:T1 1 x.l=[iv x.hours,iv x.am,dP x.seen,aS x.pieces,aS x.aB]:=rfl;have kV:T1 2 x.l=[iv x.am,dP x.seen,aS x.pieces,aS x.aB]:=rfl;have CD:T1 4 x.l=[aS x.pieces,aS x.aB]:=rfl;(try simp only[seval,aj.av,sd,C_,bz,hT.len]);refine⟨kM x,?_⟩;have aR:=hx.dx;have rP:T1 5 x.l=[aS x.aB]:=rfl;refine ai ?_;simp only[seval,sd,CD,aS];refine aI ((Jo (n:=x.pieces.length) (ja _) hτ (by omega) (by omega) ?_));have wF:=MP τ x.pieces.length;generalize iq τ x.pieces.length x.pieces.length=m2 at wF⊢;obtain⟨order,σ⟩:=m2;dsimp only at wF⊢;(try simp only[seval]);refine Iz [8,4,3,2] ?_;have akX:br order=.sl x.pieces.length (order.map iv) .shut:=by rw[br,wF.len]
 show aQ _ _ _ _ _ ⟨[(8,br order),(4,.op N 0),(3,.op H.length 0),(2,bv false)],_⟩ _;rw[akX];have key:∀(l:List aC)(BB:List aa)(ix:Nat),l.length=x.pieces.length->(∀i,i<x.pieces.length->l[lO order i]?=x.pieces[i]?)->BB[N]?=some (.cells x.l 26)->BB[ix]?=some (.cells (jZ x l).l 26)->BB[0]?=some .main->(∃L,BB=H++L)->aQ true SC none 124 (lW 6 IK) ⟨[(9,.op ix 0),(8,.sl x.pieces.length (order.map iv) .shut),(4,.op N 0),(3,.op H.length 0),(2,bv false)],BB⟩ (sO SC [.tmp 2] H.length k kp):=by
  intro l BB ix hl hp bN bx b0 hBB;have hI:=abK wF;have LY:=NJ hx hl (MN hI hl hp);have wL:=abe hx hI hl hp;have hze:=ano hx hI hl hp;have hzp:=λ{s p:Nat} hs hq=>anp (s:=s) (p:=p) hx hI hl hp hs hq;have alK:(jZ x l).pieces.length=x.pieces.length:=hl;have alL:(jZ x l).aB.length=x.aB.length:=rfl;have mh:(jZ x l).l.length=6:=rfl;have LW:TU 6 (jZ x l).l=(jZ x l).l:=rfl;generalize jZ x l=z at bx LY wL hze hzp alK alL mh LW;unfold IK VF;dsimp only[S7,lW,cs,cf];refine ai ?_;simp only[seval,bN,bz,ew];refine aI ((Jm hx b0 ?_));(try simp only[seval]);refine ai ?_;simp only[seval,bx,mh,LW];refine aI ((Jm LY b0 ?_));rw[wL];(try simp only[seval]);refine ai ?_;simp only[seval,show ((0:Int)!=0)=false from rfl,bne_self_eq_false];refine aD ?_;refine aN ?_;obtain⟨V,hV⟩:∃V:Nat->Nat->Int,∀s p,V s p=if(bZ x).isEmpty then 0 else vM (qb x s p) (wV x s p):=⟨_,λ_ _=>rfl⟩;obtain⟨g,hg⟩:∃g:Int,g=if(bZ x).isEmpty then 11 else 0:=⟨_,rfl⟩;have kW:cnt x>0->g=0:=λh=>by
   have:=(IS x).1 h;rw[hg];cases ht:bZ x with
   |nil=>exact absurd ht this
   |cons a l=>rfl
  refine ak ?_;refine cL ?_;refine sY x.aB.length (λs:Nat=>[(15,iv s)]) (λ_=>BB) (λ_=>True) trivial (λb_ dj s wG _ R hR=> ?_);clear b_ dj;refine ai ?_;simp only[seval,bN,rP,aS];refine aD ?_;refine⟨λhc=> ?_,λhc=> ?_⟩
  ·have b9:s<x.aB.length:=(by omega);have bU:SE.wrap ((s:Int)+1)=((s+1:Nat):Int):=(by rw[bG _ (by omega)];rfl);refine aN ?_;refine ak ?_;refine cL ?_;refine sY x.pieces.length (λp:Nat=>[(16,iv p)]) (λ_=>BB) (λ_=>True) trivial (λb_ dj p Lm _ R2 tp=> ?_);clear b_ dj;refine ai ?_;simp only[seval,bN,CD,aS];refine aD ?_;refine⟨λhc=> ?_,λhc=> ?_⟩
   ·have cN:p<x.pieces.length:=(by omega);have f_:SE.wrap ((p:Int)+1)=((p+1:Nat):Int):=(by rw[bG _ (by omega)];rfl);obtain⟨o1,o2,o3⟩:=Ha wF cN;have Cx:0<=(p:Int)/\(p:Int)<x.pieces.length:=⟨by omega,by omega⟩;obtain⟨z1,z2⟩:=hzp b9 cN;refine aN ?_;refine ai ?_;simp only[seval,bN,bz,ew];refine aI ((Jn (x:=x) (s:=s) (q:=p) hx b9 cN b0 ?_));rw[<- hV,<- hg];(try simp only[seval]);refine eU 12 ?_;simp only[seval,bx,mh,LW,ff o3,Cx];refine iU (.aM [iv (V s p),iv g]) (bX (Jn (x:=z) (s:=s) (q:=lO order p) LY (by omega) (by omega) b0 ⟨by rw[hze,z1,z2,<- hV,<- hg],rfl⟩)) ?_;(try simp only[seval]);by_cases fX:cnt x>0
    ·have hgz:=kW fX;have d0:decide (cnt x>0)=true:=decide_eq_true fX;refine ai ?_;simp only[seval,bne_self_eq_false,d0,hgz,show ((0:Int)!=0)=false from rfl];refine aD ?_;refine aN ?_;refine ai ?_;simp only[seval,f_];refine tp _ ⟨cN,trivial,dn⟩
    ·have d0:decide (cnt x>0)=false:=decide_eq_false fX;refine ai ?_;simp only[seval,bne_self_eq_false,d0];refine aD ?_;refine aN ?_;refine ai ?_;simp only[seval,f_];refine tp _ ⟨cN,trivial,dn⟩
   ·have Dd:p=x.pieces.length:=(by omega);subst Dd;refine cq ?_;refine ai ?_;simp only[seval,bU];refine hR _ ⟨b9,trivial,dn⟩
  ·have Dd:s=x.aB.length:=(by omega);subst Dd;refine cq ?_;refine ak ?_;refine aI ((ah6 b0 ?_));(try simp only[seval]);refine bf ?_;obtain⟨L,rfl⟩:=hBB;exact jN hH (Wk.refl _) (.val _) hk
 unfold IK VF at key;dsimp only[S7,lW,cs,cf]at key;rcases UH x.pieces.length with h0|h0
 ·refine ai ?_;simp only[seval,sd,bz,ew];refine aI ((ah8 hx ?_));(try simp only[seval,aj.av,ji,dG,bz,hT.len]);refine⟨kM x,?_⟩;refine ak ?_;refine cL ?_;refine sY 0 (λi:Nat=>[(10,iv i)]) (λ_=>Gf σ++[.cells x.l 26,.cells x.l 26]) (λ_=>True) trivial (λb_ dj i cV _ R hR=> ?_);clear b_ dj hR;have eQ:i=0:=by omega
  subst eQ;refine ak ?_;refine aD ?_;refine⟨λhc=>by omega,λ_=> ?_⟩;refine cq ?_;refine iZ ?_ (key x.pieces (Gf σ++[.cells x.l 26,.cells x.l 26]) (N+1) rfl (λi h=>by omega) (by rw[sd];rfl) (by rw[ji];rfl) (Q5 _ _) ⟨_,Q3 _ _⟩);exact eE (by simp only[seval];simp[bw,Wk.refl]) rfl
 ·refine ai ?_;simp only[seval,sd,bz,ew];refine aI ((ah9 (x:=x) hx h0 (λc1 c2=> ?_)));have ek:∀p,∀a∈yC x (.bp p 0 x.pieces.length 0),a.leaf=true:=by
   intro p a ha;simp only[yC,SL,S0,or_false]at ha;rcases ha with rfl|rfl|rfl|rfl|rfl|rfl<;>rfl
  have pK:∀q,T1 4 (yC x q)=[q,aS x.aB]:=λ_=>rfl;have Al:∀q,(yC x q).length=6:=λ_=>rfl;(try simp only[seval,ji,dG,Al,hT.len]);refine⟨ek _,?_⟩;have h4:∀τ (L:List aa),(Gf τ++L)[N+4]?=L[4]?:=λτ L=>ji τ L 4;have s4:∀τ (L:List aa)(y:aa),(Gf τ++L).set (N+4) y=Gf τ++L.set 4 y:=λτ L y=>dG τ L 4 y;obtain⟨M,hM⟩:∃M:Nat->List aC,∀i,M i=yL x.pieces order i:=⟨_,λ_=>rfl⟩;have hMl:∀i,(M i).length=x.pieces.length:=λi=>by rw[hM];exact MO _ _ _
  have J6:M 0=x.pieces:=hM 0;refine ak ?_;refine cL ?_;refine iD x.pieces.length (λi:Nat=>[(10,iv i)]) (λi=>Gf σ++[.cells x.l 26,c1,c2,.tail x.seen.length 3 61,.own 4 ((M i).flatMap aC.l) 48,.tail x.aB.length 4 48,.cells (yC x (.bp (N+1+3) 0 x.pieces.length 0)) 26]) (λ_=>True) (λ_ _=>rfl) (by simp only[seval];simp[bw,Wk.refl]) (by rw[J6]) (λ_ _ _=>by simp) trivial (λb_ dj i cV _ R hR=> ?_);clear b_ dj;have Q_:=hMl i;refine ak ?_;refine aD ?_;refine⟨λhc=> ?_,λhc=> ?_⟩
  ·have bD:i<x.pieces.length:=(by omega);have bU:SE.wrap ((i:Int)+1)=((i+1:Nat):Int):=(by rw[bG _ (by omega)];rfl);obtain⟨o1,o2,o3⟩:=Ha wF bD;obtain⟨y,hy⟩:=cD bD;have nd:0<=(i:Int)/\(i:Int)<x.pieces.length:=⟨by omega,by omega⟩;have uL:(0<=(lO order i:Int)/\(lO order i:Int)<x.pieces.length)=True:=(by simp;omega);have hMs:M (i+1)=(M i).set (lO order i) y:=(by rw[hM,hM,yL,SD,hy];rfl);have LA:=NK (ys:=M i) (p:=lO order i) (y:=y) (s:=0) (by omega) rfl;rw[<- hMs]at LA;simp only[aC.l,iM.l,iv,Ve,UK]at LA;refine aN ?_;refine cL ?_;refine eU 12 ?_;simp only[seval,ji,h4,s4,sd,pK,Al,CD,aS,ff o3,nd,uL,DY hy];refine⟨by rw[mP aC.len];omega,?_⟩;rw[LA];refine ai ?_;simp only[seval,bU];refine hR _ ⟨bD,trivial,dn⟩
  ·have Dd:i=x.pieces.length:=(by omega);subst Dd;refine cq ?_;refine O3 (yA:=N+4) (oe:=N+6) (j:=4) (cap:=0) (ps:=M x.pieces.length) (by simp only[seval,h4]) (by simp only[seval,ji];rfl) (by omega) (by rw[Q_];rfl) ?_;have hkz:∀q,(yC x q).set 4 (aS (M x.pieces.length))=(jZ x (M x.pieces.length)).l:=λ_=>rfl;(try simp only[seval,s4,dG,hkz]);refine iZ ?_ (key (M x.pieces.length) (Gf σ++[.cells x.l 26,c1,c2,.tail x.seen.length 3 61,.part ((M x.pieces.length).length* 4) ((M x.pieces.length).flatMap aC.l) 48,.tail x.aB.length 4 48,.cells (jZ x (M x.pieces.length)).l 26]) (N+6) Q_ (λi h=>by rw[hM];exact abc wF _ (SR _) i h) (by rw[sd];rfl) (by rw[ji];rfl) (Q5 _ _) ⟨_,Q3 _ _⟩);exact eE (by simp only[seval];simp[bw,Wk.refl]) rfl
end
open Go.ChangeShapes Go.WideShapes Go.ChangeAt Go.RowKit
def Ed (W:To):View:=⟨λb o=>W.cell? ⟨b,o,none⟩,λ_=>none,0,.plain⟩
def B6 (W:To):Env:=⟨(Ed W).ab,1,λ_=>0,λ_ _=>(none,0),λ_=>0,λ_=>none,true⟩
theorem ap4(W:To):Sat (Ed W) W:=⟨λ_ _ _ h=>h,λ_ _ h=>by cases h⟩
theorem agC(W:To):Conc (B6 W) (Ed W) [.main]where
 I:=rfl
 n:=rfl
 obj:=λk x h=>by
  match k,h with
  |0,h=>cases h;exact rfl
  |k+1,h=>cases h
 inj:=λi j x y b hi hj h1 h2=>by
  match i,hi with
  |0,hi=>cases hi;cases h1
  |i+1,hi=>cases hi
 group:=λg h=>by cases h
 chan:=λc h=>by cases h
 top:=λ_=>⟨rfl,rfl⟩
 fr:=λb y h=>by cases h
theorem ajw{f:TO}{W:To}{args:Array SQ}{mz:List AV}{Q:SQ->Prop}(hi:SC.inits.idxOf? f=none)(hd:cP (B6 W) mz args)(h:bk true SC f [.main] mz (λa _=>∀E v,ap E a v->Q v) (λ_ _=>False)):
  ∃M last o w' t',runNT SC (M+1) (solo (G (Frame.enter SC f args .normal) []) W) #[]=(.ended o w',t')/\runN SC M (solo (G (Frame.enter SC f args .normal) []) W)=.next last/\step SC last=.ended o w'/\WV SC (λv w=>Q v/\Left W.heap.size W w) last o w' t':=
 ajv hi (V:=Ed W) rfl rfl rfl (ap4 W) (h (B6 W) (Ed W) args (agC W) hd) λo V' r=>by
  cases o with
  |ret v=>
   obtain⟨av,E',H',_,cp,_,bm,_,hk⟩:=r;exact⟨cp,v,rfl,λw _ hl=>⟨hk _ _ bm,hl⟩⟩
  |panic ch=>
   obtain⟨pv,v,E',H',_,_,_,_,_,_,hf⟩:=r;exact hf.elim
theorem agO{W:To}{b o len cap:Nat}{zs:List Int}(hl:zs.length=len)(hc:len<=cap)(h:∀i,i<len->W.cell? ⟨b,o+i,none⟩=some (.int .i64 (zs.getD i 0))):ap (B6 W) (br zs) (.slice (some ⟨b,o,none⟩) len cap):=by
 subst hl;refine .sl b o cap (λi=> .int .i64 (zs.getD i 0)) hc trivial (λi hi=> ?_) (λi x hx=> ?_)
 ·exact h i (by simpa using hi)
 ·rw[Tn]at hx;obtain⟨z,hz,rfl⟩:=Tp.1 hx;rw[SD,hz];exact .val _
theorem Left.below{W w:To}(h:Left W.heap.size W w):Below W.heap.size W w:=⟨h.os,h.tape,h.out,h.size,h.old⟩
theorem Tz.own:ownKnob SC.godebug=none:=by kernel_rfl
theorem Tz.laidOut:laidOutB SC=true:=by kernel_rfl
theorem Tz.HK:SC.underlying 22=some (.slice 3):=by kernel_rfl
theorem Tz.u3:SC.underlying 3=some (.int .i64):=by kernel_rfl
theorem Tz.u4:SC.underlying 4=some .bool:=by kernel_rfl
theorem Tz.c3:SC.cellsOf 3=1:=by kernel_rfl
theorem Tz.b3:SC.bytesOf 3=8:=by kernel_rfl
theorem Tz.r22:SC.readableRec 22=true:=by kernel_rfl
theorem Tz.Mq:22<SC.types.size:=of_decide_eq_true (by kernel_rfl)
theorem apD{H:Type}{enc:TypeId×SQ->H}{a:Assume}{C:Checked}{os:Os}{f:TO}{fn:Yz}{s:ZV}{conds:List PathCond}{apart fresh handsOn again:Bool}{X:To->Array SQ->Prop}
  (own:ownKnob C.prog.godebug=none) (started:os.Started) (yb:C.prog.funcs[f]?=some fn)
  (witness:∃(w:To)(tape:Tape)(i:Input),w.os=os/\(w.forCall tape i).Shaped C.prog/\i.vars=[]/\ZR C.prog (w.forCall tape i) .any w.heap.size f i/\
   ((s.pre enc C.prog fn conds apart (w.forCall tape i).memory i.args/\X (w.forCall tape i).memory i.args)/\sizedMet enc C.prog fn (VD s) apart (w.forCall tape i).memory i.args)/\a.holds C.prog (lone (Frame.enter C.prog f i.args .normal) [] (w.forCall tape i)))
  (runs:∀(W:To)(base:Nat)(args:Array SQ)(ds gs:List (aj_ H))(before:List MemPlace),
   (∀(j:Nat) t v,fn.params[j]?=some t->args[j]?=some v->Ys C.prog W .any base t v)->
   DataW.Whole enc C.prog fn.params.toList s.vars apart W args.toList ds gs before->
   conds.all (asg C.prog ⟨fn.params.toList,ds,s.plain.varTypes C.prog,gs⟩)=true->
   (Za C.prog (fn.params.toList++s.plain.varTypes C.prog) (ds++gs)).all (·<=reachBytes)=true->
   a.holds C.prog (lone (Frame.enter C.prog f args .normal) [] W)->
   ∃M last o w' t',runNT C.prog (M+1) (solo (G (Frame.enter C.prog f args .normal) []) W) #[]=(.ended o w',t')/\runN C.prog M (solo (G (Frame.enter C.prog f args .normal) []) W)=.next last/\
    step C.prog last=.ended o w'/\WV C.prog (λv W'=>s.post enc C.prog fn apart fresh handsOn again W args v W') last o w' t'):
  Xt a C os f .any (λw args=>(s.pre enc C.prog fn conds apart w args/\X w args)/\sizedMet enc C.prog fn (VD s) apart w args) (s.post enc C.prog fn apart fresh handsOn again):=by
 refine returnsInLeavingWide_of_good own started witness ?_;intro w tape i _ _ _ au Lq aks;obtain⟨_,_,_,fU,akq,_,_,_,_,Gm⟩:=au;have e:fU=fn:=Vj (akq.symm.trans yb);subst e;obtain⟨⟨⟨ds,gs,before,hw,hc⟩,_⟩,hz⟩:=Lq;have lL:=ai' (w':=w.forCall tape i) (by rfl) hw;obtain⟨M,last,o,w',t',h1,h2,h3,h4⟩:=runs (w.forCall tape i) w.heap.size i.args ds gs before Gm lL hc (hz.weights hw) aks;exact⟨M,last,o,w',t',h1,h2,h3,h4.mono λv hp=>an_ hp⟩
def ad2 (f:TO):Prop:=∀aA:List Int,aA.length<=2^50->bk true SC f [.main] [br aA] (λa _=>a=bv true) (λ_ _=>False)
set_option maxRecDepth 100000 in
theorem alN{f:TO}{fn:Yz}{s:ZV}{X:To->Array SQ->Prop}(hf:SC.funcs[f]?=some fn)(hp:fn.params=#[22]) (hr:fn.resultTypes=#[4]) (hv:s.vars=[]) (hs:∀(H:Type)(d:aj_ H),s.fn H [d]={results:=[.lit (.bool true)],args:=[d]}) (hi:SC.inits.idxOf? f=none) (akB:ad2 f)
  (os:Os) (started:os.Started) (H:Type) (enc:TypeId×SQ->H)
  (alI:∃(w:To)(tape:Tape)(i:Input),w.os=os/\(w.forCall tape i).Shaped Uz.prog/\i.vars=[]/\ZR Uz.prog (w.forCall tape i) .any w.heap.size f i/\
   ((s.pre enc Uz.prog fn [] false (w.forCall tape i).memory i.args/\X (w.forCall tape i).memory i.args)/\sizedMet enc Uz.prog fn (VD s) false (w.forCall tape i).memory i.args)/\({}:Assume).holds Uz.prog (lone (Frame.enter Uz.prog f i.args .normal) [] (w.forCall tape i))):
  Xt {} Uz os f .any (λw args=>(s.pre enc SC fn [] false w args/\X w args)/\sizedMet enc SC fn (VD s) false w args) (s.post enc SC fn false true false false):=by
 refine apD (C:=Uz) Tz.own started hf alI ?_;intro W base args ds gs before aat hW _ LF _;have aY:(Za SC (fn.params.toList++s.plain.varTypes SC) (ds++gs)).all (·<=reachBytes)=true:=LF;clear LF;have Gm:∀(j:Nat) t v,fn.params[j]?=some t->args[j]?=some v->Ys SC W .any base t v:=aat;have wa:=hW;obtain⟨p,q,Fu,hV,rfl,_,_⟩:=hW;have hA:DataW.TrodAll enc SC W 0 (λ_=>true) true fn.params.toList args.toList ds p:=Fu;rw[hp]at hA Gm aY;obtain⟨v0,d0,rfl,rfl,h0⟩:=trodAll_one hA;rw[hv]at hV;obtain⟨rfl,rfl⟩:=trodVars_none hV;have au:=Gm 0 22 v0 rfl rfl;obtain⟨a0,len,cap,rfl⟩:=okWide_slice Tz.HK au;have h0k:=h0;obtain⟨fuel,hfu⟩:=h0;clear Fu aat;simp only[SI]at wa;have hlt:∀x∈p,x.block<W.heap.size:=λx hx=>by simpa using wa.lt x hx
 have cS:∀(W':To),Below W.heap.size W W'->DataW.Trod enc SC W' 0 (λb=>decide (b<W.heap.size)) true 22 (.slice a0 len cap) d0 p:=
  λW' hn=>Below.trod Tz.laidOut Tz.r22 Tz.Mq h0k hn hlt
 have close:∀aA:List Int,aA.length<=2^50->ap (B6 W) (br aA) (.slice a0 len cap)->
   ∃M last o w' t',runNT Uz.prog (M+1) (solo (G (Frame.enter Uz.prog f #[.slice a0 len cap] .normal) []) W) #[]=(.ended o w',t')/\
    runN Uz.prog M (solo (G (Frame.enter Uz.prog f #[.slice a0 len cap] .normal) []) W)=.next last/\step Uz.prog last=.ended o w'/\
    WV Uz.prog (λv W'=>s.post enc Uz.prog fn false true false false W #[.slice a0 len cap] v W') last o w' t':=by
  intro aA hn hd;obtain⟨M,last,o,w',t',h1,h2,h3,h4⟩:=ajw (Q:=λv=>v=.bool true) (args:=#[.slice a0 len cap]) (mz:=[br aA]) hi ⟨rfl,λi a e=>by
   match i,e with
   |0,e=>cases e;exact hd⟩ ((akB aA hn).mono (λa H' e E v bm=>by subst e;cases bm;rfl) λ_ _ h=>h)
  refine⟨M,last,o,w',t',h1,h2,h3,h4.mono λv ⟨hQ,hL⟩=> ?_⟩;subst hQ;have hb:=hL.below;refine⟨[d0],[],_,[],p,[],wa,?_,?_,by rw[hv];exact(by rw[show ([d0]++[]:List (aj_ H))=[d0]from rfl,hs];rfl),hb.frame _,λh=>by cases h⟩
  ·rw[show ([d0]++[]:List (aj_ H))=[d0]from rfl,hs,hr];exact trodAll_mk1 (shut_bool Tz.u4 true)
  ·rw[show ([d0]++[]:List (aj_ H))=[d0]from rfl,hs,hp];exact trodAll_mk1 (cS _ hb)
 rcases open_ints Tz.HK Tz.u3 Tz.c3 hfu with⟨pD,hx⟩|⟨a,atI,cap',zs,pD,_,hl,hm,hz,hx,Ko,hwz⟩
 ·simp[Z5]at pD;obtain⟨rfl,rfl,rfl⟩:=pD;exact close [] (by simp) (.nil trivial)
 ·simp[Z5]at pD;obtain⟨rfl,rfl,rfl⟩:=pD;simp only[UY]at hx;obtain⟨rfl,rfl⟩:=hx;simp only[if_true]at hz;have aaj:a.spot=none:=by
   have:=au;simp only[Ys,Tz.HK,Cell.okWide,Cell.ok]at this;exact this.2.2.2.1
  have atB:len* 8<=140737488355328:=by
   have:=sized_slice aY (j:=0) (t:=22) (e:=3) rfl rfl Tz.HK;rw[Tz.b3]at this;simp only[lits,Tm,Uf,Uo,reachBytes]at this;omega
  obtain⟨bl,off,spot⟩:=a;simp only at aaj;subst aaj;have mh:(zs.take len).length=len:=by rw[Uf];omega
  refine close (zs.take len) (by rw[mh];omega) (agO mh hl λi hi=> ?_);have:=Ko i (by omega);rw[show (at2 ⟨bl,off,none⟩ i)=⟨bl,off+i,none⟩ by simp[at2]]at this;rw[this,SD,SD,List.getElem?_take_of_lt hi]
def aaA:List (List Nat):=[99,117,116]::[97,116]::[[70,105,114,115,116],[87,105,100,101,114],[71,105,118,101,110],[65,112,97,114,116],[70,111,114,103,101,100],[82,101,97,100],[71,114,101,97,116,101,114],[77,105,120,101,100],[84,114,117,101],[83,116,101,112,115],[79,114,100,101,114],[65,108,108]].map ([103,108,97,100,115,116,111,110,101,47,103,108,97,100,115,116,111,110,101,108,97,119,48,49,46,84,105,99,107,101,116]++·)
def aaz:List Nat:=[104,97,114,110,101,115,115,32,52,53,102,100,53,51,53,49,102,55,99,100,57,55,51,53,100,100,102,52,98,97,54,100,48,51,53,50,49,55,53,54,101,100,101,54,101,54,99,53,99,99,52,49,57,100,50,53,55,100,49,55,57,50,99,52,48,101,97,100,49,102,57,101]++aaA.flatMap (32::·)
set_option maxRecDepth 100000 in
theorem ioL:SC.initOrder.toList=aaz.map Zc:=by
 have h:SC.initOrder=String.ofList (aaz.map Zc):=by kernel_rfl
 rw[h,String.toList_ofList]
def Mc:List (List Char):=aaA.map λl=>l.map Zc
set_option maxRecDepth 100000 in
theorem ioW:behindMainWord (wordsSigns SC.initOrder.toList)=Mc:=by
 rw[ioL]
 kernel_rfl
section
variable {P:SJ}{c:List Char}{rest:List (List Char)}
theorem anh (h : behindMainWord (wordsSigns P.initOrder.toList) = c :: rest) (hc : c = "cut".toList) (h1 : stripLifts liftWords (c :: rest) = ([], c :: rest)) (h2 : P.laysLater = false) (h3 : P.bearsReflect = false) (h4 : P.doorFits [] = true) : P.mayEnter = true := by
 unfold at3;rw[h];subst hc;simp only[h1,h2,h3,h4,ZM,beq_self_eq_true,Zh,YA,Zu,Bool.or_true,aa_,Vs]
theorem akn (h : behindMainWord (wordsSigns P.initOrder.toList) = c :: rest) (hc : c = "cut".toList) (h1 : stripLifts liftWords (c :: rest) = ([], c :: rest)) : P.headLifts = [] := by
 unfold at6;rw[h];simp only[h1,ite_self]
theorem amM (h : behindMainWord (wordsSigns P.initOrder.toList) = c :: rest) (hc : c = "cut".toList) (h1 : stripLifts liftWords (c :: rest) = ([], c :: rest)) : P.liftsFinal = false := by
 unfold at5;rw [akn h hc h1, h];subst hc;simp only [ZM, Zh, Bool.or_false];have : (some "cut".toList == some "carried".toList) = false := by decide +kernel
 rw[this,YB]
theorem anb (h : behindMainWord (wordsSigns P.initOrder.toList) = c :: rest) (hc : c = "cut".toList) : P.make = some .cut := by
 unfold at4;rw [h];subst hc;have e1 : ("cut".toList == "gc".toList) = false := by decide +kernel
 have e2 : ("cut".toList == "spec".toList) = false := by decide +kernel
 simp only[e1,e2,Bool.or_self,TM,if_false,beq_self_eq_true,af',if_true]
end
def GA:List Char:=Mc.headD []
def Ma:List (List Char):=Mc.tail
theorem Mb:behindMainWord (wordsSigns SC.initOrder.toList)=GA::Ma:=ioW.trans (by kernel_rfl)
theorem L_ : GA = "cut".toList := by kernel_rfl
theorem ioS:stripLifts liftWords (GA::Ma)=([],GA::Ma):=by kernel_rfl
theorem Tz.mayEnter:SC.mayEnter=true:=anh Mb L_ ioS (by kernel_rfl) (by kernel_rfl) (by kernel_rfl)
theorem Tz.amL:SC.liftsFinal=false:=amM Mb L_ ioS
theorem Tz.make:SC.make=some .cut:=anb Mb L_
theorem al0{P:SJ}{f:TO}{fn:Yz}{s:ZV}{c:Yd}
  (k0:(c.wf (VD s))=true)
  (k1:(laidOutB P)=true)
  (k2:(mapsRowed P)=true)
  (k3:(fn.params.all (P.readableRec ·))=true)
  (k4:(namedTie P c.named s.vars)=true)
  (k5:((c.stops==[]))=true)
  (k6:((P.stops==[]))=true)
  (k7:((c.knobs==[]))=true)
  (k8:((P.stopKnobs==[]))=true)
  (k9:((c.inPlace==P.inPlace f))=true)
  (Di:((c.unfollowed==P.unfollowed f))=true)
  (Me:((c.recurses==P.recurses f))=true)
  (AE:((c.named==P.varsNamed f))=true)
  (Mf:((c.maps==(fn.params.toList++s.plain.varTypes P).any (P.mapsRec ·)))=true)
  (Dj:((c.ifaces==(fn.params.toList++s.plain.varTypes P).any (P.ifacesRec ·)))=true)
  (Mg:((c.mapsOut==P.mapsAmong fn.resultTypes.toList))=true)
  (Mh:((c.loops==(fn.params.toList++s.plain.varTypes P).any (P.loopsFrom ·)))=true)
  (Mi:((c.wideKeys==(fn.params.toList++s.plain.varTypes P++fn.resultTypes.toList).any (P.wideKeysFrom ·)))=true)
  (k18:(s.vars.all (P.varReadable ·))=true)
  (k19:(fn.resultTypes.all (λt=>P.readableRec t&&decide (t<P.types.size)))=true)
  (Mj:((c.ifacesOut==fn.resultTypes.toList.any (P.ifacesRec ·)))=true)
  (Mk:((c.loopsOut==fn.resultTypes.toList.any (P.loopsFrom ·)))=true)
  (Ml:((c.plainKeys==P.plainKeys))=true)
  (Mm:(c.shortTexts.isNone)=true)
  (Mn:(P.stopsHeard)=true)
  (Mo:(P.mayEnter)=true)
  (k26:((c.lifted==P.liftsFinal))=true)
  (k27:((P.make==some c.make))=true)
  (k28:c.domain.isEmpty=true) (al3:c.kinds=[])
  (k29:((c.pinned==c.pinnedBy))=true)
  (k30:((c.veiled==(fn.params.toList++s.plain.varTypes P++fn.resultTypes.toList).any (P.veiledRec ·)))=true)
  (k31:(c.veiledFits P fn.params.toList (fn.params.toList++s.plain.varTypes P++fn.resultTypes.toList))=true):joinedFacts P f fn s c=true:=by
 simp only[joinedFacts,k0,k1,k2,k3,k4,k5,k6,k7,k8,k9,Di,Me,AE,Mf,Dj,Mg,Mh,Mi,k18,k19,Mj,Mk,Ml,Mm,Mn,Mo,k26,k27,k28,al3,if_true,beq_self_eq_true,k29,k30,k31,aa_]
theorem amK{c:Yd}(h:c.lifted=false):(c.lifted==SC.liftsFinal)=true:=by rw[Tz.amL,h];rfl
theorem anc{c:Yd}(h:c.make=.cut):(SC.make==some c.make)=true:=by rw[Tz.make,h];rfl
end Go.Gg
namespace Go.Proofs.YtkanpclgnhdbiaaGreatDoor
open Go.Conc Go.Proofs Go.Gg
theorem arF(Lk:Looks){p:Pinned}{s:OpenSpec}{c:Yd}(al:List (List PathCond))(kinds:List LaidKind)(HG:Bool)(wc:Bool×String)(lk:Bool)
  (hc:c.holds p s) (gZ:∀D∈al,(c.withDomain D).holds p s) (hw:c.wfByText s=true) (alG:∀D∈al,(c.withDomain D).wfByText s=true)
  (alB:c.laidByTextAt Lk p kinds HG)
  (aR:c.start=.entering) (tK:c.noBlocks=false/\c.again=false) (hm:p.checked.prog.mainIs=some (wc.1,wc.2.toList)) (hn:(!wc.1&&wc.2.isEmpty&& !lk)=false)
  (hl:∀f fn,p.checked.prog.funcNamed c.func=some f->p.checked.prog.funcs[f]?=some fn->lk=p.checked.prog.looks []/\∀(j:Nat) t,fn.params[j]?=some t->p.checked.prog.wantsStandIn t=false)
  (hg:true=c.goesBy p.checked.prog):
  Claim7.holds p (.plain s) {stood:={row:=c,standIns:=[],harness:=wc,looks:=lk},kinds:=[],alts:=al,goes:=true,laidByText:=true,laidKinds:=kinds,laidTests:=HG,laidLooks:=Lk}:=by
 have h6:∀r:Yd,Zt {stood:={row:=r,standIns:=[],harness:=wc,looks:=lk},kinds:=[]}=false:=λr=>by simpa[Zt]using hn
 refine⟨YU Lk kinds HG (YJ hc wc lk aR tK hm (h6 c) hl) hw,λD hD=> ?_,alB,(λh=>by cases h),hg⟩;exact YU Lk kinds HG (YJ (gZ D hD) wc lk aR tK hm (h6 _) hl) (alG D hD)
theorem aaO:SC.funcNamed Rows.ticketMixedRow.func=some 10:=by kernel_rfl
theorem aml:joinedFacts SC 10 VF Rows.ticketMixedSpec Rows.ticketMixedRow=true:=
 al0 (by kernel_rfl) Tz.laidOut (by kernel_rfl) (by kernel_rfl) (by kernel_rfl) (by kernel_rfl) (by kernel_rfl) (by kernel_rfl) (by kernel_rfl) (by kernel_rfl) (by kernel_rfl) (by kernel_rfl) (by kernel_rfl) (by kernel_rfl) (by kernel_rfl) (by kernel_rfl) (by kernel_rfl) (by kernel_rfl) (by kernel_rfl) (by kernel_rfl) (by kernel_rfl) (by kernel_rfl) (by kernel_rfl) (by kernel_rfl) (by kernel_rfl) Tz.mayEnter (amK (by kernel_rfl)) (anc (by kernel_rfl)) (by kernel_rfl) (by kernel_rfl) (by kernel_rfl) (by kernel_rfl) (by kernel_rfl)
theorem amk:VF.isInstance SC Rows.ticketMixedRow.origin Rows.ticketMixedRow.targs:=of_decide_eq_true (by kernel_rfl)
theorem amm:VF.isWrapper SC Rows.ticketMixedRow.wrapper Rows.ticketMixedRow.mainSum:=by unfold Func.isWrapper;first|(rw[if_pos (by decide+kernel)];kernel_rfl)|(rw[if_neg (by decide+kernel)];exact⟨rfl,rfl⟩)
theorem amj(os:Os)(args:Array SQ):laidMetH SC Rows.ticketMixedRow.laid ((Zz SC 400 os).forCall (λ_ _=>0) ⟨#[],args,[]⟩).memory:=
 laidMetH_of_parts (laidMet_nil _ _) (by kernel_rfl)
theorem amn(os:Os)(started:os.Started)(H:Type)(enc:TypeId×SQ->H):
  Xt {} Uz os 10 .any (λw args=>(Rows.ticketMixedSpec.pre enc SC VF [] false w args/\laidMetH SC Rows.ticketMixedRow.laid w)/\sizedMet enc SC VF (VD Rows.ticketMixedSpec) false w args) (Rows.ticketMixedSpec.post enc SC VF false true false false):=
 alN (f:=10) (fn:=VF) (s:=Rows.ticketMixedSpec) (X:=λw _=>laidMetH SC Rows.ticketMixedRow.laid w) YR rfl rfl rfl (λ_ _=>rfl) (by kernel_rfl) (λaA hn=>ahS rfl hn rfl) os started H enc
  (am' (enc:=enc) (C:=Uz) (os:=os) (X:=λw _=>laidMetH SC Rows.ticketMixedRow.laid w) false (Zz SC 400 os) #[.slice none 0 0] 8 rfl (World.shaped_of_RefB (by kernel_rfl) (by kernel_rfl)) (by kernel_rfl) (by kernel_rfl) (by kernel_rfl) (amj os _))
theorem arE:Rows.TicketMixedSaid:=
 ao' 10 VF rfl rfl rfl rfl rfl rfl rfl ⟨rfl,rfl,rfl,rfl,rfl⟩ rfl rfl rfl rfl rfl aaO YR aml amk amm
  (λos started H enc _=>amn os started H enc)
theorem ticketMixedCard_holds:Rows.TicketMixedCardSaid:=
 arF .later [] [.handle] true (true, "45fd5351f7cd9735ddf4ba6d03521756ede6e6c5cc419d257d1792c40ead1f9e") true
  arE (λ_ h=>by cases h) (by kernel_rfl) (λ_ h=>by cases h) ticketMixed_row_tie rfl ⟨rfl,rfl⟩ (by kernel_rfl) rfl
  (λf fn hf yb=>by
   obtain rfl:f=10:=Vj (aaO.symm.trans hf)|>.symm;obtain rfl:fn=VF:=(Vj (YR.symm.trans yb)).symm;exact⟨by kernel_rfl,λj t ht=>by
    rw[show VF.params=#[22]from rfl]at ht;have h3:t=22:=by
     rcases j with _|j
     ·simpa using ht.symm
     ·simp at ht
    subst h3;exact(show SC.wantsStandIn 22=false by kernel_rfl)⟩)
  (by kernel_rfl)
end Go.Proofs.YtkanpclgnhdbiaaGreatDoor
