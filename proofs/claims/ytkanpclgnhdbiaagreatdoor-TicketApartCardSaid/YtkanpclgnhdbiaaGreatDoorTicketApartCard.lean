/- For every list of numbers, TicketApart returns true and does not panic, in any order in which its goroutines run; errors.errorType starts as the text of the program lays it. -/
import Derived.Test.YtkanpclgnhdbiaaGreatDoorTicketApartCard4
import Derived.Conc.LeavingOf
import Derived.Conc.Holds
import Derived.ProofKit
import Derived.Test.YtkanpclgnhdbiaaGreatDoorChecked
import Derived.Test.YtkanpclgnhdbiaaGreatDoorRows
import Derived.LaidMore
import Derived.SevenTiedAt
import Derived.Test.YtkanpclgnhdbiaaGreatDoorTie
import Derived.Test.YtkanpclgnhdbiaaGreatDoorCards
set_option linter.all false
set_option maxRecDepth 4000
set_option maxHeartbeats 4000000
open Bool renaming and_eq_true->Te,and_self->ah',false_and->Vt,false_eq_true->TV,false_or->ZH,not_false->YM,or_eq_true->Xn,true_and->UP,true_or->am'
open Char renaming ofNat->Zq
open Classical renaming byContradiction->Tv
open Go renaming ChangeSpec->Z_,Code->Uc,DataW->ap',Func->YL,FuncId->TY,OpenClaim->Yq,Program->SI,ReturnsInLeavingWide->XE,Value->SP,World->Tq
open Go.Addr renaming add->av8
open Go.ChangeSpec renaming post_blind->au_,witness_shaped->atI
open Go.Claim7 renaming isSixth->ZG,new_of_sixth->YT,tied_new_at->Y6
open Go.Conc renaming Good->W7
open Go.DataW renaming weightsEach->Zo
open Go.DataW.Whole renaming of_heap->ap_
open Go.Input renaming okWide->Z6
open Go.IntKind renaming i64->SD
open Go.OpenClaim renaming holds_of_wide_leaving->avQ
open Go.OpenSpec renaming ofChange->VI
open Go.PathCond renaming test->avZ
open Go.Program renaming headLifts->awa,liftsFinal->av',make->av_,mayEnter->av9
open Go.Proofs.Tryz renaming checked->UD,f17->as',f50->aa',f6->Wx,func6->Zm,prog->SA
open Go.Value renaming agg->TA,cells->ae',int->SF,okWide->YD,slice->TN
open Go.World renaming doorLaid->ZN
open Int renaming le_refl->Xw,toNat_natCast->VK
open List renaming append_assoc->SC,append_eq->VA,append_nil->SN,contains_nil->ZM,drop->TR,eq_nil_of_length_eq_zero->UI,filter_eq_nil_iff->Xb,flatMap_append->Uk,foldl_cons->UV,forall_mem_cons->US,getD_eq_getElem?_getD->SE,getElem?_eq_some_iff->SL,getElem?_eraseIdx->YI,getElem?_map->Tp,getLast?_eq_getElem?->WT,getLastD_eq_getLast?->U_,head?_cons->Z1,length_append->SQ,length_drop->Ur,length_eraseIdx_of_lt->WM,length_map->Ta,length_nil->UA,length_singleton->TH,length_take->TC,map_append->To,map_map->WS,mem_append->SV,mem_cons->SK,mem_filter->Uz,mem_flatMap->S4,mem_map->Tf,mem_of_getElem?->S6,mem_of_mem_take->VS,mem_range->TG,mem_singleton->S9,not_mem_nil->SZ,range->SR,take->Uh,take_add_one->Uo,take_length->Tn,take_of_length_le->SW,take_zero->Zh
open Nat renaming le_refl->SO,le_trans->TL,lt_of_lt_of_le->Tg,mul_le_mul_right->TM,mul_one->Y9,pow_le_pow_right->UT,reduceAdd->SU,testBit_or->XM,testBit_two_pow->Wc,zero_le->X9
open Option renaming getD_some->S8,map_eq_some_iff->Ts,toList_some->YV
open Option.some renaming inj->Wb
open Prod.mk renaming injEq->Vb
namespace Go.Gg
open Go.Conc Go.Proofs Go.Gg.Tk
namespace Tk
def nl (os:List Nat):List Int:=os.map λn:Nat=>(n:Int)
def Tr.al (u:Tr):List AV:=[aM u.aT,aM u.az,aM (nl u.bI)]
def lE (ls:List (List Nat)):List AV:=ls.map λt=>aM (nl t)
end Tk
theorem Tr.F6(u:Tr):u.al.length=3:=rfl
theorem zA3:gD (TA #[TN none 0 0,TN none 0 0,TN none 0 0]) 3=[.sl 0 [] .exact,.sl 0 [] .exact,.sl 0 [] .exact]:=rfl
theorem apM:(3<=2^24)=True:=eq_true (by decide)
theorem Ou(ls:List (List Nat)):(lE ls).length=ls.length:=Ta _
theorem Ph{ls:List (List Nat)}{i:Nat}{t:List Nat}(h:ls[i]?=some t):AV.shift i (.rp (lE ls))=some (.rp (aM (nl t)::lE (ls.drop (i+1)))):=by
 have:=Pl (f:=λt=>aM (nl t)) h;rwa [Y9]at this
theorem sA(t:List Nat):(nl t).length=t.length:=Ta _
theorem apd{t:List Nat}{j:Nat}:((j:Nat):Int)∈nl t<->j∈t:=by
 unfold nl;rw[Tf];constructor
 ·rintro⟨a,h,e⟩
  have:a=j:=by omega
  rw[<- this];exact h
 ·exactλh=>⟨j,h,rfl⟩
theorem aoF(n m k:Nat)(ls:List (List Nat)):Lt n (.sl m (lE ls) (.opn k))=(k<n):=by
 have e:lE ls=(ls.map nl).map aM:=by unfold lE;rw[WS];rfl
 rw[e];exact EK n m k _
theorem aoG(n m:Nat)(ls:List (List Nat)):Lt n (.sl m (lE ls) .shut)=True:=by
 have e:lE ls=(ls.map nl).map aM:=by unfold lE;rw[WS];rfl
 rw[e,p8];have:=BD n (ls.map nl);rw[kX,p8]at this;exact this
section
variable {lv:Bool}{H:List aa}{k kp:AV->List aa->Prop}
theorem ajz{o:List Nat}{n:Int}{e:End}(hl:o.length<2^20)(hk:k (iv (rI (nl o) n)) H):ba lv SA 27 H [.sl o.length ((nl o).map iv) e,iv n] k kp:=by
 have:=R8 (lv:=lv) (H:=H) (k:=k) (kp:=kp) (xs:=nl o) (n:=n) (e:=e) (by rw[sA];omega) hk;rwa [sA]at this
theorem ajY{o:List Nat}{e:End}(hl:o.length<2^20)(hk:k (.sl o.length ((nl o).map iv) (.opn H.length)) (H++[.tail o.length 1 3])):ba lv SA 76 H [.sl o.length ((nl o).map iv) e] k kp:=by
 have:=Sf (lv:=lv) (H:=H) (k:=k) (kp:=kp) (xs:=nl o) (e:=e) (by rw[sA];omega) (by rw[sA];exact hk);rwa [sA]at this
theorem ajI{x:ak}{h:List Int}{ls:List (List Int)}{Ψ:an->AS->Prop}(hx:x.Ok)(hh:FS x h)(hH:bJ H)(hls:ls.length<=6561)(hlt:∀t∈ls,t.length=x.pieces.length):
  aR lv SA none 155 (cs (cf (kZ 4 yd))) ⟨[(11,iv 0),(10,.sl 0 [] (.opn (H.length+1))),(5,kX ls),(2,.op H.length 0),(1,aM h)],H++[.cells x.l 26,.tail 0 3 39]⟩ (an.then (λs'=>∃_:Unit,True/\s'.Sub ⟨[(10,.sl (mm x h ls ls.length).length ((mm x h ls ls.length).flatMap Tr.al) (.opn (H.length+1)))],H++[.cells x.l 26,.tail (mm x h ls ls.length).length 3 39]⟩) Ψ):=by
 have yS:=hx.hours;have oY:=hx.ee;have aP:=hx.db;have hlen:=hh.len;have hf:=λ(y:aB) (n:Int)=>K6 (h:=h) (y:=y) (n:=n) (by omega) (by omega) hh.mono;have wV:TR 4 x.l=[aN x.pieces,aN x.aC]:=rfl;have kI:TR 5 x.l=[aN x.aC]:=rfl;have bN:∀L:List aa,(H++L)[H.length]?=L[0]?:=λL=>aZ H L 0;have aq:∀o,(∀m,eZ m o)->bJ (H++[.cells x.l 26,o]):=λo ho=>D8 hH λz hz m=>by
  simp only[SK,SZ,or_false]at hz;rcases hz with rfl|rfl
  ·exact EM m x
  ·exact ho m
 obtain⟨B,hB⟩:∃B:Nat->List aa,∀m,B m=H++[.cells x.l 26,.tail m 3 39]:=⟨_,λ_=>rfl⟩;have dF:∀m,(B m).length=H.length+2:=λm=>by rw[hB];simp
 have b0:∀m L,(B m++L)[H.length]?=some (.cells x.l 26):=λm L=>by rw[hB,SC,bN];rfl
 have J6:∀m,(B m)[H.length]?=some (.cells x.l 26):=λm=>by rw[hB,bN];rfl
 have b1:∀m,(B m)[H.length+1]?=some (.tail m 3 39):=λm=>by rw[hB,aZ];rfl
 have s1:∀m m',(B m).set (H.length+1) (.tail m' 3 39)=B m':=λm m'=>by rw[hB,hB,dH];rfl
 have bg:∀m (L:List aa),(B m++L)[H.length+2]?=L[0]?:=λm L=>by rw[<- dF m];exact aZ (B m) L 0
 have bs:∀m (L:List aa)(y:aa),(B m++L).set (H.length+2) y=B m++L.set 0 y:=λm L y=>by rw[<- dF m];exact dH (B m) L 0 y
 have kF:∀m,bJ (B m):=λm=>by rw[hB];exact aq _ λ_=>trivial
 have aaR:mm x h ls 0=[]:=rfl;rw[<- hB 0,<- hB];unfold yd aa';dsimp only[S8,kZ,cs,cf];refine bP ?_;refine ek ls.length (λi:Nat=>[(10,.sl (mm x h ls i).length ((mm x h ls i).flatMap Tr.al) (.opn (H.length+1))),(11,iv i)]) (λi=>B (mm x h ls i).length) (λ_=>True) (λ_ _=>rfl) (by rw[aaR];simp only[seval];simp[bk,Wk.refl]) (by rw[aaR];rfl) (λ_ _ _=>by rw[dF,dF]) trivial (λbw bG i cw _ R hR=> ?_);clear bw bG;have No:=RP (h:=h) (λt ht=>by rw[hlt t ht];exact oY) aP i;refine ab ?_;simp only[seval,kX];refine aD ?_;refine⟨λhc=> ?_,λhc=> ?_⟩
 ·have br:i<ls.length:=by omega
  have bH:SD.wrap ((i:Int)+1)=((i+1:Nat):Int):=by rw[bc _ (by omega)];rfl
  obtain⟨t,ht⟩:=bE br;have n5:=hlt t (S6 ht);have eD:(0<=(i:Int)/\(i:Int)<ls.length)=True:=by simp;omega
  have A8:=aiX (x:=x) (h:=h) ht;rw[A8]at hR;generalize mm x h ls i=E at No hR⊢;clear A8;refine aF ?_;refine ab ?_;simp only[seval,we,xz];refine aj ?_;refine bP ?_;refine ek x.aC.length (λs:Nat=>[(12,.sl (l8 h t (x.aC.take s)).length (lE (l8 h t (x.aC.take s))) .shut),(13,iv s)]) (λ_=>B E.length) (λ_=>True) (λ_ _=>rfl) (by simp only[seval];simp only[bk,Wk.refl,and_true];exact PK (.cons (eQ _ _ _) .nil)) rfl (λ_ _ _=>rfl) trivial (λbw bG s xe _ R2 gW=> ?_);clear bw bG;refine ab ?_;simp only[seval,J6,kI,aN];refine aD ?_;refine⟨λb_=> ?_,λb_=> ?_⟩
  ·have cj:s<x.aC.length:=(by omega);have ep:SD.wrap ((s:Int)+1)=((s+1:Nat):Int):=(by rw[bc _ (by omega)];rfl);obtain⟨y,hy⟩:=bE cj;have yJ:(0<=(s:Int)/\(s:Int)<x.aC.length)=True:=(by simp;omega);have qT:=xG hy;have qP:=Ik (h:=h) (ns:=t) (by omega) s (x.aC.take s) (by rw[TC];omega);have MS:(l8 h t (x.aC.take s)).length<=16:=TL qP (UT (by decide) (show s<=2 by omega));have hot:∀o∈l8 h t (x.aC.take s),o.length<2^20:=λo ho=>by
    rw[Oh]at ho;have:=(OF ho (by simp)).1;rw[TC]at this;simp only[UA]at this;omega
   have aE:=aoI (h:=h) (ns:=t) hy;rw[aE]at gW;generalize l8 h t (x.aC.take s)=os at MS hot gW⊢;clear qP aE;refine aF ?_;refine aj ?_
   (repeat apply eT);refine nC (t:=14) (sz:=1) (el:=22) (by simp only[seval]<;>rfl) ?_
   simp only[seval,dF];refine aj ?_;refine bP ?_;refine ek os.length (λq:Nat=>[(14,.sl (sJ h t y os q).length (lE (sJ h t y os q)) (.opn (H.length+2))),(15,iv q)]) (λq=>B E.length++[.tail (sJ h t y os q).length 1 22]) (λ_=>True) (λ_ _=>rfl) (by simp only[seval];simp[bk,Wk.refl];exact Wk.refl _) rfl (λ_ _ _=>by simp) trivial (λbw bG q vw _ R3 iT=> ?_);clear bw bG;have oc:=asV (h:=h) (ns:=t) (by omega) y os q;refine aj ?_;refine aD ?_;refine⟨λde=> ?_,λde=> ?_⟩
   ·have hO:q<os.length:=(by omega);have j4:SD.wrap ((q:Int)+1)=((q+1:Nat):Int):=(by rw[bc _ (by omega)];rfl);obtain⟨o,ho⟩:=bE hO;have Bh:=hot o (S6 ho);have oP:(0<=(q:Int)/\(q:Int)<os.length)=True:=(by simp;omega);have ud:=asW (h:=h) (ns:=t) (s:=y) ho;rw[ud]at iT;have zb:=λj=>ad4 h t y o j;have ub:=ad3 h t y o;rw[n5]at ub;rw[<- ub]at iT;have dw:=λj=>asH h t y o j;generalize sJ h t y os q=L0 at oc iT⊢;generalize zQ h t y o=J at zb dw iT;have Do:J 0=[]:=UI (by have:=zb 0;omega);clear ud ub;refine aF ?_;refine aj ?_;refine bP ?_;refine ek x.pieces.length (λj:Nat=>[(14,.sl (L0++J j).length (lE (L0++J j)) (.opn (H.length+2))),(16,iv j)]) (λj=>B E.length++[.tail (L0++J j).length 1 22]) (λ_=>True) (λ_ _=>rfl) (by rw[Do,SN];simp only[seval];simp[bk,Wk.refl]) (by rw[Do,SN]) (λ_ _ _=>by simp) trivial (λbw bG j lS _ R4 oK=> ?_);have am0:=zb j;have xf:=dw j;have Hj:(L0++J j).length<=100:=(by rw[SQ];omega);refine ab ?_;simp only[seval,b0,wV,aN];refine aD ?_;refine⟨λiU=> ?_,λiU=> ?_⟩
    ·have dn:j<x.pieces.length:=(by omega);have m9:SD.wrap ((j:Int)+1)=((j+1:Nat):Int):=(by rw[bc _ (by omega)];rfl);obtain⟨n,hn⟩:=bE (xs:=t) (i:=j) (by omega);have w5:t.getD j 0=n:=(by rw[SE,hn];rfl);rw[w5]at xf;have lQ:(0<=(j:Int)/\(j:Int)<(t.length:Int))=True:=(by simp;omega);refine aF ?_;refine bP ?_;cases jU:fits h y n with
     |false=>
      have rR:J (j+1)=J j:=(by rw[xf,jU];simp);refine ej 23 ?_;simp only[seval,b0,kI,aN,qT,yJ,v7 ht,eD,dN hn,lQ,aM];refine gB (bv false) (dc (C9 (h:=h) (y:=y) (n:=n) (by omega) ⟨by rw[hf,jU],rfl⟩)) ?_;(try simp only[seval]);refine aD ?_;refine aF ?_;refine ab ?_;simp only[seval,m9];refine oK _ ⟨dn,trivial,?_⟩;rw[rR];exact bX
     |true=>
      refine ej 23 ?_;simp only[seval,b0,kI,aN,qT,yJ,v7 ht,eD,dN hn,lQ,aM];refine gB (bv true) (dc (C9 (h:=h) (y:=y) (n:=n) (by omega) ⟨by rw[hf,jU],rfl⟩)) ?_;have ai:=(F9 (nl o) j).1;(try simp only[seval,Ph ho,oP,Ou,aM,sA]);refine gB (iv (rI (nl o) j)) (dc (ajz (o:=o) Bh ⟨rfl,rfl⟩)) ?_;rw[apd]at ai;generalize rI (nl o) j=v at ai⊢;(try simp only[seval]);refine aD ?_;refine⟨λb8=> ?_,λb8=> ?_⟩
      ·have tV:j∉o:=λhm=>by have:=ai.2 hm;first|omega|(simp at b8;omega)
       have rR:L0++J (j+1)=(L0++J j)++[o++[j]]:=(by rw[xf,jU];simp[tV]);rw[rR]at oK;generalize L0++J j=W at Hj oK⊢;have tI:=Ou W;refine ab ?_;simp only[seval,Ph ho,oP,aM,sA];refine aK ((ajY (o:=o) Bh ?_));(try simp only[seval,z1,up,we,bg,bs,tI,sA]);refine⟨by omega,by omega,?_⟩;refine ab ?_;simp only[seval,m9];refine oK _ ⟨dn,trivial,?_⟩;rw[SQ,TH,show lE (W++[o++[j]])=lE W++[aM (nl (o++[j]))] by unfold lE;rw[To];rfl];refine uq [.tail (o.length+1) 1 3] (lC rfl rfl) ?_ (D9 (kF _) _ _ _) ?_ (by simp)
       ·(try simp only[seval]);exact⟨⟨_,rfl,have h:=FB (l:=lE W) (show Wk (.sl (o.length+1) ((nl o).map iv++[iv (j:Int)]) (.opn ((B E.length).length+1))) (aM (nl (o++[j]))) by rw[aM,sA,SQ,show nl (o++[j])=nl o++[(j:Int)] by unfold nl;rw[To];rfl,To];exact eQ _ _ _);zX h.len h.at⟩,_,rfl,Wk.refl _⟩
       ·rw[show lE W++[aM (nl (o++[j]))]=lE (W++[o++[j]]) by unfold lE;rw[To];rfl];simp only[US,dZ,aoF,iv];simp[dF]
      ·have tV:j∈o:=ai.1 (by first|omega|(simp at b8;omega));have rR:J (j+1)=J j:=(by rw[xf,jU];simp[tV]);refine aF ?_;refine ab ?_;simp only[seval,m9];refine oK _ ⟨dn,trivial,?_⟩;rw[rR];exact bX
    ·have fC:j=x.pieces.length:=(by omega);subst fC;refine bO ?_;refine ab ?_;simp only[seval,j4];refine iT _ ⟨hO,trivial,bX⟩
   ·have fC:q=os.length:=(by omega);subst fC;refine bO ?_;refine aj ?_;refine ab ?_;simp only[seval,ep];refine gW _ ⟨cj,trivial,?_⟩;refine uq [.tail (sJ h t y os os.length).length 1 22] (lC rfl rfl) ?_ (kF _) ?_ rfl
    ·(try simp only[seval]);simp only[bk,Wk.refl,and_true];exact eQ _ _ _
    ·simp only[US,dZ,aoG,iv];simp
  ·have fC:s=x.aC.length:=(by omega);subst fC;rw[Tn];refine bO ?_;refine aj ?_;have qP:=Ik (h:=h) (ns:=t) (by omega) _ x.aC rfl;have MS:(l8 h t x.aC).length<=64:=TL qP (UT (by decide) aP);have tV:sO x h t=(l8 h t x.aC).map λos=>⟨h,t,os⟩:=(by rw[Oh];rfl);rw[tV]at hR;generalize l8 h t x.aC=os at MS hR⊢;clear qP tV;obtain⟨mk,mu⟩:∃mk:Nat->List Tr,∀q,mk q=(os.take q).map λo=>⟨h,t,o⟩:=⟨_,λ_=>rfl⟩;have g_:mk 0=[]:=(by rw[mu];rfl);have D1:mk os.length=os.map λo=>⟨h,t,o⟩:=(by rw[mu,Tn]);have yY:∀q,q<=os.length->(mk q).length=q:=λq hq=>(by rw[mu,Ta,TC];omega);refine bP ?_;refine ek os.length (λq:Nat=>[(10,.sl (E++mk q).length ((E++mk q).flatMap Tr.al) (.opn (H.length+1))),(17,iv q)]) (λq=>B (E++mk q).length) (λ_=>True) (λ_ _=>rfl) (by rw[g_,SN];simp only[seval];simp[bk,Wk.refl]) (by rw[g_,SN]) (λ_ _ _=>by rw[dF,dF]) trivial (λbw bG q vw _ R5 LM=> ?_);clear bw bG;refine aj ?_;refine aD ?_;refine⟨λb8=> ?_,λb8=> ?_⟩
   ·have hO:q<os.length:=(by omega);have Nq:SD.wrap ((q:Int)+1)=((q+1:Nat):Int):=(by rw[bc _ (by omega)];rfl);obtain⟨o,ho⟩:=bE hO;have oP:(0<=(q:Int)/\(q:Int)<os.length)=True:=(by simp;omega);have nU:E++mk (q+1)=(E++mk q)++[⟨h,t,o⟩]:=(by rw[mu,mu,Uo,ho];simp);have amb:(E++mk q).length<=2^20:=(by rw[SQ,yY q (by omega)];omega);rw[nU]at LM;generalize E++mk q=W at amb LM⊢;have tI:(W.flatMap Tr.al).length=W.length* 3:=xq Tr.F6 _;refine aF ?_;refine bP ?_;refine nB [12] (SR 14) (λD=>bif isDone 12 D then B (W.length+1)else B W.length) ?_;simp only[seval,zA3,apM,v7 ht,eD,Ph ho,oP,b1,s1,tI,aM,Ou,sA];refine⟨by omega,?_⟩;refine ab ?_;simp only[seval,Nq];refine LM _ ⟨hO,trivial,?_⟩;rw[SQ,TH,Uk,show ([⟨h,t,o⟩]:List Tr).flatMap Tr.al=[.sl h.length (h.map iv) .shut,.sl t.length (t.map iv) .shut,.sl o.length ((nl o).map iv) .shut] by simp[Tr.al,aM,sA]];exact bX
   ·have fC:q=os.length:=(by omega);subst fC;refine bO ?_;rw[D1]at*;refine ab ?_;simp only[seval,bH];refine hR _ ⟨br,trivial,bX⟩
 ·have fC:i=ls.length:=by omega
  subst fC;refine bO ?_;exact⟨(),dW (by simp only[seval];simp[bk,Wk.refl]) rfl⟩
end
open Go.Gg.Tk
namespace Tk
theorem RZ{first:Int}{st:List Int}{i:Nat}{a:Int}(h:st[i]?=some a):ext [first] (st.take (i+1))=ext [first] (st.take i)++[(ext [first] (st.take i)).getLastD 0+a]:=by
 rw[Uo,h];exact RY _ _ _
theorem Gs{first am:Int}{st:List Int}(hs:∀a∈st,0<=a/\a<=am):∀i,i<=st.length->ni first am (ext [first] (st.take i)) i
 |0,_=>⟨rfl,rfl,λj hj=>absurd hj (by omega)⟩
 |i+1,hi=>by
  have ih:=Gs (first:=first) hs i (by omega);obtain⟨a,ha⟩:=bE (xs:=st) (i:=i) (by omega);have tK:=hs a (S6 ha);rw[RZ ha,xn ih];generalize ext [first] (st.take i)=l at ih⊢;have hl:=ih.len;refine⟨by rw[SQ,hl];rfl,?_,λj hj=> ?_⟩
  ·rw[wJ (by omega)];exact ih.head
  ·by_cases e:j=i
   ·subst e;rw[aam hl,wJ (by omega)];omega
   ·rw[wJ (by omega),wJ (by omega)];exact ih.step j (by omega)
theorem aiU(x:ak)(l:List (List Int))(st:List Int):nK x (l++[st])=nK x l++if xD x (ext [x.first] st)=true then gC x (ext [x.first] st)else[]:=by
 unfold nK;rw[Uk];simp
theorem RN{x:ak}{m:Nat}:∀{l:List (List Int)},(∀st∈l,(gC x (ext [x.first] st)).length<=m)->(nK x l).length<=l.length* m:=λ{l} h=>by
 unfold nK;refine yr λst hs=> ?_;split
 ·exact h st hs
 ·exact X9 _
theorem aeM{x:ak}{h:List Int}(hx:x.Ok)(hs:h.getLastD 0-h.headD 0<=9):(gC x h).length<=419904:=by
 have hp:=hx.ee;rw[aeL];have h1:=Ij hs _ x.pieces rfl;have h2:(jp h x.pieces).length<=6561:=TL h1 (UT (by decide) hp);have h3:=RP (x:=x) (h:=h) (ls:=jp h x.pieces) (λt ht=>by
  rw[Ii]at ht;have:=EV ht;simp only[UA]at this;omega) hx.db (jp h x.pieces).length
 omega
end Tk
open Go.Conc Go.Proofs Go.Gg.Tk
noncomputable def c17:Uc:=as'.body.getD .skip
namespace Tk
def uI (l:List Tr):AV:=.sl l.length (l.flatMap Tr.al) .shut
end Tk
theorem Of(n:Nat)(l:List Tr):Lt n (uI l)=True:=by
 rw[uI,p8,eq_iff_iff];refine⟨λ_=>trivial,λ_ a ha=> ?_⟩;obtain⟨u,_,h⟩:=S4.1 ha;simp only[Tr.al,SK,SZ,or_false]at h;rcases h with rfl|rfl|rfl<;>(rw[zu];trivial)
theorem acf(n m k:Nat)(l:List Tr):Lt n (.sl m (l.flatMap Tr.al) (.opn k))=(k<n):=by
 rw[aci,eq_iff_iff];refine⟨λh=>h.1,λh=>⟨h,λa ha=> ?_⟩⟩;have:=Of n l;rw[uI,p8]at this;exact this.mpr trivial a ha
section
variable {lv:Bool}{H:List aa}{k kp:AV->List aa->Prop}
theorem ajJ{x:ak}{h:List Int}{e:End}(hx:x.Ok)(hh:FS x h)(hk:k (uI (gC x h)) H):ba lv SA 50 H [x.av,.sl h.length (h.map iv) e] k kp:=by
 refine bD (rs:=[.tmp 4]) (nt:=155) aa' λhH hA=> ?_;simp only[bp,SU];refine nD (s':=⟨[(1,aM h),(0,x.av)],H⟩) ?_ ?_
 ·exact dW (by simp only[US,SZ,false_imp_iff,implies_true,List.forall_mem_nil,and_true];exact⟨⟨_,rfl,eQ _ _ _⟩,⟨_,rfl,Wk.refl _⟩⟩) rfl
 simp only[ak.av];refine aj ?_;refine ab ?_;simp only[seval,we,xz];refine aj ?_;refine CS (α:=Unit) (λ_=>⟨[(5,kX (jp h x.pieces)),(2,.op H.length 0),(1,aM h)],H++[.cells x.l 26]⟩) (λ_=>True) ?_ (λ_ _=> ?_)
 ·refine nD (s':=⟨[(6,iv 0),(5,.sl 1 [.sl 0 [] .exact] .exact),(2,.op H.length 0),(1,aM h)],H++[.cells x.l 26]⟩) ?_ (ajH hx hh hH);exact dW (by simp only[seval];simp[bk,Wk.refl]) rfl
 have eY:=Ij (h:=h) hh.span _ x.pieces rfl;have Hk:(jp h x.pieces).length<=6561:=TL eY (UT (by decide) hx.ee);have hlt:∀t∈jp h x.pieces,t.length=x.pieces.length:=λt ht=>by
  rw[Ii]at ht;have:=EV ht;simp only[UA]at this;omega
 have eN:=aeL x h;generalize jp h x.pieces=ls at Hk hlt eN⊢;refine aj ?_
 (repeat apply eT);refine nC (t:=10) (sz:=3) (el:=39) (by simp only[seval]<;>rfl) ?_
 simp only[seval];refine aj ?_;refine CS (α:=Unit) (λ_=>⟨[(10,.sl (mm x h ls ls.length).length ((mm x h ls ls.length).flatMap Tr.al) (.opn (H.length+1)))],H++[.cells x.l 26,.tail (mm x h ls ls.length).length 3 39]⟩) (λ_=>True) ?_ (λ_ _=> ?_)
 ·refine nD (s':=⟨[(11,iv 0),(10,.sl 0 [] (.opn (H.length+1))),(5,kX ls),(2,.op H.length 0),(1,aM h)],H++[.cells x.l 26,.tail 0 3 39]⟩) ?_ (ajI hx hh hH Hk hlt);exact dW (by simp only[seval];simp[bk,Wk.refl]) rfl
 rw[<- eN];refine aj ?_;refine aX ?_;exact iH (b:=uI (gC x h)) hH (eQ _ _ _) (by rw[Of];trivial) hk
theorem ajp{x:ak}(hx:x.Ok)(hk:k (uI (bM x)) H):ba lv SA 17 H [x.av] k kp:=by
 refine bD (rs:=[.tmp 2]) (nt:=93) as' λhH hA=> ?_;simp only[bp,SU,ak.av];have yS:=hx.hours;have Hy:=hx.am;have gL:=hx.first;have xe:=hx.xE;have cQ:TR 1 x.l=[iv x.hours,iv x.am,c_ x.seen,aN x.pieces,aN x.aC]:=rfl;have kq:TR 2 x.l=[iv x.am,c_ x.seen,aN x.pieces,aN x.aC]:=rfl;have rW:TR 3 x.l=[c_ x.seen,aN x.pieces,aN x.aC]:=rfl;have bU:x.l=[iv x.first,iv x.hours,iv x.am,c_ x.seen,aN x.pieces,aN x.aC]:=rfl;have da:x.l.length=6:=rfl;have fL:Uh 6 x.l=x.l:=rfl;obtain⟨hr,yT⟩:∃hr:Nat,x.hours=hr:=⟨x.hours.toNat,by omega⟩;have M7:x.hours.toNat=hr:=by omega
 obtain⟨pn,Bl⟩:∃pn:Nat,x.am+1=pn:=⟨(x.am+1).toNat,by omega⟩;have mv:x.am.toNat+1=pn:=by omega
 have bN:∀L:List aa,(H++L)[H.length]?=L[0]?:=λL=>aZ H L 0;refine aj ?_;refine JX [1,2] ?_;show aR _ _ _ _ _ ⟨[(1,.op H.length 0),(2,.sl 0 [] .exact)],_⟩ _;refine aj ?_
 (repeat apply eT);refine nC (t:=3) (sz:=3) (el:=39) (by simp only[seval]<;>rfl) ?_
 simp only[seval];have By:SD.wrap (x.am+1)=(pn:Int):=by rw[bc _ (by omega)];exact Bl
 refine ab ?_;simp only[seval,bN,cQ,kq,By,yT];refine aK ((Sd hr (n:=pn) (by omega) (by omega) ?_));have cm:=RO hx;rw[M7,mv]at cm;obtain⟨amZ,HF⟩:=Oa pn (by omega) hr (by omega);generalize og pn hr=steps at cm amZ HF⊢;(try simp only[seval]);obtain⟨B,hB⟩:∃B:Nat->List aa,∀m,B m=H++[.cells x.l 26,.tail m 3 39]:=⟨_,λ_=>rfl⟩;have dF:∀m,(B m).length=H.length+2:=λm=>by rw[hB];simp
 have b0:∀m L,(B m++L)[H.length]?=some (.cells x.l 26):=λm L=>by rw[hB,SC,bN];rfl
 have J6:∀m,(B m)[H.length]?=some (.cells x.l 26):=λm=>by rw[hB,bN];rfl
 have b1:∀m L,(B m++L)[H.length+1]?=some (.tail m 3 39):=λm L=>by rw[hB,SC,aZ];rfl
 have s1:∀m m' L,(B m++L).set (H.length+1) (.tail m' 3 39)=B m'++L:=λm m' L=>by rw[hB,hB,SC,dH,SC];rfl
 have bg:∀m (L:List aa),(B m++L)[H.length+2]?=L[0]?:=λm L=>by rw[<- dF m];exact aZ (B m) L 0
 have bs:∀m (L:List aa)(y:aa),(B m++L).set (H.length+2) y=B m++L.set 0 y:=λm L y=>by rw[<- dF m];exact dH (B m) L 0 y
 have kF:∀m,bJ (B m):=λm=>by
  rw[hB];refine D8 hH λz hz m'=> ?_;simp only[SK,SZ,or_false]at hz;rcases hz with rfl|rfl
  ·exact EM m' x
  ·trivial
 rw[<- hB 0];have hEl:∀i,(nK x (steps.take i)).length<=256* 419904:=λi=>by
  have h1:=RN (x:=x) (l:=steps.take i) (m:=419904) λst aP=>by
   have aP:=HF st (VS aP);have hH:=Gs (first:=x.first) (am:=x.am) (st:=st) (λa ha=>by have:=aP.2 a ha;omega) hr (by omega);rw[SW (by omega)]at hH;refine aeM hx ?_;rw[xn hH,A7 hH];have:=hH.top gL Hy (by omega) hr (SO _);omega
  have h2:(steps.take i).length<=256:=by rw[TC];omega
  exact TL h1 (TM _ h2)
 refine aj ?_;refine bP ?_;refine ek steps.length (λi:Nat=>[(3,.sl (nK x (steps.take i)).length ((nK x (steps.take i)).flatMap Tr.al) (.opn (H.length+1))),(5,iv i)]) (λi=>B (nK x (steps.take i)).length) (λ_=>True) (λ_ _=>rfl) (by rw[Zh,show nK x []=[]from rfl];simp only[seval];simp[bk,Wk.refl]) (by rw[Zh];rfl) (λ_ _ _=>by rw[dF,dF]) trivial (λbw bG i cw _ R hR=> ?_);clear bw bG;refine ab ?_;simp only[seval,kX];refine aD ?_;refine⟨λhc=> ?_,λhc=> ?_⟩
 ·have br:i<steps.length:=by omega
  have bH:SD.wrap ((i:Int)+1)=((i+1:Nat):Int):=by rw[bc _ (by omega)];rfl
  obtain⟨st,aP⟩:=bE br;obtain⟨cj,ub⟩:=HF st (S6 aP);have hEi:=hEl i;have hEs:nK x (steps.take (i+1))=nK x (steps.take i)++if xD x (ext [x.first] st)=true then gC x (ext [x.first] st)else[]:=by
   rw[Uo,aP];exact aiU _ _ _
  have AT:=hEl (i+1);rw[hEs]at hR AT;generalize nK x (steps.take i)=E at hEi hR AT⊢;clear hEs;have aaS:=λj=>Gs (first:=x.first) (am:=x.am) (st:=st) (λa ha=>by have:=ub a ha;omega) j;obtain⟨G,hG⟩:∃G:Nat->List Int,∀j,G j=ext [x.first] (st.take j):=⟨_,λ_=>rfl⟩;have hG0:G 0=[x.first]:=by rw[hG];rfl
  simp only[<- hG]at aaS;have eD:(0<=(i:Int)/\(i:Int)<steps.length)=True:=by simp;omega
  refine aF ?_;refine ab ?_;simp only[seval,z1,up,J6,bU]
  (repeat apply eT);refine nC (t:=6) (sz:=1) (el:=3) (by simp only[seval]<;>rfl) ?_
  simp only[seval,dF];refine aj ?_;refine bP ?_;refine ek hr (λj:Nat=>[(6,.sl (j+1) ((G j).map iv) (.opn (H.length+2))),(7,iv j)]) (λj=>B E.length++[.tail (j+1) 1 3]) (λ_=>True) (λ_ _=>rfl) (by rw[hG0];simp only[seval];simp[bk,Wk.refl]) rfl (λ_ _ _=>by simp) trivial (λbw bG j lS _ R2 gW=> ?_);clear bw bG;have tE:=aaS j (by omega);refine ab ?_;simp only[seval,b0,cQ,yT];refine aD ?_;refine⟨λb_=> ?_,λb_=> ?_⟩
  ·have dn:j<hr:=(by omega);have ep:SD.wrap ((j:Int)+1)=((j+1:Nat):Int):=(by rw[bc _ (by omega)];rfl);obtain⟨a,ha⟩:=bE (xs:=st) (i:=j) (by omega);have tK:=ub a (S6 ha);have Lz:G (j+1)=G j++[(G j).getLastD 0+a]:=(by rw[hG,hG];exact RZ ha);rw[xn tE]at Lz;have kM:=tE.top gL Hy (by omega) j (SO _);have tF:=tE.len;obtain⟨w,hw⟩:=bE (xs:=G j) (i:=j) (by omega);have pJ:(G j).getD j 0=w:=(by rw[SE,hw];rfl);rw[pJ]at Lz kM;have Nu:SD.wrap (w+a)=w+a:=bc _ (by omega);rw[Lz,To]at gW;generalize G j=g at hw tF gW⊢;have lQ:(0<=(j:Int)/\(j:Int)<(j:Int)+1)=True:=(by simp;omega);have ali:(0<=(j:Int)/\(j:Int)<(st.length:Int))=True:=(by simp;omega);have jV:(g.map iv).length=j+1:=(by rw[Ta];exact tF);refine aF ?_;refine bP ?_;refine nB [14] (SR 16) (λD=>bif isDone 14 D then B E.length++[.tail (j+1+1) 1 3]else B E.length++[.tail (j+1) 1 3]) ?_;simp only[seval,z1,up,dN hw,v7 aP,dN ha,eD,lQ,ali,Nu,bg,bs,jV,aM];refine⟨by omega,?_⟩;refine ab ?_;simp only[seval,ep];refine gW _ ⟨dn,trivial,bX⟩
  ·have fC:j=hr:=(by omega);subst fC;clear gW;have hGe:G j=ext [x.first] st:=(by rw[hG,SW (by omega)]);rw[hGe]at tE;rw[hGe];have tF:=tE.len;have Na:qk (ext [x.first] st):=tE.mono;have kM:=tE.top gL Hy (by omega) j (SO _);have hHR:FS x (ext [x.first] st):=⟨by rw[tF,yT];rfl,Na,by rw[xn tE,A7 tE];omega,by rw[A7 tE];exact gL⟩;generalize ext [x.first] st=g at tF hHR hR AT⊢;refine bO ?_;refine aj ?_;refine aj ?_;refine bP ?_;refine qu x.seen.length (λq:Nat=>[(8,bv ((x.seen.take q).all λs=>gQ s.next (g.getD s.hour.toNat 0))),(9,iv q)]) (λ_=>B E.length++[.tail (j+1) 1 3]) (λ_=>True) trivial (λbw bG q vw _ R3 iT=> ?_);clear bw bG;refine ab ?_;simp only[seval,b0,rW,c_];refine aD ?_;refine⟨λde=> ?_,λde=> ?_⟩
   ·have hO:q<x.seen.length:=(by omega);have j4:SD.wrap ((q:Int)+1)=((q+1:Nat):Int):=(by rw[bc _ (by omega)];rfl);obtain⟨y,hy⟩:=bE hO;have hym:=hx.seen y (S6 hy);have Bs:=Pj hy;have oP:(0<=(q:Int)/\(q:Int)<x.seen.length)=True:=(by simp;omega);have dU:((x.seen.take (q+1)).all λs=>gQ s.next (g.getD s.hour.toNat 0))=(((x.seen.take q).all λs=>gQ s.next (g.getD s.hour.toNat 0))&&gQ y.next (g.getD y.hour.toNat 0)):=by
     rw[Uo,hy,List.all_append];simp
    rw[dU]at iT;obtain⟨yh,hyh⟩:∃yh:Nat,y.hour=yh:=⟨y.hour.toNat,by omega⟩;obtain⟨n,hn⟩:=bE (xs:=g) (i:=yh) (by omega);have w5:g.getD y.hour.toNat 0=n:=(by rw[hyh,VK,SE,hn];rfl);rw[w5]at iT;have hby:(0<=(yh:Int)/\(yh:Int)<(j:Int)+1)=True:=(by simp;omega);generalize((x.seen.take q).all λs=>gQ s.next (g.getD s.hour.toNat 0))=is at iT⊢;refine aF ?_;refine ab ?_;simp only[seval,b0,rW,c_,Bs,oP,hyh,dN hn,hby];have hib:gQ y.next n=(decide (n>=y.next.min)&&decide (n<=y.next.max)):=rfl;cases is with
    |false=>
     refine aj ?_;refine ab ?_;simp only[seval,j4];refine iT _ ⟨hO,trivial,?_⟩;rw[Vt];exact bX
    |true=>
     by_cases h1:n>=y.next.min
     ·have d1:decide (n>=y.next.min)=true:=decide_eq_true h1;refine ab ?_;simp only[seval,b0,rW,c_,Bs,oP,d1];refine ab ?_;simp only[seval,j4];refine iT _ ⟨hO,trivial,?_⟩;rw[hib,d1];exact bX
     ·have d1:decide (n>=y.next.min)=false:=decide_eq_false h1;refine ab ?_;simp only[seval,b0,rW,c_,Bs,oP,d1];refine ab ?_;simp only[seval,j4];refine iT _ ⟨hO,trivial,?_⟩;rw[hib,d1];exact bX
   ·have fC:q=x.seen.length:=(by omega);subst fC;clear iT;rw[Tn];have am2:(x.seen.all λs=>gQ s.next (g.getD s.hour.toNat 0))=xD x g:=rfl;rw[am2];refine bO ?_;refine aj ?_;refine aD ?_;refine⟨λEi=> ?_,λEi=> ?_⟩
    ·rw[if_pos Ei]at hR AT;have hEf:(E.flatMap Tr.al).length=E.length* 3:=xq Tr.F6 _;have htf:((gC x g).flatMap Tr.al).length=(gC x g).length* 3:=xq Tr.F6 _;have hCl:((gC x g).flatMap Tr.al).take ((gC x g).length* 3)=(gC x g).flatMap Tr.al:=SW (by omega);have jY:∀a∈(gC x g).flatMap Tr.al,a.leaf=true:=λa ha=>by
      obtain⟨u,_,h⟩:=S4.1 ha;simp only[Tr.al,SK,SZ,or_false]at h;rcases h with rfl|rfl|rfl<;>rfl
     rw[SQ]at AT;refine ab ?_;simp only[seval,b0,da,fL];have yd:=λk' ui=>ajJ (lv:=lv) (k:=k') (kp:=ui) (H:=B E.length++[.tail (j+1) 1 3]) (x:=x) (h:=g) (e:=.opn (H.length+2)) hx hHR;rw[tF]at yd;refine aK ((yd _ _ ?_));generalize gC x g=C at hR htf hCl jY AT⊢;(try simp only[seval,uI,b1,s1,hEf,htf,hCl]);refine⟨by omega,jY,?_⟩;refine ab ?_;simp only[seval,bH];refine hR _ ⟨br,trivial,?_⟩;rw[SQ,Uk];refine uq [.tail (j+1) 1 3] (lC rfl rfl) (by simp only[seval];simp[bk,Wk.refl]) (kF _) ?_ rfl;rw[<- Uk,dF];simp only[US,acf,iv,dZ];simp
    ·have Ei:xD x g=false:=(by simpa using Ei);rw[Ei]at hR;refine aF ?_;refine ab ?_;simp only[seval,bH];refine hR _ ⟨br,trivial,?_⟩;rw[if_neg Bool.false_ne_true,SN];exact uq [.tail (j+1) 1 3] (lC rfl rfl) (by simp only[seval];simp[bk,Wk.refl]) (kF _) (by simp[dZ,dF,acf]) rfl
 ·have fC:i=steps.length:=by omega
  subst fC;rw[Tn,cm];refine bO ?_;refine aj ?_;refine aX ?_;rw[hB];exact iH (b:=uI (bM x)) hH (eQ _ _ _) (by rw[Of];trivial) hk
end
open Go.Conc Go.Proofs Go.Gg.Tk
theorem RR:(bM fO).isEmpty=false:=by kernel_rfl
theorem ai1{lo hi:Int}(h:Bounds (live fO) (λh=>h.getD 1 0) lo hi):lo=11/\hi=12:=by
 have k:Bounds (live fO) (λh=>h.getD 1 0) 11 12:=by
  rw[ai5];exact⟨⟨[10,11,13,14],by simp,rfl⟩,by decide,⟨[10,12,13,14],by simp,rfl⟩,by decide⟩
 exact h.uniq k
theorem ai4:Di fO 2=[0,2]:=by kernel_rfl
theorem z3:gD (SF .i64 0) 3=[iv 0,iv 0,iv 0]:=rfl
theorem z4:gD (SF .i64 0) 4=[iv 0,iv 0,iv 0,iv 0]:=rfl
section
variable {H:List aa}{k kp:AV->List aa->Prop}
theorem ajs(hm:H[0]?=some .main)(hk:k (bv true) H):ba true SA 19 H [] k kp:=by
 have aH:bM fO≠[]:=λh=>by have:=RR;rw[h]at this;cases this
 refine bD (rs:=[.tmp 0]) (nt:=138) Tryz.f19 λhH hA=> ?_;simp only[bp,SU];have bi:∀(L:List aa),(H++L)[H.length]?=L[0]?:=λL=>aZ H L 0;have dg:∀(L:List aa)(y:aa),(H++L).set H.length y=H++L.set 0 y:=λL y=>dH H L 0 y;refine aj ?_;refine aj ?_;refine aK ((yn ?_));(try simp only[seval]);refine aK ((aju zL hm ?_));rw[ai2];(try simp only[seval]);refine aj ?_;refine aK ((yn ?_));(try simp only[seval]);refine aK ((ajG (hour:=1) zL (by decide) hm (λh=>absurd h aH) (λlo hi _ hb=> ?_)));obtain⟨rfl,rfl⟩:=ai1 hb;(try simp only[seval,bi,dg]);refine aj ?_;refine aK ((yn ?_));(try simp only[seval]);refine aK ((ajE (q:=2) zL (by decide) (fU hm) (λh=>absurd h aH) (λ_=> ?_)));rw[show yc (ET fO 2) fO.first 16=[13,14]from ai6];(try simp only[seval]);refine aj ?_;refine aK ((yn ?_));(try simp only[seval]);refine aK ((R9 (s:=0) (q:=0) zL (by decide) (by decide) (fU hm) ?_));rw[RR,RS.1,RS.2,show vM true false=1 from rfl];(try simp only[seval]);refine aj ?_;refine aK ((yn ?_));(try simp only[seval]);refine aK ((ajx zL (fU hm) (λh=>absurd h aH) (λ_=> ?_)));rw[show Di fO fO.aC.length=[0,2]from ai4];(try simp only[seval]);refine aj ?_;refine aK ((yn ?_));(try simp only[seval]);refine aK ((R_ (x:=fO) (s:=1) (q:=0) (y:=⟨⟨10,15⟩,⟨2,2⟩⟩) zL rfl (by decide) (λo ho=> ?_)));rw[show py (fO.wo [((1:Nat):Int)]) ⟨⟨10,15⟩,⟨2,2⟩⟩ 0 (fO.am.toNat+1)=1 from ai0]at ho;subst ho;(try simp only[seval]);refine aj ?_;refine aK ((ajN ?_));(try simp only[seval]);refine aK ((ajC apl (λl hl=> ?_) (λh=>by rw[RQ]at h;cases h)));rw[RQ]at hl;cases hl;(try simp only[seval]);refine aj ?_;refine aK ((yn ?_));(try simp only[seval]);refine aK ((ajr zL (fU hm) (λh=>absurd h aH) (λu l hu=> ?_)));have l5:=ai3;rw[hu]at l5;cases l5;(try simp only[seval]);refine ej 77 ?_;simp only[seval,VA,bi,beq_self_eq_true];refine gB (.agg [iv 11,iv 12]) (dc (ajv ⟨rfl,rfl⟩)) ?_;have gJ:∀k,dK SA .eql 46 (.agg [iv 11,iv 12]) (.agg [iv 11,iv 12]) k=k (bv true):=λk=>afY (P:=SA) (t:=46) (n:=2) (xs:=[11,12]) (ys:=[11,12]) (by kernel_rfl) (by kernel_rfl) rfl rfl k;simp only[iv,bv]at gJ;(try simp only[seval,gJ,VA,beq_self_eq_true,z2]);(try refine⟨by decide,?_⟩);refine gB (bv true) (dc (AG (xs:=[13,14]) (ys:=[13,14]) (e:=.shut) (e':=.exact) (by decide) ⟨by rw[decide_eq_true rfl],rfl⟩)) ?_;(try simp only[seval,VA,z1,z2,z3,z4]);(try refine⟨by decide,?_⟩);refine gB (bv true) (dc (AG (xs:=[0,2]) (ys:=[0,2]) (e:=.shut) (e':=.exact) (by decide) ⟨by rw[decide_eq_true rfl],rfl⟩)) ?_;(try simp only[seval,VA,z1,z2,z3,z4]);(try refine⟨by decide,?_⟩);refine gB (bv true) (dc (AG (xs:=[0]) (ys:=[0]) (e:=.shut) (e':=.exact) (by decide) ⟨by rw[decide_eq_true rfl],rfl⟩)) ?_;(try simp only[seval,VA,z1,z2,z3,z4]);(try refine⟨by decide,?_⟩);refine gB (bv true) (dc (AG (xs:=[10,11,13,14]) (ys:=[10,11,13,14]) (e:=.shut) (e':=.exact) (by decide) ⟨by rw[decide_eq_true rfl],rfl⟩)) ?_;(try simp only[seval,VA,z1,z2,z3,z4]);(try refine⟨by decide,?_⟩);refine gB (bv true) (dc (AG (xs:=[12,11,13]) (ys:=[12,11,13]) (e:=.shut) (e':=.exact) (by decide) ⟨by rw[decide_eq_true rfl],rfl⟩)) ?_;(try simp only[seval,VA,z1,z2,z3,z4]);(try refine⟨by decide,?_⟩);refine gB (bv true) (dc (AG (xs:=[0,2]) (ys:=[0,2]) (e:=.shut) (e':=.exact) (by decide) ⟨by rw[decide_eq_true rfl],rfl⟩)) ?_;(try simp only[seval,VA,z1,z2,z3,z4]);refine aX ?_;exact iH hH (Wk.refl _) (.val _) hk
end
section
variable {lv:Bool}{k kp:AV->List aa->Prop}{Gf:bh->List aa}{t N:Nat}{b:Int}
end
section
variable {lv:Bool}{k kp:AV->List aa->Prop}{Gf:bh->List aa}{t N:Nat}{τ:bh}{b:Int}
end
section
variable {H:List aa}{k kp:AV->List aa->Prop}
theorem ar6{l:List Tr}{i:Nat}{u:Tr}(h:l[i]?=some u):AV.shift (i* 3) (.rp (l.flatMap Tr.al))=some (.rp (aM u.aT::aM u.az::aM (nl u.bI)::(l.drop (i+1)).flatMap Tr.al)):=Pk Tr.F6 h
end
section
variable {lv:Bool}{H:List aa}{k kp:AV->List aa->Prop}
end
theorem abE{n:Int}(h: -1000<=n/\n<=1000):SD.wrap n=n:=bc _ (by omega)
section
variable {H:List aa}{k kp:AV->List aa->Prop}
end
namespace Tk
end Tk
open Go.Gg.Tk
namespace Tk
def tr (ss:List aB)(ns:List Int):Nat->List aB
 |0=>[]
 |i+1=>if(i:Int)∈ns then tr ss ns i else tr ss ns i++(ss[i]?).toList
theorem Kz(ss:List aB)(ns:List Int):∀i,(tr ss ns i).length<=i
 |0=>SO _
 |i+1=>by
  have:=Kz ss ns i;unfold tr;split
  ·omega
  ·rw[SQ];have:(ss[i]?).toList.length<=1:=(by cases ss[i]?<;>simp);omega
theorem KA{ss:List aB}{ns:List Int}:∀{i:Nat}{y:aB},y∈tr ss ns i->y∈ss
 |0,y,h=>by cases h
 |i+1,y,h=>by
  unfold tr at h;split at h
  ·exact KA h
  ·rcases SV.1 h with h|h
   ·exact KA h
   ·cases hi:ss[i]?with
    |none=>rw[hi]at h;cases h
    |some z=>
     rw[hi]at h;simp only[YV,S9]at h;rw[h];exact S6 hi
def ak.wk (x:ak)(ns:List Int):ak:={x with aC:=tr x.aC ns x.aC.length}
theorem ahN:yg 0=[[]]:=by decide+kernel
theorem ahO:yg 1=[[],[0]]:=by decide+kernel
theorem ahP:yg 2=[[],[0],[1],[0,1]]:=by decide+kernel
theorem ahQ:yg 3=[[],[0],[1],[2],[0,1],[0,2],[1,2],[0,1,2]]:=by decide+kernel
theorem aip:∀(ss:List aB),ss.length<=3->∀ns∈yg ss.length,tr ss ns ss.length=qy ss ns
 |[],_,ns,h=>by
  rw[show ([]:List aB).length=0 from rfl,ahN]at h;simp only[SK,SZ,or_false]at h;subst h;rfl
 |[a],_,ns,h=>by
  rw[show [a].length=1 from rfl,ahO]at h;simp only[SK,SZ,or_false]at h;rcases h with rfl|rfl<;>rfl
 |[a,b],_,ns,h=>by
  rw[show [a,b].length=2 from rfl,ahP]at h;simp only[SK,SZ,or_false]at h;rcases h with rfl|rfl|rfl|rfl<;>rfl
 |[a,b,c],_,ns,h=>by
  rw[show [a,b,c].length=3 from rfl,ahQ]at h;simp only[SK,SZ,or_false]at h;rcases h with rfl|rfl|rfl|rfl|rfl|rfl|rfl|rfl<;>rfl
 |a::b::c::d::l,h,_,_=>absurd h (by simp)
theorem at5{x:ak}(hx:x.Ok){ns:List Int}(h:ns∈yg x.aC.length):x.wk ns=x.wo ns:=by
 unfold ak.wk ak.wo;rw[aip _ hx.db _ h]
theorem ak.Ok.wk{x:ak}(h:x.Ok)(ns:List Int):(x.wk ns).Ok:=⟨h.first,h.hours,h.am,h.xE,h.ee,TL (Kz _ _ _) h.db,h.seen,λy hy=>⟨(h.piece y hy).1,(h.piece y hy).2⟩,λy hy=>have k:=h.stub y (KA hy);⟨k.1,k.2⟩⟩
theorem apA:∀n,n<4->∀s:Nat,s<n->[(s:Int)]∈yg n:=by decide+kernel
end Tk
open Go.Conc Go.Proofs Go.Gg.Tk
section
variable {lv:Bool}{H:List aa}{k kp:AV->List aa->Prop}
theorem ajB{x:ak}{ns:List Int}{e:End}(hx:x.Ok)(iz:ns.length<=3)(hk:k (x.wk ns).av H):ba lv SA 29 H [x.av,.sl ns.length (ns.map iv) e] k kp:=by
 refine bD (rs:=[.cell 4 26]) (nt:=29) Tryz.f29 λhH hA=> ?_;simp only[bp,SU,ak.av];have aP:=hx.db;have bU:x.l=[iv x.first,iv x.hours,iv x.am,c_ x.seen,aN x.pieces,aN x.aC]:=rfl;refine aj ?_;refine aj ?_
 (repeat apply eT);refine nC (t:=5) (sz:=4) (el:=48) (by simp only[seval]<;>rfl) ?_
 simp only[seval,SQ];obtain⟨o1,D7⟩:∃o1:aa,o1=.cells [iv 0,iv 0,iv 0,.sl 0 [] .exact,.sl 0 [] .exact,.sl 0 [] .exact] 26:=⟨_,rfl⟩;simp only[iv]at D7;rw[<- D7];have bd:∀(L:List aa)(j:Nat),(H++L)[H.length+j]?=L[j]?:=λL j=>aZ H L j;have bs:∀(L:List aa)(j:Nat)(y:aa),(H++L).set (H.length+j) y=H++L.set j y:=λL j y=>dH H L j y;have b0:∀(L:List aa),(H++L)[H.length]?=L[0]?:=λL=>bd L 0;have s0:∀(L:List aa)(y:aa),(H++L).set H.length y=H++L.set 0 y:=λL y=>bs L 0 y;have b1:∀(L:List aa),(H++L)[H.length+1]?=L[1]?:=λL=>bd L 1;have s1:∀(L:List aa)(y:aa),(H++L).set (H.length+1) y=H++L.set 1 y:=λL y=>bs L 1 y;have b2:∀(L:List aa),(H++L)[H.length+2]?=L[2]?:=λL=>bd L 2;have s2:∀(L:List aa)(y:aa),(H++L).set (H.length+2) y=H++L.set 2 y:=λL y=>bs L 2 y;have kI:TR 5 x.l=[aN x.aC]:=rfl;refine aj ?_;obtain⟨D,hD⟩:∃D:Nat->List aB,∀i,D i=tr x.aC ns i:=⟨_,λ_=>rfl⟩;have fe:∀i,(D i).length<=i:=λi=>by rw[hD];exact Kz _ _ _
 have GK:D 0=[]:=hD 0;refine bP ?_;refine ek x.aC.length (λi:Nat=>[(5,.sl (D i).length ((D i).flatMap aB.l) (.opn (H.length+2))),(6,iv i)]) (λi=>H++[.cells x.l 26,o1,.tail (D i).length 4 48]) (λ_=>True) (λ_ _=>rfl) (by simp only[GK,UA,List.flatMap_nil];simp only[seval];simp[bk,Wk.refl]) (by rw[GK];rfl) (λ_ _ _=>by simp) trivial (λbw bG i cw _ R hR=> ?_);clear bw bG;refine ab ?_;simp only[seval,b0,kI,aN];refine aD ?_;refine⟨λhc=> ?_,λhc=> ?_⟩
 ·have br:i<x.aC.length:=by omega
  have bH:SD.wrap ((i:Int)+1)=((i+1:Nat):Int):=by rw[bc _ (by omega)];rfl
  obtain⟨y,hy⟩:=bE br;have kJ:D (i+1)=if(i:Int)∈ns then D i else D i++[y]:=by rw[hD,hD,tr,hy];rfl
  have Dz:0<=(i:Int)/\(i:Int)<x.aC.length:=⟨by omega,by omega⟩;have dJ:=xG hy;have MB:=fe i;refine aF ?_;refine aj ?_;refine aK ((ajR (by omega) ?_));(try simp only[seval]);refine aD ?_;refine⟨λb_=> ?_,λb_=> ?_⟩
  ·have MN:¬(i:Int)∈ns:=(by simpa using b_);rw[if_neg MN]at kJ;have hDf:((D i).flatMap aB.l).length=(D i).length* 4:=xq aB.len _;have lq:(D (i+1)).flatMap aB.l=(D i).flatMap aB.l++y.l:=(by rw[kJ,Uk];simp);have eY:(D (i+1)).length=(D i).length+1:=(by rw[kJ,SQ];rfl);refine ab ?_;simp only[seval,wc,sD,b0,b2,s2,kI,dJ,Dz,aN,hDf];refine⟨by omega,?_⟩;refine ab ?_;simp only[seval,bH];refine hR _ ⟨br,trivial,?_⟩;rw[eY,lq,show y.l=[iv y.number.min,iv y.number.max,iv y.hour.min,iv y.hour.max]from rfl];exact bX
  ·have MN:(i:Int)∈ns:=(by simpa using b_);rw[if_pos MN]at kJ;refine aF ?_;refine ab ?_;simp only[seval,bH];refine hR _ ⟨br,trivial,?_⟩;rw[kJ];exact bX
 ·have fC:i=x.aC.length:=by omega
  subst fC;refine bO ?_;refine ab ?_;simp only[seval,b0,s0,bU];obtain⟨DD,hDD⟩:∃DD,DD=D x.aC.length:=⟨_,rfl⟩;have LV:ak.av (x.wk ns)=.agg [iv x.first,iv x.hours,iv x.am,c_ x.seen,aN x.pieces,aN DD]:=by rw[hDD,hD];rfl
  rw[<- hDD];refine ab ?_;simp only[seval,b0,b1,s1,D7];refine⟨⟨rfl,rfl⟩,?_⟩;refine oD ?_;simp only[seval,b1];refine iH hH (b:=ak.av (x.wk ns)) ?_ (by rw[EL];trivial) hk;rw[LV];exact Jg (.cons (Wk.refl _) (.cons (Wk.refl _) (.cons (Wk.refl _) (.cons (Wk.refl _) (.cons (Wk.refl _) (.cons (eQ _ _ _) .nil))))))
end
namespace Tk
def iG (P:Int->Prop)(o:Int):Prop:=(o= -1/\∀d,¬P d)\/(0<=o/\P o/\∀d,P d->o<=d)
theorem iG.congr{P Q:Int->Prop}{o:Int}(h:∀d,P d<->Q d)(hP:iG P o):iG Q o:=by
 rcases hP with⟨e,h1⟩|⟨e,h1,h2⟩
 ·exact .inl ⟨e,λd hd=>h1 d ((h d).2 hd)⟩
 ·exact .inr ⟨e,(h o).1 h1,λd hd=>h2 d ((h d).2 hd)⟩
theorem iG.uniq{P:Int->Prop}{a b:Int}(ha:iG P a)(hb:iG P b):a=b:=by
 rcases ha with⟨e,h1⟩|⟨e,h1,h2⟩<;>rcases hb with⟨f,g1⟩|⟨f,g1,g2⟩
 ·omega
 ·exact absurd g1 (h1 _)
 ·exact absurd h1 (g1 _)
 ·have:=h2 _ g1;have:=g2 _ h1;omega
theorem iG.add{P:Int->Prop}{o m o':Int}(h:iG P o)(hm:0<=m)(ho:o'=if o<0\/m<o then m else o):iG (λd=>P d\/d=m) o':=by
 subst ho;right;rcases h with⟨e,h1⟩|⟨e,h1,h2⟩
 ·rw[if_pos (.inl (by omega))];exact⟨hm,.inr rfl,λd hd=>by
   rcases hd with hd|hd
   ·exact absurd hd (h1 d)
   ·omega⟩
 ·by_cases c:m<o
  ·rw[if_pos (.inr c)];exact⟨hm,.inr rfl,λd hd=>by
    rcases hd with hd|hd
    ·have:=h2 d hd;omega
    ·omega⟩
  ·rw[if_neg (by omega)];exact⟨e,.inl h1,λd hd=>by
    rcases hd with hd|hd
    ·exact h2 d hd
    ·omega⟩
def e_ (a b:Int):Int:=max (a-b) (b-a)
theorem K2(a b:Int):0<=e_ a b:=by unfold e_;omega
theorem ao9{P:Int->Prop}{o n k:Int}(h:iG P o):iG (λd=>P d\/d=e_ k n) (Is n o k):=by
 refine h.add (K2 k n) ?_;have ho:o= -1\/0<=o:=by rcases h with⟨e,_⟩|⟨e,_⟩<;>omega
 have hf:=K2 k n;unfold Is;show xp [o,e_ k n]=_;generalize e_ k n=m at hf;show vR (vR (-1) o) m=_;unfold vR;rcases ho with ho|ho
 ·subst ho;simp only[show ¬((0:Int)<= -1/\((-1:Int)<0\/(-1:Int)< -1)) by omega,if_false];rw[if_pos (by omega),if_pos (by omega)]
 ·rw[if_pos (show 0<=o/\((-1:Int)<0\/o< -1) by omega)];by_cases c:m<o
  ·rw[if_pos (by omega),if_pos (by omega)]
  ·rw[if_neg (by omega),if_neg (by omega)]
theorem acx{n:Int}:∀(l:List Int){P:Int->Prop}{o:Int},iG P o->iG (λd=>P d\/∃k∈l,d=e_ k n) (zy l n o)
 |[],P,o,h=>h.congr λd=>by simp
 |k::l,P,o,h=>(acx l (ao9 (k:=k) (n:=n) h)).congr λd=>by
  simp only[SK,exists_eq_or_imp,or_assoc]
theorem JQ{own q:Nat}:∀(ts:List (List Int)){P:Int->Prop}{o:Int}{met:Nat},iG P o->(∀n:Nat,met.testBit n=true->∀k∈dV own 0 16,P (e_ k n))->iG (λd=>P d\/∃t∈ts,∃k∈dV own 0 16,d=e_ k (iN t q)) (ts.foldl (mR own q) (o,met)).1
 |[],P,o,met,h,_=>h.congr λd=>by simp
 |t::ts,P,o,met,h,hm=>by
  rw[UV];by_cases hb:met.testBit (iN t q)=true
  ·have e:mR own q (o,met) t=(o,met):=(by unfold mR;dsimp only;rw[if_pos hb]);rw[e];refine(JQ ts h hm).congr λd=> ?_;simp only[SK,exists_eq_or_imp];constructor
   ·rintro(h1|h1)
    ·exact .inl h1
    ·exact .inr (.inr h1)
   ·rintro(h1|⟨k,hk,rfl⟩|h1)
    ·exact .inl h1
    ·exact .inl (hm _ hb k hk)
    ·exact .inr h1
  ·have e:mR own q (o,met) t=(zy (dV own 0 16) (iN t q) o,met|||2^iN t q):=(by unfold mR;dsimp only;rw[if_neg hb]);rw[e];refine(JQ ts (acx (dV own 0 16) (n:=iN t q) h) λn hn k hk=> ?_).congr λd=> ?_
   ·rw[XM,Wc,Xn,decide_eq_true_eq]at hn;rcases hn with hn|hn
    ·exact .inl (hm n hn k hk)
    ·subst hn;exact .inr ⟨k,hk,rfl⟩
   ·simp only[SK,exists_eq_or_imp,or_assoc]
theorem aol(i:Nat):dV 0 0 i=[]:=by
 unfold dV;rw[Xb.2 (λa _=>by simp)];rfl
theorem agf{x:ak}{y:aB}{q:Nat}{h:List Int}{P:Int->Prop}{o:Int}(hP:iG P o):iG (λd=>P d\/∃t∈iE x 1 h,∃k∈dV (bZ h y) 0 16,d=e_ k (iN t q)) (rH x y q o h):=by
 unfold rH;by_cases hf:bZ h y=0
 ·rw[if_pos hf,hf,aol];exact hP.congr λd=>by simp
 ·rw[if_neg hf];exact JQ _ hP λn hn=>by simp at hn
theorem Qk{x:ak}{y:aB}{q:Nat}:∀(hs:List (List Int)){P:Int->Prop}{o:Int},iG P o->iG (λd=>P d\/∃h∈hs,∃t∈iE x 1 h,∃k∈dV (bZ h y) 0 16,d=e_ k (iN t q)) (hs.foldl (rH x y q) o)
 |[],P,o,h=>h.congr λd=>by simp
 |g::hs,P,o,h=>(Qk hs (agf (h:=g) h)).congr λd=>by
  simp only[SK,exists_eq_or_imp,or_assoc]
theorem Ql{x:ak}{y:aB}{q:Nat}:∀n:Nat,iG (λd=>∃i,i<n/\∃h∈jW x i,∃t∈iE x 1 h,∃k∈dV (bZ h y) 0 16,d=e_ k (iN t q)) (py x y q n)
 |0=> .inl ⟨rfl,λd ⟨i,h,_⟩=>absurd h (by omega)⟩
 |n+1=>(Qk (jW x n) (Ql n)).congr λd=>by
  constructor
  ·rintro(⟨i,h1,h2⟩|h2)
   ·exact⟨i,by omega,h2⟩
   ·exact⟨n,by omega,h2⟩
  ·rintro⟨i,h1,h2⟩
   by_cases e:i=n
   ·subst e;exact .inr h2
   ·exact .inl ⟨i,by omega,h2⟩
theorem ab9{s:Nat}{k:Int}:k∈dV s 0 16<->∃n:Nat,n<16/\s.testBit n=true/\k=n:=by
 unfold dV;simp only[Tf,Uz,TG];constructor
 ·rintro⟨n,⟨h1,h2⟩,rfl⟩;exact⟨n,h1,h2,by omega⟩
 ·rintro⟨n,h1,h2,rfl⟩;exact⟨n,⟨h1,h2⟩,by omega⟩
end Tk
theorem Qm{x:ak}(hx:x.Ok){y:aB}{q:Nat}(hq:q<x.pieces.length):iG (λd=>∃u∈bM x,∃n,fits u.aT y n=true/\d=e_ n (u.az.getD q 0)) (py x y q (x.am.toNat+1)):=by
 refine(Ql _).congr λd=> ?_;have key:(∃u∈ny x 1,∃n,fits u.aT y n=true/\d=e_ n (u.az.getD q 0))<->∃u∈bM x,∃n,fits u.aT y n=true/\d=e_ n (u.az.getD q 0):=Qj (P:=λh ns=>∃n,fits h y n=true/\d=e_ n (ns.getD q 0));rw[<- key];have one:∀(h:List Int)(u:Tr),wj x h->u∈bM x->u.aT=h->((∃k∈dV (bZ (cz h) y) 0 16,d=e_ k (iN (eB u) q))<->∃n,fits u.aT y n=true/\d=e_ n (u.az.getD q 0)):=by
  rintro h u hL hu rfl
  have ht:=(BF hx).1 hu;have hn:=acG hx ht hq;have hd:u.aT.headD 0=x.first:=I8 hu;rw[RI hx hu hq,hd];obtain⟨w,hw⟩:∃w:Nat,u.az.getD q 0-x.first=w:=⟨(u.az.getD q 0-x.first).toNat,by omega⟩;rw[show (u.az.getD q 0-x.first).toNat=w by omega];have DZ:mE u.aT<=9:=by unfold mE;have:=hL.span;have:=hL.head;omega
  constructor
  ·rintro⟨k,hk,rfl⟩
   obtain⟨n,h1,h2,rfl⟩:=ab9.1 hk;have MK:n<9:=by
    refine Tv λh=> ?_;have:(bZ (cz u.aT) y).testBit n=false:=Nat.testBit_lt_two_pow (Tg CV (UT (by decide) (by omega)));rw[this]at h2;cases h2
   rw[CU hL y MK,Te,hd]at h2;exact⟨x.first+n,h2.2,by unfold e_;omega⟩
  ·rintro⟨n,hf,rfl⟩
   have vd:=K8 ht.aT.mono hf;unfold zC at vd;obtain⟨i,Ms,rfl⟩:=Tf.1 vd;have kK:i<mE u.aT:=TG.1 Ms;refine⟨(i:Int),ab9.2 ⟨i,by omega,?_,rfl⟩,by rw[hd];unfold e_;omega⟩;rw[CU hL y (by omega),decide_eq_true kK,hf];rfl
 unfold ny;rw[<- Hg hx.hours.1];constructor
 ·rintro⟨i,hi,h,hh,t,ht,hk⟩
  rw[He hx.hours.1 hi]at hh;obtain⟨g,hg,rfl⟩:=Tf.1 hh;have hL:=Hd hx hi hg;rw[PE hL]at ht;obtain⟨u,hu,rfl⟩:=Tf.1 ht;have qH:g∈aL x:=by rw[<- Hg hx.hours.1];exact S4.2 ⟨i,TG.2 hi,hg⟩
  have Eo:=zW hu;refine⟨u,S4.2 ⟨g,S4.2 ⟨i,TG.2 hi,hg⟩,hu⟩,(one g u hL (S4.2 ⟨g,qH,Eo⟩) (v_ Eo)).1 hk⟩
 ·rintro⟨u,hu,hk⟩
  obtain⟨g,A_,hu⟩:=S4.1 hu;obtain⟨i,hi,hg⟩:=S4.1 A_;have hi:=TG.1 hi;have hL:=Hd hx hi hg;have qH:g∈aL x:=by rw[<- Hg hx.hours.1];exact A_
  have Eo:=zW hu;refine⟨i,hi,cz g,?_,eB u,?_,(one g u hL (S4.2 ⟨g,qH,Eo⟩) (v_ Eo)).2 hk⟩
  ·rw[He hx.hours.1 hi];exact Tf.2 ⟨g,hg,rfl⟩
  ·rw[PE hL];exact Tf.2 ⟨u,hu,rfl⟩
open Go.Gg.Tk
namespace Tk
def mU (h:List Int)(y:aB)(v first d0:Int):Nat->Int
 |0=>d0
 |j+1=>if fits h y (first+(j:Int))=true/\(mU h y v first d0 j<0\/e_ (first+(j:Int)) v<mU h y v first d0 j)then e_ (first+(j:Int)) v else mU h y v first d0 j
theorem Ra{h:List Int}{y:aB}{v first d0:Int}{P:Int->Prop}(h0:iG P d0):∀j:Nat,iG (λd=>P d\/∃i:Nat,i<j/\fits h y (first+(i:Int))=true/\d=e_ (first+(i:Int)) v) (mU h y v first d0 j)
 |0=>h0.congr λd=>by simp
 |j+1=>by
  have ih:=Ra (h:=h) (y:=y) (v:=v) (first:=first) h0 j;unfold mU;generalize mU h y v first d0 j=d at ih
  by_cases hf:fits h y (first+(j:Int))=true
  ·refine(ih.add (K2 (first+(j:Int)) v) (o':=if fits h y (first+(j:Int))=true/\(d<0\/e_ (first+(j:Int)) v<d)then e_ (first+(j:Int)) v else d) ?_).congr λe=> ?_
   ·by_cases hc:d<0\/e_ (first+(j:Int)) v<d
    ·rw[if_pos ⟨hf,hc⟩,if_pos hc]
    ·rw[if_neg λh=>hc h.2,if_neg hc]
   ·constructor
    ·rintro((h1|⟨i,h1,h2,h3⟩)|h1)
     ·exact .inl h1
     ·exact .inr ⟨i,by omega,h2,h3⟩
     ·exact .inr ⟨j,by omega,hf,h1⟩
    ·rintro(h1|⟨i,h1,h2,h3⟩)
     ·exact .inl (.inl h1)
     ·by_cases e:i=j
      ·subst e;exact .inr h3
      ·exact .inl (.inr ⟨i,by omega,h2,h3⟩)
  ·rw[if_neg λh=>hf h.1];refine ih.congr λe=> ?_;constructor
   ·rintro(h1|⟨i,h1,h2,h3⟩)
    ·exact .inl h1
    ·exact .inr ⟨i,by omega,h2,h3⟩
   ·rintro(h1|⟨i,h1,h2,h3⟩)
    ·exact .inl h1
    ·refine .inr ⟨i,?_,h2,h3⟩;have:i≠j:=λe=>hf (e▸h2);omega
def zP (u:Tr):Nat:=(u.aT.getLastD 0-u.aT.headD 0).toNat
def Az (y:aB)(p:Nat)(first:Int):List Tr->Int->Int
 |[],d=>d
 |u::l,d=>Az y p first l (mU u.aT y (u.az.getD p 0) first d (zP u))
theorem Rc(y:aB)(p:Nat)(first:Int)(u:Tr):∀(l:List Tr)(d:Int),Az y p first (l++[u]) d=mU u.aT y (u.az.getD p 0) first (Az y p first l d) (zP u)
 |[],d=>rfl
 |a::l,d=>Rc y p first u l _
theorem Rb{x:ak}(hx:x.Ok){y:aB}{p:Nat}:∀(l:List Tr)(d0:Int)(P:Int->Prop),(∀u∈l,u∈bM x)->iG P d0->iG (λd=>P d\/∃u∈l,∃n,fits u.aT y n=true/\d=e_ n (u.az.getD p 0)) (Az y p x.first l d0)
 |[],d0,P,_,h=>h.congr λd=>by simp
 |u::l,d0,P,hu,h=>by
  have hm:=hu u (by simp);have ht:=(BF hx).1 hm;have hd:u.aT.headD 0=x.first:=I8 hm;refine(Rb hx l _ _ (λw hw=>hu w (by simp[hw])) (Ra (h:=u.aT) (y:=y) (v:=u.az.getD p 0) (first:=x.first) h (zP u))).congr λd=> ?_;have key:(∃i:Nat,i<zP u/\fits u.aT y (x.first+(i:Int))=true/\d=e_ (x.first+(i:Int)) (u.az.getD p 0))<->∃n,fits u.aT y n=true/\d=e_ n (u.az.getD p 0):=by
   constructor
   ·rintro⟨i,_,h2,h3⟩;exact⟨_,h2,h3⟩
   ·rintro⟨n,h2,h3⟩
    have vd:=K8 ht.aT.mono h2;unfold zC at vd;obtain⟨i,Ms,rfl⟩:=Tf.1 vd;rw[hd]at h2 h3;exact⟨i,TG.1 Ms,h2,h3⟩
  rw[key];simp only[SK,exists_eq_or_imp,or_assoc]
theorem aiq{x:ak}(hx:x.Ok){y:aB}{p:Nat}(hp:p<x.pieces.length):Az y p x.first (bM x) (-1)=py x y p (x.am.toNat+1):=by
 refine iG.uniq ((Rb hx (bM x) (-1) (λ_=>False) (λu h=>h) (.inl ⟨rfl,λd h=>h⟩)).congr λd=> ?_) (Qm hx hp);simp
theorem atN{x:ak}(hx:x.Ok):(bM x).length<=2^40:=by
 have hp:=hx.am;have hh:=hx.hours;rw[<- RO hx];obtain⟨h1,h2⟩:=Oa (x.am.toNat+1) (by omega) x.hours.toNat (by omega);refine TL (RN (m:=419904) λst aP=> ?_) (TL (TM _ h1) (by decide));have aP:=h2 st aP;have hH:=Gs (first:=x.first) (am:=x.am) (st:=st) (λa ha=>by have:=aP.2 a ha;omega) x.hours.toNat (by omega);rw[SW (by omega)]at hH;refine aeM hx ?_;rw[xn hH,A7 hH];have:=hH.top hx.first hx.am (by omega) x.hours.toNat (SO _);omega
end Tk
open Go.Gg.Tk
namespace Tk
def Before (l m:List Int):Prop:=∃k,l.take k=m.take k/\k<l.length/\k<m.length/\l.getD k 0<m.getD k 0
end Tk
variable {x:ak}
theorem at6{u:Tr}(h:Cq x u){s:Nat}(hs:s<x.aC.length):Cq (x.wo [(s:Int)]) {u with bI:=u.bI.eraseIdx s}:=by
 have e:(x.wo [(s:Int)]).aC=x.aC.eraseIdx s:=by
  show qy x.aC [(s:Int)]=_;unfold qy;simp
 have hl:=h.xy;refine⟨h.aT,h.seen,h.vW,h.piece,h.Iu,?_,λv hv=>h.own v (List.mem_of_mem_eraseIdx hv),λi y hy=> ?_,h.IH.sublist (List.eraseIdx_sublist _ _)⟩
 ·rw[e];show (u.bI.eraseIdx s).length=_;rw[WM (by omega),WM hs,hl]
 ·rw[e,YI]at hy;show fits u.aT y (u.az.getD ((u.bI.eraseIdx s).getD i 0) 0)=true;rw[SE (l:=u.bI.eraseIdx s),YI];split
  ·rename_i hi;rw[if_pos hi]at hy;have:=h.stub i y hy;rwa [SE (l:=u.bI)]at this
  ·rename_i hi;rw[if_neg hi]at hy;have:=h.stub (i+1) y hy;rwa [SE (l:=u.bI)]at this
theorem agh(hx:x.Ok){u:Tr}(hu:u∈bM x){s:Nat}{y:aB}(hy:x.aC[s]?=some y):py (x.wo [(s:Int)]) y (u.bI.getD s 0) (x.am.toNat+1)=0:=by
 have ht:=(BF hx).1 hu;have hs:=(SL.1 hy).1;have hp:u.bI.getD s 0<x.pieces.length:=ht.own _ (aan (by rw[ht.xy];exact hs));have hL:=Qm (hx.wo [(s:Int)]) (y:=y) (q:=u.bI.getD s 0) hp;have hm:=(BF (hx.wo [(s:Int)])).2 (at6 ht hs);have hex:∃w∈bM (x.wo [(s:Int)]),∃n,fits w.aT y n=true/\(0:Int)=e_ n (w.az.getD (u.bI.getD s 0) 0):=⟨_,hm,u.az.getD (u.bI.getD s 0) 0,ht.stub s y hy,by unfold e_;dsimp only;omega⟩;rcases hL with⟨_,h1⟩|⟨h0,_,h2⟩
 ·exact absurd hex (h1 0)
 ·have:=h2 0 hex;show py _ _ _ ((x.wo [(s:Int)]).am.toNat+1)=0;omega
open Go.Conc Go.Proofs Go.Gg.Tk
section
variable {H:List aa}{k kp:AV->List aa->Prop}
theorem ajT{az:List Int}(hm:H[0]?=some .main)(hn:az.length<=2^50)(hk:k (bv true) H):ba true SA 6 H [aM az] k kp:=by
 have nU:∀L:List aa,(H++L)[0]?=some .main:=λL=>fU hm;refine bD (rs:=[.tmp 2]) (nt:=161) Wx λhH hA=> ?_;simp only[bp,SU];refine aj ?_;refine aj ?_;refine aK ((ajo ?_));(try simp only[seval]);refine aK ((aji (pm:=3) (b:=0) (aty H) ⟨Xw _,Xw _,hn⟩ (by decide) (by decide) λx aT az bI τ hx _ _ _ _ _=> ?_));have oY:=hx.ee;have aP:=hx.db;have bU:x.l=[iv x.first,iv x.hours,iv x.am,c_ x.seen,aN x.pieces,aN x.aC]:=rfl;have da:x.l.length=6:=rfl;have fL:Uh 6 x.l=x.l:=rfl;obtain⟨B,hB⟩:∃B,B=H++[B9 τ]:=⟨_,rfl⟩;rw[<- hB];have Hl:∀L:List aa,(B++L)[0]?=some .main:=λL=>by rw[hB,SC];exact nU _
 have b0:∀(L:List aa),(B++L)[B.length]?=L[0]?:=λL=>aZ B L 0;have s0:∀(L:List aa)(y:aa),(B++L).set B.length y=B++L.set 0 y:=λL y=>dH B L 0 y;(try simp only[seval,ak.av,b0,s0,da]);refine⟨vZ x,?_⟩;have pY:x.l[0]?=some (iv x.first):=rfl;have cQ:TR 1 x.l=[iv x.hours,iv x.am,c_ x.seen,aN x.pieces,aN x.aC]:=rfl;have wV:TR 4 x.l=[aN x.pieces,aN x.aC]:=rfl;have kI:TR 5 x.l=[aN x.aC]:=rfl;have yS:=hx.hours;have gL:=hx.first;obtain⟨hr,yT⟩:∃hr:Nat,x.hours=hr:=⟨x.hours.toNat,by omega⟩;refine aj ?_;refine bP ?_;refine qu x.aC.length (λs:Nat=>[(7,iv s)]) (λ_=>B++[.cells x.l 26]) (λ_=>True) trivial (λbw bG s xe _ R hR=> ?_);clear bw bG;refine ab ?_;simp only[seval,b0,kI,aN];refine aD ?_;refine⟨λhc=> ?_,λhc=> ?_⟩
 ·have cj:s<x.aC.length:=by omega
  have bH:SD.wrap ((s:Int)+1)=((s+1:Nat):Int):=by rw[bc _ (by omega)];rfl
  obtain⟨y,hy⟩:=bE cj;have yJ:(0<=(s:Int)/\(s:Int)<x.aC.length)=True:=by simp;omega
  have Bs:=xG hy;have hzw:x.wk [(s:Int)]=x.wo [(s:Int)]:=at5 hx (apA _ (by omega) s cj);have zl:=hx.wo [(s:Int)];refine aF ?_;refine ab ?_;simp only[seval,b0,da,fL,z1,xz];refine aK ((ajB (x:=x) (ns:=[(s:Int)]) hx (by simp) ?_));rw[hzw];(try simp only[seval]);refine aK ((ajp zl ?_));have HU:(x.wo [(s:Int)]).first=x.first:=rfl
  have NA:(x.wo [(s:Int)]).pieces=x.pieces:=rfl;have hzh:(x.wo [(s:Int)]).hours=x.hours:=rfl;have L9:=λp hp=>aiq zl (y:=y) (p:=p) hp;rw[HU,NA]at L9;have hap:=λ(u:Tr) (hu:u∈bM x)=>agh hx hu hy;have xh:=λ(u:Tr) (hu:u∈bM (x.wo [(s:Int)]))=>(BF zl).1 hu;have HM:=λ(u:Tr) (hu:u∈bM (x.wo [(s:Int)]))=>I8 hu;obtain⟨L,hL⟩:∃L,L=bM (x.wo [(s:Int)]):=⟨_,rfl⟩;rw[<- hL];simp only[<- hL]at L9 xh HM;have hLl:L.length<=2^40:=by
   rw[hL];exact atN zl
  clear hL;(try simp only[seval]);refine aj ?_;refine bP ?_;refine qu x.pieces.length (λp:Nat=>[(9,iv p)]) (λ_=>B++[.cells x.l 26]) (λ_=>True) trivial (λbw bG p Bl _ R2 gW=> ?_);clear bw bG;refine ab ?_;simp only[seval,b0,wV,aN];refine aD ?_;refine⟨λb_=> ?_,λb_=> ?_⟩
  ·have cL:p<x.pieces.length:=(by omega);have ep:SD.wrap ((p:Int)+1)=((p+1:Nat):Int):=(by rw[bc _ (by omega)];rfl);obtain⟨D,hD⟩:∃D:Nat->Int,∀i,D i=Az y p x.first (L.take i) (-1):=⟨_,λ_=>rfl⟩;have GK:D 0= -1:=hD 0;have hDe:D L.length=py (x.wo [(s:Int)]) y p (x.am.toNat+1):=(by rw[hD,Tn];exact L9 p cL);refine aF ?_;refine aj ?_;refine aj ?_;refine bP ?_;refine ek L.length (λi:Nat=>[(10,iv (D i)),(11,iv i)]) (λ_=>B++[.cells x.l 26]) (λ_=>True) (λ_ _=>rfl) (by rw[GK];simp only[seval];simp[bk,Wk.refl]) rfl (λ_ _ _=>rfl) trivial (λbw bG i cw _ R3 iT=> ?_);clear bw bG;refine ab ?_;simp only[seval,uI];refine aD ?_;refine⟨λde=> ?_,λde=> ?_⟩
   ·have br:i<L.length:=(by omega);have j4:SD.wrap ((i:Int)+1)=((i+1:Nat):Int):=(by rw[bc _ (by omega)];rfl);obtain⟨u,hu⟩:=bE br;have hum:=S6 hu;have ht:=xh u hum;have DV:=HM u hum;rw[HU]at DV;have eD:(0<=(i:Int)/\(i:Int)<L.length)=True:=(by simp;omega);have dw:=ar6 hu;have hDs:D (i+1)=mU u.aT y (u.az.getD p 0) x.first (D i) (zP u):=by
     rw[hD,hD,Uo,hu];exact Rc _ _ _ _ _ _
    rw[hDs]at iT;generalize D i=d0 at iT⊢;clear hDs;have cP:=ht.aT.len;rw[hzh]at cP;have mq:=ht.vW;rw[NA]at mq;obtain⟨w,hw⟩:=bE (xs:=u.aT) (i:=hr) (by omega);have eJ:u.aT.getLastD 0=w:=by
     rw[U_,WT,show u.aT.length-1=hr by omega,hw];rfl
    obtain⟨v,hv⟩:=bE (xs:=u.az) (i:=p) (by omega);have w6:u.az.getD p 0=v:=(by rw[SE,hv];rfl);rw[w6]at iT;have hvb:=acG zl ht (p:=p) (by rw[NA];exact cL);rw[w6,HU]at hvb;obtain⟨M,hM⟩:∃M,zP u=M:=⟨_,rfl⟩;have hM2:(w-x.first).toNat=M:=(by rw[<- hM,zP,eJ,DV]);have so:=(xn ht.aT).symm.trans eJ;have kM:=ht.aT.top zl.first zl.am (by rw[hzh];omega) _ (SO _);rw[so,HU]at kM;rw[hM]at iT;have hbw:(0<=(hr:Int)/\(hr:Int)<(u.aT.length:Int))=True:=(by simp;omega);have wT:(0<=(p:Int)/\(p:Int)<(u.az.length:Int))=True:=(by simp;omega);have hfe:=λn=>K6 (h:=u.aT) (y:=y) (n:=n) (by omega) (by omega) ht.aT.mono;refine aF ?_;refine ab ?_;simp only[seval,b0,pY];have alM:mU u.aT y v x.first d0 0=d0:=rfl;refine bP ?_;refine ek M (λj:Nat=>[(10,iv (mU u.aT y v x.first d0 j)),(12,iv (x.first+j))]) (λ_=>B++[.cells x.l 26]) (λ_=>True) (λ_ _=>rfl) (by rw[alM];simp only[seval];simp[bk,Wk.refl]) rfl (λ_ _ _=>rfl) trivial (λbw bG j lS _ R4 oK=> ?_);clear bw bG;refine ej 11 ?_;simp only[seval,dw,eD,aM,b0,cQ,yT,dN hw,hbw];refine aD ?_;refine⟨λiU=> ?_,λiU=> ?_⟩
    ·have dn:j<M:=(by omega);have m9:SD.wrap (x.first+(j:Int)+1)=x.first+((j+1:Nat):Int):=(by rw[bc _ (by omega)];omega);have fJ:mU u.aT y v x.first d0 (j+1)=if fits u.aT y (x.first+(j:Int))=true/\(mU u.aT y v x.first d0 j<0\/e_ (x.first+(j:Int)) v<mU u.aT y v x.first d0 j)then e_ (x.first+(j:Int)) v else mU u.aT y v x.first d0 j:=rfl;have qO:0<=x.first+(j:Int)/\x.first+(j:Int)<=200:=(by omega);rw[fJ]at oK;generalize mU u.aT y v x.first d0 j=e at oK⊢;generalize x.first+(j:Int)=n at m9 qO oK⊢;have nW:SD.wrap (n-v)=n-v:=abE (by omega);have oX:SD.wrap (v-n)=v-n:=abE (by omega);have alU:(if n-v<v-n then v-n else n-v)=e_ n v:=(by unfold e_;split<;>omega);refine aF ?_;refine bP ?_;refine ej 22 ?_;simp only[seval,dw,eD,aM,dN hv,wT,nW,oX,alU];generalize e_ n v=f at oK⊢;cases DO:fits u.aT y n with
     |false=>
      refine ej 21 ?_;simp only[seval,dw,eD,aM,b0,kI,aN,Bs,yJ];refine gB (bv false) (dc (C9 (h:=u.aT) (y:=y) (n:=n) (by omega) ⟨by rw[hfe,DO],rfl⟩)) ?_;(try simp only[seval]);refine aD ?_;refine aF ?_;refine ab ?_;simp only[seval,m9];refine oK _ ⟨dn,trivial,?_⟩;rw[if_neg (λh=>by rw[DO]at h;cases h.1)];exact bX
     |true=>
      refine ej 21 ?_;simp only[seval,dw,eD,aM,b0,kI,aN,Bs,yJ];refine gB (bv true) (dc (C9 (h:=u.aT) (y:=y) (n:=n) (by omega) ⟨by rw[hfe,DO],rfl⟩)) ?_;by_cases he:e<0
      ·have d1:decide (e<0)=true:=decide_eq_true he;(try simp only[seval,d1]);refine aD ?_;refine aj ?_;refine ab ?_;simp only[seval,m9];refine oK _ ⟨dn,trivial,?_⟩;rw[if_pos ⟨DO,.inl he⟩];exact bX
      ·have d1:decide (e<0)=false:=decide_eq_false he;(try simp only[seval,d1]);refine aD ?_;refine⟨λb8=> ?_,λb8=> ?_⟩
       ·have hlt:f<e:=(by simpa using b8);refine aj ?_;refine ab ?_;simp only[seval,m9];refine oK _ ⟨dn,trivial,?_⟩;rw[if_pos ⟨DO,.inr hlt⟩];exact bX
       ·have hlt:¬f<e:=(by simpa using b8);refine aF ?_;refine ab ?_;simp only[seval,m9];refine oK _ ⟨dn,trivial,?_⟩;rw[if_neg (λh=>by rcases h.2 with h|h<;>contradiction)];exact bX
    ·have fC:j=M:=(by omega);subst fC;refine bO ?_;refine ab ?_;simp only[seval,j4];refine iT _ ⟨br,trivial,bX⟩
   ·have fC:i=L.length:=(by omega);subst fC;rw[hDe];refine bO ?_;obtain⟨A,hA⟩:∃A,A=py (x.wo [(s:Int)]) y p (x.am.toNat+1):=⟨_,rfl⟩;rw[<- hA];obtain⟨d,hd⟩:∃d:Int,d=if A<0 then 0 else A:=⟨_,rfl⟩;obtain⟨e,he⟩:∃e:Int,e=if A<0 then 11 else 0:=⟨_,rfl⟩;refine ab ?_;simp only[seval,b0,da,fL];refine aK ((R_ (x:=x) (s:=s) (q:=p) (y:=y) hx hy cL λo ho=> ?_));rw[ho,<- hA,<- hd,<- he];(try simp only[seval]);refine ab ?_;simp only[seval,b0,da,fL];refine aK ((R9 (x:=x) (s:=s) (q:=p) hx cj cL (Hl _) ?_));obtain⟨v,hv⟩:∃v:Int,v=if(bM x).isEmpty=true then 0 else vM (q_ x s p) (zE x s p):=⟨_,rfl⟩;obtain⟨f,hf⟩:∃f:Int,f=if(bM x).isEmpty=true then 11 else 0:=⟨_,rfl⟩;have hvf:(f==0)=true->(v !=2)=true->A=0:=λh1 h2=>by
     cases hE:(bM x).isEmpty with
     |true=>rw[hf,hE]at h1;cases h1
     |false=>
      cases hp:q_ x s p with
      |false=>rw[hv,hE,hp]at h2;cases ho:zE x s p<;>rw[ho]at h2<;>cases h2
      |true=>
       obtain⟨u,hu,e1⟩:=Am.1 hp;have e1:u.bI.getD s 0=p:=of_decide_eq_true e1;rw[hA,<- e1];exact hap u hu
    rw[<- hv,<- hf];(try simp only[seval]);by_cases uX:A<0
    case' pos=>
     rw[if_pos uX]at hd he;have g1:decide (A<0)=true:=decide_eq_true uX;have g2:decide (A>=0)=false:=decide_eq_false (by omega);subst hd he
     (repeat apply eT);refine Ao (by kernel_rfl) ?_
     simp only[seval,g1,g2,show ((11:Int)!=11)=false from rfl,show ((0:Int)!=0)=false from rfl];have dS:A=0->(((11:Int)!=0)=false/\((0:Int)!=0)=false):=λh=>by omega
    case' neg=>
     rw[if_neg uX]at hd he;have g1:decide (A<0)=false:=decide_eq_false uX;have g2:decide (A>=0)=true:=decide_eq_true (by omega);subst hd he
     (repeat apply eT);refine Ao (by kernel_rfl) ?_
     simp only[seval,g1,g2,bne_self_eq_false];have dS:d=0->(((0:Int)!=0)=false/\(d !=0)=false):=λh=>by rw[h];exact⟨rfl,rfl⟩
    all_goals
     refine aD ?_;refine aF ?_;by_cases yO:(f==0)=true
     ·by_cases m8:(v !=2)=true
      ·obtain⟨q1,q2⟩:=dS (hvf yO m8)
       (repeat apply eT);refine Ao (by kernel_rfl) ?_
       simp only[seval,yO,m8,q1,q2];refine aD ?_;refine aF ?_;refine ab ?_;simp only[seval,ep];refine gW _ ⟨cL,trivial,bX⟩
      ·have m8:(v !=2)=false:=by simpa using m8
       (repeat apply eT);refine Ao (by kernel_rfl) ?_
       simp only[seval,yO,m8];refine aD ?_;refine aF ?_;refine ab ?_;simp only[seval,ep];refine gW _ ⟨cL,trivial,bX⟩
     ·have yO:(f==0)=false:=by simpa using yO
      (repeat apply eT);refine Ao (by kernel_rfl) ?_
      simp only[seval,yO];refine aD ?_;refine aF ?_;refine ab ?_;simp only[seval,ep];refine gW _ ⟨cL,trivial,bX⟩
  ·have fC:p=x.pieces.length:=(by omega);subst fC;refine bO ?_;refine ab ?_;simp only[seval,bH];refine hR _ ⟨cj,trivial,bX⟩
 ·have fC:s=x.aC.length:=by omega
  subst fC;refine bO ?_;refine aj ?_;refine aK ((ajs (Hl _) ?_));(try simp only[seval]);refine aX ?_;rw[hB,SC];exact iH hH (Wk.refl _) (.val _) hk
end
open Go.ChangeShapes Go.WideShapes Go.ChangeAt Go.RowKit
def FA (W:Tq):View:=⟨λb o=>W.cell? ⟨b,o,none⟩,λ_=>none,0,.plain⟩
def C7 (W:Tq):Env:=⟨(FA W).ah,1,λ_=>0,λ_ _=>(none,0),λ_=>0,λ_=>none,true⟩
theorem arJ(W:Tq):Sat (FA W) W:=⟨λ_ _ _ h=>h,λ_ _ h=>by cases h⟩
theorem ahV(W:Tq):Conc (C7 W) (FA W) [.main]where
 I:=rfl
 n:=rfl
 obj:=λk x h=>by
  match k,h with
  |0,h=>cases h;exact rfl
  |k+1,h=>cases h
 inj:=λi j x y b hi hj h1 h2=>by
  match i,hi with
  |0,hi=>cases hi;cases h1
  |i+1,hi=>cases hi
 group:=λg h=>by cases h
 chan:=λc h=>by cases h
 top:=λ_=>⟨rfl,rfl⟩
 fr:=λb y h=>by cases h
theorem akX{f:TY}{W:Tq}{args:Array SP}{mi:List AV}{Q:SP->Prop}(hi:SA.inits.idxOf? f=none)(hd:cK (C7 W) mi args)(h:ba true SA f [.main] mi (λa _=>∀E v,ap E a v->Q v) (λ_ _=>False)):
  ∃M last o w' t',runNT SA (M+1) (solo (G (Frame.enter SA f args .normal) []) W) #[]=(.ended o w',t')/\runN SA M (solo (G (Frame.enter SA f args .normal) []) W)=.next last/\step SA last=.ended o w'/\W7 SA (λv w=>Q v/\Left W.heap.size W w) last o w' t':=
 akW hi (V:=FA W) rfl rfl rfl (arJ W) (h (C7 W) (FA W) args (ahV W) hd) λo V' r=>by
  cases o with
  |ret v=>
   obtain⟨av,E',H',_,cq,_,bx,_,hk⟩:=r;exact⟨cq,v,rfl,λw _ hl=>⟨hk _ _ bx,hl⟩⟩
  |panic ch=>
   obtain⟨pv,v,E',H',_,_,_,_,_,_,hf⟩:=r;exact hf.elim
theorem ah8{W:Tq}{b o len cap:Nat}{zs:List Int}(hl:zs.length=len)(hc:len<=cap)(h:∀i,i<len->W.cell? ⟨b,o+i,none⟩=some (.int .i64 (zs.getD i 0))):ap (C7 W) (aM zs) (.slice (some ⟨b,o,none⟩) len cap):=by
 subst hl;refine .sl b o cap (λi=> .int .i64 (zs.getD i 0)) hc trivial (λi hi=> ?_) (λi x hx=> ?_)
 ·exact h i (by simpa using hi)
 ·rw[Tp]at hx;obtain⟨z,hz,rfl⟩:=Ts.1 hx;rw[SE,hz];exact .val _
theorem Left.below{W w:Tq}(h:Left W.heap.size W w):Below W.heap.size W w:=⟨h.os,h.tape,h.out,h.size,h.old⟩
theorem Tz.own:ownKnob SA.godebug=none:=by kernel_rfl
theorem Tz.laidOut:laidOutB SA=true:=by kernel_rfl
theorem Tz.Jb:SA.underlying 22=some (.slice 3):=by kernel_rfl
theorem Tz.u3:SA.underlying 3=some (.int .i64):=by kernel_rfl
theorem Tz.u4:SA.underlying 4=some .bool:=by kernel_rfl
theorem Tz.c3:SA.cellsOf 3=1:=by kernel_rfl
theorem Tz.b3:SA.bytesOf 3=8:=by kernel_rfl
theorem Tz.r22:SA.readableRec 22=true:=by kernel_rfl
theorem Tz.N1:22<SA.types.size:=of_decide_eq_true (by kernel_rfl)
theorem arj{H:Type}{enc:TypeId×SP->H}{a:Assume}{C:Checked}{os:Os}{f:TY}{fn:YL}{s:Z_}{conds:List PathCond}{apart fresh handsOn again:Bool}{X:Tq->Array SP->Prop}
  (own:ownKnob C.prog.godebug=none) (started:os.Started) (yP:C.prog.funcs[f]?=some fn)
  (witness:∃(w:Tq)(tape:Tape)(i:Input),w.os=os/\(w.forCall tape i).Shaped C.prog/\i.vars=[]/\Z6 C.prog (w.forCall tape i) .any w.heap.size f i/\
   ((s.pre enc C.prog fn conds apart (w.forCall tape i).memory i.args/\X (w.forCall tape i).memory i.args)/\sizedMet enc C.prog fn (VI s) apart (w.forCall tape i).memory i.args)/\a.holds C.prog (lone (Frame.enter C.prog f i.args .normal) [] (w.forCall tape i)))
  (runs:∀(W:Tq)(base:Nat)(args:Array SP)(ds gs:List (ap' H))(before:List MemPlace),
   (∀(j:Nat) t v,fn.params[j]?=some t->args[j]?=some v->YD C.prog W .any base t v)->
   DataW.Whole enc C.prog fn.params.toList s.vars apart W args.toList ds gs before->
   conds.all (avZ C.prog ⟨fn.params.toList,ds,s.plain.varTypes C.prog,gs⟩)=true->
   (Zo C.prog (fn.params.toList++s.plain.varTypes C.prog) (ds++gs)).all (·<=reachBytes)=true->
   a.holds C.prog (lone (Frame.enter C.prog f args .normal) [] W)->
   ∃M last o w' t',runNT C.prog (M+1) (solo (G (Frame.enter C.prog f args .normal) []) W) #[]=(.ended o w',t')/\runN C.prog M (solo (G (Frame.enter C.prog f args .normal) []) W)=.next last/\
    step C.prog last=.ended o w'/\W7 C.prog (λv W'=>s.post enc C.prog fn apart fresh handsOn again W args v W') last o w' t'):
  XE a C os f .any (λw args=>(s.pre enc C.prog fn conds apart w args/\X w args)/\sizedMet enc C.prog fn (VI s) apart w args) (s.post enc C.prog fn apart fresh handsOn again):=by
 refine returnsInLeavingWide_of_good own started witness ?_;intro w tape i _ _ _ aq MZ alY;obtain⟨_,_,_,fG,alV,_,_,_,_,HP⟩:=aq;have e:fG=fn:=Wb (alV.symm.trans yP);subst e;obtain⟨⟨⟨ds,gs,before,hw,hc⟩,_⟩,hz⟩:=MZ;have n9:=ap_ (w':=w.forCall tape i) (by rfl) hw;obtain⟨M,last,o,w',t',h1,h2,h3,h4⟩:=runs (w.forCall tape i) w.heap.size i.args ds gs before HP n9 hc (hz.weights hw) alY;exact⟨M,last,o,w',t',h1,h2,h3,h4.mono λv hp=>au_ hp⟩
def afd (f:TY):Prop:=∀az:List Int,az.length<=2^50->ba true SA f [.main] [aM az] (λa _=>a=bv true) (λ_ _=>False)
set_option maxRecDepth 100000 in
theorem anl{f:TY}{fn:YL}{s:Z_}{X:Tq->Array SP->Prop}(hf:SA.funcs[f]?=some fn)(hp:fn.params=#[22]) (hr:fn.resultTypes=#[4]) (hv:s.vars=[]) (hs:∀(H:Type)(d:ap' H),s.fn H [d]={results:=[.lit (.bool true)],args:=[d]}) (hi:SA.inits.idxOf? f=none) (al8:afd f)
  (os:Os) (started:os.Started) (H:Type) (enc:TypeId×SP->H)
  (ani:∃(w:Tq)(tape:Tape)(i:Input),w.os=os/\(w.forCall tape i).Shaped UD.prog/\i.vars=[]/\Z6 UD.prog (w.forCall tape i) .any w.heap.size f i/\
   ((s.pre enc UD.prog fn [] false (w.forCall tape i).memory i.args/\X (w.forCall tape i).memory i.args)/\sizedMet enc UD.prog fn (VI s) false (w.forCall tape i).memory i.args)/\({}:Assume).holds UD.prog (lone (Frame.enter UD.prog f i.args .normal) [] (w.forCall tape i))):
  XE {} UD os f .any (λw args=>(s.pre enc SA fn [] false w args/\X w args)/\sizedMet enc SA fn (VI s) false w args) (s.post enc SA fn false true false false):=by
 refine arj (C:=UD) Tz.own started hf ani ?_;intro W base args ds gs before abA hW _ Nf _;have aY:(Zo SA (fn.params.toList++s.plain.varTypes SA) (ds++gs)).all (·<=reachBytes)=true:=Nf;clear Nf;have HP:∀(j:Nat) t v,fn.params[j]?=some t->args[j]?=some v->YD SA W .any base t v:=abA;have wM:=hW;obtain⟨p,q,uX,hV,rfl,_,_⟩:=hW;have hA:DataW.TrodAll enc SA W 0 (λ_=>true) true fn.params.toList args.toList ds p:=uX;rw[hp]at hA HP aY;obtain⟨v0,d0,rfl,rfl,h0⟩:=trodAll_one hA;rw[hv]at hV;obtain⟨rfl,rfl⟩:=trodVars_none hV;have aq:=HP 0 22 v0 rfl rfl;obtain⟨a0,len,cap,rfl⟩:=okWide_slice Tz.Jb aq;have h0k:=h0;obtain⟨fuel,hfu⟩:=h0;clear uX abA;simp only[SN]at wM;have hlt:∀x∈p,x.block<W.heap.size:=λx hx=>by simpa using wM.lt x hx
 have cN:∀(W':Tq),Below W.heap.size W W'->DataW.Trod enc SA W' 0 (λb=>decide (b<W.heap.size)) true 22 (.slice a0 len cap) d0 p:=
  λW' hn=>Below.trod Tz.laidOut Tz.r22 Tz.N1 h0k hn hlt
 have close:∀az:List Int,az.length<=2^50->ap (C7 W) (aM az) (.slice a0 len cap)->
   ∃M last o w' t',runNT UD.prog (M+1) (solo (G (Frame.enter UD.prog f #[.slice a0 len cap] .normal) []) W) #[]=(.ended o w',t')/\
    runN UD.prog M (solo (G (Frame.enter UD.prog f #[.slice a0 len cap] .normal) []) W)=.next last/\step UD.prog last=.ended o w'/\
    W7 UD.prog (λv W'=>s.post enc UD.prog fn false true false false W #[.slice a0 len cap] v W') last o w' t':=by
  intro az hn hd;obtain⟨M,last,o,w',t',h1,h2,h3,h4⟩:=akX (Q:=λv=>v=.bool true) (args:=#[.slice a0 len cap]) (mi:=[aM az]) hi ⟨rfl,λi a e=>by
   match i,e with
   |0,e=>cases e;exact hd⟩ ((al8 az hn).mono (λa H' e E v bx=>by subst e;cases bx;rfl) λ_ _ h=>h)
  refine⟨M,last,o,w',t',h1,h2,h3,h4.mono λv ⟨hQ,hL⟩=> ?_⟩;subst hQ;have hb:=hL.below;refine⟨[d0],[],_,[],p,[],wM,?_,?_,by rw[hv];exact(by rw[show ([d0]++[]:List (ap' H))=[d0]from rfl,hs];rfl),hb.frame _,λh=>by cases h⟩
  ·rw[show ([d0]++[]:List (ap' H))=[d0]from rfl,hs,hr];exact trodAll_mk1 (shut_bool Tz.u4 true)
  ·rw[show ([d0]++[]:List (ap' H))=[d0]from rfl,hs,hp];exact trodAll_mk1 (cN _ hb)
 rcases open_ints Tz.Jb Tz.u3 Tz.c3 hfu with⟨pF,hx⟩|⟨a,avA,cap',zs,pF,_,hl,hm,hz,hx,L1,hwz⟩
 ·simp[ae']at pF;obtain⟨rfl,rfl,rfl⟩:=pF;exact close [] (by simp) (.nil trivial)
 ·simp[ae']at pF;obtain⟨rfl,rfl,rfl⟩:=pF;simp only[Vb]at hx;obtain⟨rfl,rfl⟩:=hx;simp only[if_true]at hz;have abq:a.spot=none:=by
   have:=aq;simp only[YD,Tz.Jb,Cell.okWide,Cell.ok]at this;exact this.2.2.2.1
  have avt:len* 8<=140737488355328:=by
   have:=sized_slice aY (j:=0) (t:=22) (e:=3) rfl rfl Tz.Jb;rw[Tz.b3]at this;simp only[lits,Ta,TC,Ur,reachBytes]at this;omega
  obtain⟨bl,off,spot⟩:=a;simp only at abq;subst abq;have oZ:(zs.take len).length=len:=by rw[TC];omega
  refine close (zs.take len) (by rw[oZ];omega) (ah8 oZ hl λi hi=> ?_);have:=L1 i (by omega);rw[show (av8 ⟨bl,off,none⟩ i)=⟨bl,off+i,none⟩ by simp[av8]]at this;rw[this,SE,SE,List.getElem?_take_of_lt hi]
def abJ:List (List Nat):=[99,117,116]::[97,116]::[[70,105,114,115,116],[87,105,100,101,114],[71,105,118,101,110],[65,112,97,114,116],[70,111,114,103,101,100],[82,101,97,100],[71,114,101,97,116,101,114],[77,105,120,101,100],[84,114,117,101],[83,116,101,112,115],[79,114,100,101,114],[65,108,108]].map ([103,108,97,100,115,116,111,110,101,47,103,108,97,100,115,116,111,110,101,108,97,119,48,49,46,84,105,99,107,101,116]++·)
def abI:List Nat:=[104,97,114,110,101,115,115,32,52,53,102,100,53,51,53,49,102,55,99,100,57,55,51,53,100,100,102,52,98,97,54,100,48,51,53,50,49,55,53,54,101,100,101,54,101,54,99,53,99,99,52,49,57,100,50,53,55,100,49,55,57,50,99,52,48,101,97,100,49,102,57,101]++abJ.flatMap (32::·)
set_option maxRecDepth 100000 in
theorem ioL:SA.initOrder.toList=abI.map Zq:=by
 have h:SA.initOrder=String.ofList (abI.map Zq):=by kernel_rfl
 rw[h,String.toList_ofList]
def NN:List (List Char):=abJ.map λl=>l.map Zq
set_option maxRecDepth 100000 in
theorem ioW:behindMainWord (wordsSigns SA.initOrder.toList)=NN:=by
 rw[ioL]
 kernel_rfl
section
variable {P:SI}{c:List Char}{rest:List (List Char)}
theorem aoS (h : behindMainWord (wordsSigns P.initOrder.toList) = c :: rest) (hc : c = "cut".toList) (h1 : stripLifts liftWords (c :: rest) = ([], c :: rest)) (h2 : P.laysLater = false) (h3 : P.bearsReflect = false) (h4 : P.doorFits [] = true) : P.mayEnter = true := by
 unfold av9;rw[h];subst hc;simp only[h1,h2,h3,h4,Z1,beq_self_eq_true,ZM,YM,ZH,Bool.or_true,ah',UP]
theorem alR (h : behindMainWord (wordsSigns P.initOrder.toList) = c :: rest) (hc : c = "cut".toList) (h1 : stripLifts liftWords (c :: rest) = ([], c :: rest)) : P.headLifts = [] := by
 unfold awa;rw[h];simp only[h1,ite_self]
theorem aok (h : behindMainWord (wordsSigns P.initOrder.toList) = c :: rest) (hc : c = "cut".toList) (h1 : stripLifts liftWords (c :: rest) = ([], c :: rest)) : P.liftsFinal = false := by
 unfold av';rw [alR h hc h1, h];subst hc;simp only [Z1, ZM, Bool.or_false];have : (some "cut".toList == some "carried".toList) = false := by decide +kernel
 rw[this,Vt]
theorem aoM (h : behindMainWord (wordsSigns P.initOrder.toList) = c :: rest) (hc : c = "cut".toList) : P.make = some .cut := by
 unfold av_;rw [h];subst hc;have e1 : ("cut".toList == "gc".toList) = false := by decide +kernel
 have e2 : ("cut".toList == "spec".toList) = false := by decide +kernel
 simp only[e1,e2,Bool.or_self,TV,if_false,beq_self_eq_true,am',if_true]
end
def H5:List Char:=NN.headD []
def NL:List (List Char):=NN.tail
theorem NM:behindMainWord (wordsSigns SA.initOrder.toList)=H5::NL:=ioW.trans (by kernel_rfl)
theorem NK : H5 = "cut".toList := by kernel_rfl
theorem ioS:stripLifts liftWords (H5::NL)=([],H5::NL):=by kernel_rfl
theorem Tz.mayEnter:SA.mayEnter=true:=aoS NM NK ioS (by kernel_rfl) (by kernel_rfl) (by kernel_rfl)
theorem Tz.aoj:SA.liftsFinal=false:=aok NM NK ioS
theorem Tz.make:SA.make=some .cut:=aoM NM NK
theorem anz{P:SI}{f:TY}{fn:YL}{s:Z_}{c:Yq}
  (k0:(c.wf (VI s))=true)
  (k1:(laidOutB P)=true)
  (k2:(mapsRowed P)=true)
  (k3:(fn.params.all (P.readableRec ·))=true)
  (k4:(namedTie P c.named s.vars)=true)
  (k5:((c.stops==[]))=true)
  (k6:((P.stops==[]))=true)
  (k7:((c.knobs==[]))=true)
  (k8:((P.stopKnobs==[]))=true)
  (k9:((c.inPlace==P.inPlace f))=true)
  (EA:((c.unfollowed==P.unfollowed f))=true)
  (NP:((c.recurses==P.recurses f))=true)
  (BB:((c.named==P.varsNamed f))=true)
  (NQ:((c.maps==(fn.params.toList++s.plain.varTypes P).any (P.mapsRec ·)))=true)
  (EB:((c.ifaces==(fn.params.toList++s.plain.varTypes P).any (P.ifacesRec ·)))=true)
  (NR:((c.mapsOut==P.mapsAmong fn.resultTypes.toList))=true)
  (NS:((c.loops==(fn.params.toList++s.plain.varTypes P).any (P.loopsFrom ·)))=true)
  (NT:((c.wideKeys==(fn.params.toList++s.plain.varTypes P++fn.resultTypes.toList).any (P.wideKeysFrom ·)))=true)
  (k18:(s.vars.all (P.varReadable ·))=true)
  (k19:(fn.resultTypes.all (λt=>P.readableRec t&&decide (t<P.types.size)))=true)
  (NU:((c.ifacesOut==fn.resultTypes.toList.any (P.ifacesRec ·)))=true)
  (NV:((c.loopsOut==fn.resultTypes.toList.any (P.loopsFrom ·)))=true)
  (NW:((c.plainKeys==P.plainKeys))=true)
  (NX:(c.shortTexts.isNone)=true)
  (NY:(P.stopsHeard)=true)
  (NZ:(P.mayEnter)=true)
  (k26:((c.lifted==P.liftsFinal))=true)
  (k27:((P.make==some c.make))=true)
  (k28:c.domain.isEmpty=true) (anC:c.kinds=[])
  (k29:((c.pinned==c.pinnedBy))=true)
  (k30:((c.veiled==(fn.params.toList++s.plain.varTypes P++fn.resultTypes.toList).any (P.veiledRec ·)))=true)
  (k31:(c.veiledFits P fn.params.toList (fn.params.toList++s.plain.varTypes P++fn.resultTypes.toList))=true):joinedFacts P f fn s c=true:=by
 simp only[joinedFacts,k0,k1,k2,k3,k4,k5,k6,k7,k8,k9,EA,NP,BB,NQ,EB,NR,NS,NT,k18,k19,NU,NV,NW,NX,NY,NZ,k26,k27,k28,anC,if_true,beq_self_eq_true,k29,k30,k31,ah']
theorem aoi{c:Yq}(h:c.lifted=false):(c.lifted==SA.liftsFinal)=true:=by rw[Tz.aoj,h];rfl
theorem aoN{c:Yq}(h:c.make=.cut):(SA.make==some c.make)=true:=by rw[Tz.make,h];rfl
end Go.Gg
namespace Go.Proofs.YtkanpclgnhdbiaaGreatDoor
open Go.Conc Go.Proofs Go.Gg
theorem atx(Lk:Looks){p:Pinned}{s:OpenSpec}{c:Yq}(al:List (List PathCond))(kinds:List LaidKind)(I7:Bool)(tK:Bool×String)(lk:Bool)
  (hc:c.holds p s) (gK:∀D∈al,(c.withDomain D).holds p s) (hw:c.wfByText s=true) (ang:∀D∈al,(c.withDomain D).wfByText s=true)
  (ana:c.laidByTextAt Lk p kinds I7)
  (aP:c.start=.entering) (qO:c.noBlocks=false/\c.again=false) (hm:p.checked.prog.mainIs=some (tK.1,tK.2.toList)) (hn:(!tK.1&&tK.2.isEmpty&& !lk)=false)
  (hl:∀f fn,p.checked.prog.funcNamed c.func=some f->p.checked.prog.funcs[f]?=some fn->lk=p.checked.prog.looks []/\∀(j:Nat) t,fn.params[j]?=some t->p.checked.prog.wantsStandIn t=false)
  (hg:true=c.goesBy p.checked.prog):
  Claim7.holds p (.plain s) {stood:={row:=c,standIns:=[],harness:=tK,looks:=lk},kinds:=[],alts:=al,goes:=true,laidByText:=true,laidKinds:=kinds,laidTests:=I7,laidLooks:=Lk}:=by
 have h6:∀r:Yq,ZG {stood:={row:=r,standIns:=[],harness:=tK,looks:=lk},kinds:=[]}=false:=λr=>by simpa[ZG]using hn
 refine⟨Y6 Lk kinds I7 (YT hc tK lk aP qO hm (h6 c) hl) hw,λD hD=> ?_,ana,(λh=>by cases h),hg⟩;exact Y6 Lk kinds I7 (YT (gK D hD) tK lk aP qO hm (h6 _) hl) (ang D hD)
theorem abX:SA.funcNamed Rows.ticketApartRow.func=some 6:=by kernel_rfl
theorem anT:joinedFacts SA 6 Wx Rows.ticketApartSpec Rows.ticketApartRow=true:=
 anz (by kernel_rfl) Tz.laidOut (by kernel_rfl) (by kernel_rfl) (by kernel_rfl) (by kernel_rfl) (by kernel_rfl) (by kernel_rfl) (by kernel_rfl) (by kernel_rfl) (by kernel_rfl) (by kernel_rfl) (by kernel_rfl) (by kernel_rfl) (by kernel_rfl) (by kernel_rfl) (by kernel_rfl) (by kernel_rfl) (by kernel_rfl) (by kernel_rfl) (by kernel_rfl) (by kernel_rfl) (by kernel_rfl) (by kernel_rfl) (by kernel_rfl) Tz.mayEnter (aoi (by kernel_rfl)) (aoN (by kernel_rfl)) (by kernel_rfl) (by kernel_rfl) (by kernel_rfl) (by kernel_rfl) (by kernel_rfl)
theorem anS:Wx.isInstance SA Rows.ticketApartRow.origin Rows.ticketApartRow.targs:=of_decide_eq_true (by kernel_rfl)
theorem anU:Wx.isWrapper SA Rows.ticketApartRow.wrapper Rows.ticketApartRow.mainSum:=by unfold Func.isWrapper;first|(rw[if_pos (by decide+kernel)];kernel_rfl)|(rw[if_neg (by decide+kernel)];exact⟨rfl,rfl⟩)
theorem anR(os:Os)(args:Array SP):laidMetH SA Rows.ticketApartRow.laid ((ZN SA 400 os).forCall (λ_ _=>0) ⟨#[],args,[]⟩).memory:=
 laidMetH_of_parts (laidMet_nil _ _) (by kernel_rfl)
theorem anV(os:Os)(started:os.Started)(H:Type)(enc:TypeId×SP->H):
  XE {} UD os 6 .any (λw args=>(Rows.ticketApartSpec.pre enc SA Wx [] false w args/\laidMetH SA Rows.ticketApartRow.laid w)/\sizedMet enc SA Wx (VI Rows.ticketApartSpec) false w args) (Rows.ticketApartSpec.post enc SA Wx false true false false):=
 anl (f:=6) (fn:=Wx) (s:=Rows.ticketApartSpec) (X:=λw _=>laidMetH SA Rows.ticketApartRow.laid w) Zm rfl rfl rfl (λ_ _=>rfl) (by kernel_rfl) (λaz hn=>ajT rfl hn rfl) os started H enc
  (atI (enc:=enc) (C:=UD) (os:=os) (X:=λw _=>laidMetH SA Rows.ticketApartRow.laid w) false (ZN SA 400 os) #[.slice none 0 0] 8 rfl (World.shaped_of_RefB (by kernel_rfl) (by kernel_rfl)) (by kernel_rfl) (by kernel_rfl) (by kernel_rfl) (anR os _))
theorem atw:Rows.TicketApartSaid:=
 avQ 6 Wx rfl rfl rfl rfl rfl rfl rfl ⟨rfl,rfl,rfl,rfl,rfl⟩ rfl rfl rfl rfl rfl abX Zm anT anS anU
  (λos started H enc _=>anV os started H enc)
theorem ticketApartCard_holds:Rows.TicketApartCardSaid:=
 atx .later [] [.handle] true (true, "45fd5351f7cd9735ddf4ba6d03521756ede6e6c5cc419d257d1792c40ead1f9e") true
  atw (λ_ h=>by cases h) (by kernel_rfl) (λ_ h=>by cases h) ticketApart_row_tie rfl ⟨rfl,rfl⟩ (by kernel_rfl) rfl
  (λf fn hf yP=>by
   obtain rfl:f=6:=Wb (abX.symm.trans hf)|>.symm;obtain rfl:fn=Wx:=(Wb (Zm.symm.trans yP)).symm;exact⟨by kernel_rfl,λj t ht=>by
    rw[show Wx.params=#[22]from rfl]at ht;have h3:t=22:=by
     rcases j with _|j
     ·simpa using ht.symm
     ·simp at ht
    subst h3;exact(show SA.wantsStandIn 22=false by kernel_rfl)⟩)
  (by kernel_rfl)
end Go.Proofs.YtkanpclgnhdbiaaGreatDoor
