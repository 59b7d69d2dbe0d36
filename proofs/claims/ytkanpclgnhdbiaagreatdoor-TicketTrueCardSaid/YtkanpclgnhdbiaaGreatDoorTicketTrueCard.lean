/- For every list of numbers, TicketTrue returns true and does not panic, in any order in which its goroutines run; errors.errorType starts as the text of the program lays it. -/
import Derived.Test.YtkanpclgnhdbiaaGreatDoorTicketTrueCard4
import Derived.Conc.LeavingOf
import Derived.Conc.Holds
import Derived.ProofKit
import Derived.Test.YtkanpclgnhdbiaaGreatDoorChecked
import Derived.Test.YtkanpclgnhdbiaaGreatDoorRows
import Derived.LaidMore
import Derived.SevenTiedAt
import Derived.Test.YtkanpclgnhdbiaaGreatDoorTie
import Derived.Test.YtkanpclgnhdbiaaGreatDoorCards
set_option linter.all false
set_option maxRecDepth 4000
set_option maxHeartbeats 4000000
open Bool renaming and_self->ad',false_and->YE,false_eq_true->TN,false_or->ZB,not_false->YD,true_and->Vb,true_or->ai'
open Char renaming ofNat->Zi
open Go renaming ChangeSpec->Z2,DataW->am',Func->YC,FuncId->TO,OpenClaim->Yh,Program->SJ,ReturnsInLeavingWide->Xt,Value->SP,World->Tq
open Go.Addr renaming add->atT
open Go.ChangeSpec renaming post_blind->ap_,witness_shaped->apT
open Go.Claim7 renaming isSixth->ZA,new_of_sixth->YP,tied_new_at->Y2
open Go.Conc renaming Good->WZ
open Go.DataW renaming weightsEach->Zg
open Go.DataW.Whole renaming of_heap->am_
open Go.Input renaming okWide->ZY
open Go.IntKind renaming i64->SF
open Go.OpenClaim renaming holds_of_wide_leaving->aq'
open Go.OpenSpec renaming ofChange->VC
open Go.PathCond renaming test->atK
open Go.Program renaming headLifts->atX,liftsFinal->atW,make->atV,mayEnter->atU
open Go.Proofs.Tryz renaming checked->Uy,f11->VZ,func11->YX,prog->SC
open Go.Value renaming cells->aa_,okWide->Yv
open Go.World renaming doorLaid->ZG
open Int renaming le_refl->Zw,toNat->Yu
open List renaming append_assoc->SD,append_nil->S0,contains_nil->Zn,drop->UD,getD_eq_getElem?_getD->SE,getElem?_map->To,head?_cons->X4,length_drop->Ul,length_map->Tp,length_nil->UQ,length_take->Ub,mem_append->SS,mem_of_getElem?->Tf,mem_singleton->S9,take->Uq
open Nat renaming reduceAdd->SW
open Option renaming map_eq_some_iff->Ts
open Option.some renaming inj->VX
open Prod.mk renaming injEq->U0
namespace Go.Gg
open Go.Conc Go.Proofs Go.Gg.Tk
section
variable {H:List aa}{k kp:AV->List aa->Prop}
theorem ahD{ay:List Int}(hm:H[0]?=some .main)(hn:ay.length<=2^50)(hk:k (bv true) H):bf true SC 11 H [ba ay] k kp:=by
 have p9:∀L:List aa,(H++L)[0]?=some .main:=λL=>fI hm;refine bH (rs:=[.tmp 2]) (nt:=179) VZ λhH hA=> ?_;simp only[br,SW];refine aj ?_;refine aj ?_;refine aK ((ahM ?_));(try simp only[seval]);refine aK ((ahI (pm:=4) (b:=0) (arq H) ⟨Zw _,Zw _,hn⟩ (by decide) (by decide) λx aO ay bC τ hM _=> ?_));have hx:=hM.ok (by decide);have aE:=hM.ne (by decide);have eB:=hM.mem (by decide);have ru:=hx.c9;have aQ:=hx.eK;have Fq:=hx.hours;have hhl:=hM.zB.len;have zE:=hM.zB.mono;have iZ:=hM.uR;have FE:=hM.uS;have how:=hM.own;have bS:x.l=[iv x.first,iv x.hours,iv x.am,dY x.seen,bp x.pieces,bp x.aB]:=rfl;clear hM;rw[show ba ay=.sl x.pieces.length (ay.map iv) .shut by rw[ba,iZ],show ba bC=.sl x.aB.length (bC.map iv) .shut by rw[ba,FE]];have bm:x.l.length=6:=rfl;have dZ:Uq 6 x.l=x.l:=rfl;obtain⟨B,hB⟩:∃B,B=H++[yo τ]:=⟨_,rfl⟩;rw[<- hB];have v5:∀L:List aa,(B++L)[0]?=some .main:=λL=>by rw[hB,SD];exact p9 _
 have b0:∀(L:List aa),(B++L)[B.length]?=L[0]?:=λL=>aX B L 0;have s0:∀(L:List aa)(y:aa),(B++L).set B.length y=B++L.set 0 y:=λL y=>ec B L 0 y;have b1:∀(L:List aa),(B++L)[B.length+1]?=L[1]?:=λL=>aX B L 1;have s1:∀(L:List aa)(y:aa),(B++L).set (B.length+1) y=B++L.set 1 y:=λL y=>ec B L 1 y;(try simp only[seval,ai.av,b0,s0,bm]);refine⟨kP x,?_⟩;have dg:UD 1 x.l=[iv x.hours,iv x.am,dY x.seen,bp x.pieces,bp x.aB]:=rfl;obtain⟨u,l,xQ⟩:∃u l,bA x=u::l:=by
  cases h:bA x with
  |nil=>exact absurd h aE
  |cons u l=>exact⟨u,l,rfl⟩
 have hE:(bA x).isEmpty=false:=by rw[xQ];rfl
 have Sr:=aiF xQ eB;have atq:=Fw (((adl (x:=x) (u:=u)).1 (by rw[xQ];simp)).1);have sQ:=aiW hx aE;refine ak ?_;simp only[seval,b0,bm,dZ];refine aK ((PP hx (λl hl=> ?_) (λhl=>by rw[sQ]at hl;cases hl)));obtain rfl:l=[]:=by rw[sQ]at hl;cases hl;rfl
 (try simp only[seval]);refine ak ?_;simp only[seval,b0,bm,dZ];refine aK ((PL hx (v5 _) (λh=>absurd h aE) (λu' l' h=> ?_)));obtain⟨rfl, -⟩:u'=u/\True:=by rw[xQ]at h;cases h;exact⟨rfl,trivial⟩
 (try simp only[seval]);refine ak ?_;simp only[seval,show ((0:Int)!=0)=false from rfl,ba,UQ,show decide ((0:Int)>0)=false from rfl,decide_false];refine aK ((ahZ (xs:=aO) (ys:=u'.aO) (by omega) (by omega) ?_));rw[show lW aO u'.aO=false from Sr];(try simp only[seval]);refine aD ?_;refine aN ?_;refine aj ?_;have akH:bP (B++[.cells x.l 26]):=by
  rw[hB,SD];refine KJ hH λz hz m=> ?_;rcases SS.1 hz with hz|hz
  ·rw[S9.1 hz];exact ars m τ
  ·rw[S9.1 hz];exact Ma m x
 obtain⟨hn,Rr⟩:∃hn:Nat,x.hours=hn:=⟨x.hours.toNat,by omega⟩;have RI:aO∈live x:=zZ.2 ⟨_,eB,rfl⟩;refine cy ?_;refine pE (hn+1) (λh:Nat=>[(13,iv h)]) (λ_=>B++[.cells x.l 26]) (λ_=>True) trivial (λbU cS h atb _ R hR=> ?_);clear bU cS;refine ak ?_;simp only[seval,b0,dg];refine aD ?_;refine⟨λhc=> ?_,λhc=> ?_⟩
 ·have bB:h<hn+1:=by omega
  have bN:SF.wrap ((h:Int)+1)=((h+1:Nat):Int):=by rw[bG _ (by omega)];rfl
  refine aN ?_;refine ak ?_;simp only[seval,b0,bm,dZ];refine aK ((PR (x:=x) (hour:=h) hx (by omega) (v5 _) (λh=>absurd h aE) (λa a' _ hb=> ?_)));obtain⟨w,hw⟩:=bX (xs:=aO) (i:=h) (by omega);have zv:aO.getD h 0=w:=by rw[SE,hw];rfl
  have h1:=hb.le aO RI;have h2:=hb.ge aO RI;rw[zv]at h1 h2;have d1:decide (w<a)=false:=by simp;omega
  have d2:decide (w>a')=false:=by simp;omega
  have q_:0<=(h:Int)/\(h:Int)<aO.length:=⟨by omega,by omega⟩;(try simp only[seval,b1,s1]);refine dT 20 ?_;simp only[seval,show ((0:Int)!=0)=false from rfl,b1,ba,eJ hw,q_,d1,d2];refine aD ?_;refine aN ?_;refine ak ?_;simp only[seval,bN];refine hR _ ⟨bB,trivial,G0 _ (pf rfl rfl) (by simp only[seval];simp[bz,Wk.refl]) akH (by simp[eI]) (by rw[SD];exact rfl)⟩
 ·refine bZ ?_;refine aj ?_;refine cy ?_;refine pE x.pieces.length (λp:Nat=>[(16,iv p)]) (λ_=>B++[.cells x.l 26]) (λ_=>True) trivial (λbU cS p KQ _ R hR=> ?_);clear bU cS;refine aj ?_;refine aD ?_;refine⟨λhc=> ?_,λhc=> ?_⟩
  ·have cO:p<x.pieces.length:=(by omega);have bN:SF.wrap ((p:Int)+1)=((p+1:Nat):Int):=(by rw[bG _ (by omega)];rfl);obtain⟨v,hv⟩:=bX (xs:=ay) (i:=p) (by omega);have vW:ay.getD p 0=v:=(by rw[SE,hv];rfl);have m1:=anq hx eB cO;have m2:=akK hx eB cO;have e1:(Dc aO ay bC).ay.getD p 0=v:=vW;have e2:uu (Dc aO ay bC) p=kQ aO v (aO.length-1):=by
    rw[adc (by omega) (by omega) zE];show gw aO (ay.getD p 0)=_;rw[vW]
   rw[e1]at m1;rw[e2]at m2;have q_:0<=(p:Int)/\(p:Int)<x.pieces.length:=⟨by omega,by omega⟩;refine aN ?_;refine ak ?_;simp only[seval,b0,bm,dZ];refine aK ((PQ (x:=x) (q:=p) hx cO (v5 _) (λh=>absurd h aE) (λ_=> ?_)));have cN:(ky (Tk.wl x p) x.first 16).length<=16:=OI _ _ _;generalize ky (Tk.wl x p) x.first 16=L1 at m1 cN⊢;(try simp only[seval]);refine ak ?_;simp only[seval,b0,bm,dZ];refine aK ((ah1 (x:=x) (q:=p) hx cO (v5 _) (λh=>absurd h aE) (λ_=> ?_)));have me:(ky (v8 x p) 0 16).length<=16:=OI _ _ _;generalize ky (v8 x p) 0 16=L2 at m2 me⊢;(try simp only[seval]);refine ak ?_;simp only[seval,show ((0:Int)!=0)=false from rfl,ba,eJ hv,q_];refine aK ((PM (by omega) λw hq1 _ _=> ?_));have d1:decide (w<0)=false:=(by have:=hq1.2 m1;simp;omega);(try simp only[seval,d1,eJ hv,q_]);refine aK ((PT (by omega) ?_));generalize kQ aO v (aO.length-1)=tv at m2⊢;(try simp only[seval]);refine aK ((PM (by omega) λw2 g_ _ _=> ?_));have d2:decide (w2<0)=false:=(by have:=g_.2 m2;simp;omega);(try simp only[seval,d2]);refine aD ?_;refine aN ?_;refine ak ?_;simp only[seval,bN];refine hR _ ⟨cO,trivial,dq⟩
  ·refine bZ ?_;refine aj ?_;refine cy ?_;refine pE x.aB.length (λs:Nat=>[(21,iv s)]) (λ_=>B++[.cells x.l 26]) (λ_=>True) trivial (λbU cS s Sr _ R hR=> ?_);clear bU cS;refine aj ?_;refine aD ?_;refine⟨λhc=> ?_,λhc=> ?_⟩
   ·have dx:s<x.aB.length:=(by omega);have bN:SF.wrap ((s:Int)+1)=((s+1:Nat):Int):=(by rw[bG _ (by omega)];rfl);obtain⟨v,hv⟩:=bX (xs:=bC) (i:=s) (by omega);have hvr:=how v (Tf hv);obtain⟨q,rfl⟩:∃q:Nat,v=q:=⟨v.toNat,by omega⟩;have kF:q<x.pieces.length:=(by omega);obtain⟨y,hy⟩:=bX dx;have e1:(Dc aO ay bC).bC.getD s 0=q:=by
     show (bC.map Yu).getD s 0=q;rw[SE,To,hv];rfl
    have p1:=anZ eB (s:=s);have p2:=aeM hx eB hy;rw[e1]at p1 p2;have q_:0<=(s:Int)/\(s:Int)<x.aB.length:=⟨by omega,by omega⟩;have p3:=anY p1 (wq x s q);refine aN ?_;refine cy ?_;refine dT 12 ?_;simp only[seval,b0,bm,dZ,eJ hv,q_];refine ii (.aJ [iv (vM (nP x s q) (wq x s q)),iv 0]) (cI (PN (x:=x) (s:=s) (q:=q) hx dx kF (v5 _) ⟨by rw[hE];rfl,rfl⟩)) ?_;generalize vM (nP x s q) (wq x s q)=w at p3⊢;(try simp only[seval]);refine dT 12 ?_;simp only[seval,b0,bm,dZ,eJ hv,q_];refine ii (.aJ [iv 0,iv 0]) (cI (PO (x:=x) (s:=s) (q:=q) (y:=y) hx hy kF λo ho=>⟨by rw[ho,p2];rfl,rfl⟩)) ?_;(try simp only[seval]);have d1:(w==2)=false:=(by simpa using p3);refine ak ?_;simp only[seval,show ((0:Int)!=0)=false from rfl,d1];refine aD ?_;refine aN ?_;refine ak ?_;simp only[seval,bN];refine hR _ ⟨dx,trivial,dq⟩
   ·refine bZ ?_;refine aj ?_;refine aK ((ahO (v5 _) ?_));(try simp only[seval]);refine aZ ?_;rw[hB,SD];exact jr hH (Wk.refl _) (.val _) hk
end
open Go.ChangeShapes Go.WideShapes Go.ChangeAt Go.RowKit
def Dy (W:Tq):View:=⟨λb o=>W.cell? ⟨b,o,none⟩,λ_=>none,0,.plain⟩
def Bz (W:Tq):Env:=⟨(Dy W).ab,1,λ_=>0,λ_ _=>(none,0),λ_=>0,λ_=>none,true⟩
theorem apQ(W:Tq):Sat (Dy W) W:=⟨λ_ _ _ h=>h,λ_ _ h=>by cases h⟩
theorem ago(W:Tq):Conc (Bz W) (Dy W) [.main]where
 I:=rfl
 n:=rfl
 obj:=λk x h=>by
  match k,h with
  |0,h=>cases h;exact rfl
  |k+1,h=>cases h
 inj:=λi j x y b hi hj h1 h2=>by
  match i,hi with
  |0,hi=>cases hi;cases h1
  |i+1,hi=>cases hi
 group:=λg h=>by cases h
 chan:=λc h=>by cases h
 top:=λ_=>⟨rfl,rfl⟩
 fr:=λb y h=>by cases h
theorem ajg{f:TO}{W:Tq}{args:Array SP}{l7:List AV}{Q:SP->Prop}(hi:SC.inits.idxOf? f=none)(hd:cH (Bz W) l7 args)(h:bf true SC f [.main] l7 (λa _=>∀E v,ap E a v->Q v) (λ_ _=>False)):
  ∃M last o w' t',runNT SC (M+1) (solo (G (Frame.enter SC f args .normal) []) W) #[]=(.ended o w',t')/\runN SC M (solo (G (Frame.enter SC f args .normal) []) W)=.next last/\step SC last=.ended o w'/\WZ SC (λv w=>Q v/\Left W.heap.size W w) last o w' t':=
 ajf hi (V:=Dy W) rfl rfl rfl (apQ W) (h (Bz W) (Dy W) args (ago W) hd) λo V' r=>by
  cases o with
  |ret v=>
   obtain⟨av,E',H',_,ce,_,bk,_,hk⟩:=r;exact⟨ce,v,rfl,λw _ hl=>⟨hk _ _ bk,hl⟩⟩
  |panic ch=>
   obtain⟨pv,v,E',H',_,_,_,_,_,_,hf⟩:=r;exact hf.elim
theorem agA{W:Tq}{b o len cap:Nat}{zs:List Int}(hl:zs.length=len)(hc:len<=cap)(h:∀i,i<len->W.cell? ⟨b,o+i,none⟩=some (.int .i64 (zs.getD i 0))):ap (Bz W) (ba zs) (.slice (some ⟨b,o,none⟩) len cap):=by
 subst hl;refine .sl b o cap (λi=> .int .i64 (zs.getD i 0)) hc trivial (λi hi=> ?_) (λi x hx=> ?_)
 ·exact h i (by simpa using hi)
 ·rw[To]at hx;obtain⟨z,hz,rfl⟩:=Ts.1 hx;rw[SE,hz];exact .val _
theorem Left.below{W w:Tq}(h:Left W.heap.size W w):Below W.heap.size W w:=⟨h.os,h.tape,h.out,h.size,h.old⟩
theorem Tz.own:ownKnob SC.godebug=none:=by kernel_rfl
theorem Tz.laidOut:laidOutB SC=true:=by kernel_rfl
theorem Tz.Hj:SC.underlying 22=some (.slice 3):=by kernel_rfl
theorem Tz.u3:SC.underlying 3=some (.int .i64):=by kernel_rfl
theorem Tz.u4:SC.underlying 4=some .bool:=by kernel_rfl
theorem Tz.c3:SC.cellsOf 3=1:=by kernel_rfl
theorem Tz.b3:SC.bytesOf 3=8:=by kernel_rfl
theorem Tz.r22:SC.readableRec 22=true:=by kernel_rfl
theorem Tz.LR:22<SC.types.size:=of_decide_eq_true (by kernel_rfl)
theorem apq{H:Type}{enc:TypeId×SP->H}{a:Assume}{C:Checked}{os:Os}{f:TO}{fn:YC}{s:Z2}{conds:List PathCond}{apart fresh handsOn again:Bool}{X:Tq->Array SP->Prop}
  (own:ownKnob C.prog.godebug=none) (started:os.Started) (sQ:C.prog.funcs[f]?=some fn)
  (witness:∃(w:Tq)(tape:Tape)(i:Input),w.os=os/\(w.forCall tape i).Shaped C.prog/\i.vars=[]/\ZY C.prog (w.forCall tape i) .any w.heap.size f i/\
   ((s.pre enc C.prog fn conds apart (w.forCall tape i).memory i.args/\X (w.forCall tape i).memory i.args)/\sizedMet enc C.prog fn (VC s) apart (w.forCall tape i).memory i.args)/\a.holds C.prog (lone (Frame.enter C.prog f i.args .normal) [] (w.forCall tape i)))
  (runs:∀(W:Tq)(base:Nat)(args:Array SP)(ds gs:List (am' H))(before:List MemPlace),
   (∀(j:Nat) t v,fn.params[j]?=some t->args[j]?=some v->Yv C.prog W .any base t v)->
   DataW.Whole enc C.prog fn.params.toList s.vars apart W args.toList ds gs before->
   conds.all (atK C.prog ⟨fn.params.toList,ds,s.plain.varTypes C.prog,gs⟩)=true->
   (Zg C.prog (fn.params.toList++s.plain.varTypes C.prog) (ds++gs)).all (·<=reachBytes)=true->
   a.holds C.prog (lone (Frame.enter C.prog f args .normal) [] W)->
   ∃M last o w' t',runNT C.prog (M+1) (solo (G (Frame.enter C.prog f args .normal) []) W) #[]=(.ended o w',t')/\runN C.prog M (solo (G (Frame.enter C.prog f args .normal) []) W)=.next last/\
    step C.prog last=.ended o w'/\WZ C.prog (λv W'=>s.post enc C.prog fn apart fresh handsOn again W args v W') last o w' t'):
  Xt a C os f .any (λw args=>(s.pre enc C.prog fn conds apart w args/\X w args)/\sizedMet enc C.prog fn (VC s) apart w args) (s.post enc C.prog fn apart fresh handsOn again):=by
 refine returnsInLeavingWide_of_good own started witness ?_;intro w tape i _ _ _ az KS akc;obtain⟨_,_,_,fB,aka,_,_,_,_,FZ⟩:=az;have e:fB=fn:=VX (aka.symm.trans sQ);subst e;obtain⟨⟨⟨ds,gs,before,hw,hc⟩,_⟩,hz⟩:=KS;have nJ:=am_ (w':=w.forCall tape i) (by rfl) hw;obtain⟨M,last,o,w',t',h1,h2,h3,h4⟩:=runs (w.forCall tape i) w.heap.size i.args ds gs before FZ nJ hc (hz.weights hw) akc;exact⟨M,last,o,w',t',h1,h2,h3,h4.mono λv hp=>ap_ hp⟩
def adK (f:TO):Prop:=∀ay:List Int,ay.length<=2^50->bf true SC f [.main] [ba ay] (λa _=>a=bv true) (λ_ _=>False)
set_option maxRecDepth 100000 in
theorem aly{f:TO}{fn:YC}{s:Z2}{X:Tq->Array SP->Prop}(hf:SC.funcs[f]?=some fn)(hp:fn.params=#[22]) (hr:fn.resultTypes=#[4]) (hv:s.vars=[]) (hs:∀(H:Type)(d:am' H),s.fn H [d]={results:=[.lit (.bool true)],args:=[d]}) (hi:SC.inits.idxOf? f=none) (akm:adK f)
  (os:Os) (started:os.Started) (H:Type) (enc:TypeId×SP->H)
  (alw:∃(w:Tq)(tape:Tape)(i:Input),w.os=os/\(w.forCall tape i).Shaped Uy.prog/\i.vars=[]/\ZY Uy.prog (w.forCall tape i) .any w.heap.size f i/\
   ((s.pre enc Uy.prog fn [] false (w.forCall tape i).memory i.args/\X (w.forCall tape i).memory i.args)/\sizedMet enc Uy.prog fn (VC s) false (w.forCall tape i).memory i.args)/\({}:Assume).holds Uy.prog (lone (Frame.enter Uy.prog f i.args .normal) [] (w.forCall tape i))):
  Xt {} Uy os f .any (λw args=>(s.pre enc SC fn [] false w args/\X w args)/\sizedMet enc SC fn (VC s) false w args) (s.post enc SC fn false true false false):=by
 refine apq (C:=Uy) Tz.own started hf alw ?_;intro W base args ds gs before aac hW _ K5 _;have aV:(Zg SC (fn.params.toList++s.plain.varTypes SC) (ds++gs)).all (·<=reachBytes)=true:=K5;clear K5;have FZ:∀(j:Nat) t v,fn.params[j]?=some t->args[j]?=some v->Yv SC W .any base t v:=aac;have vH:=hW;obtain⟨p,q,EM,hV,rfl,_,_⟩:=hW;have hA:DataW.TrodAll enc SC W 0 (λ_=>true) true fn.params.toList args.toList ds p:=EM;rw[hp]at hA FZ aV;obtain⟨v0,d0,rfl,rfl,h0⟩:=trodAll_one hA;rw[hv]at hV;obtain⟨rfl,rfl⟩:=trodVars_none hV;have az:=FZ 0 22 v0 rfl rfl;obtain⟨a0,len,cap,rfl⟩:=okWide_slice Tz.Hj az;have h0k:=h0;obtain⟨fuel,hfu⟩:=h0;clear EM aac;simp only[S0]at vH;have hlt:∀x∈p,x.block<W.heap.size:=λx hx=>by simpa using vH.lt x hx
 have cK:∀(W':Tq),Below W.heap.size W W'->DataW.Trod enc SC W' 0 (λb=>decide (b<W.heap.size)) true 22 (.slice a0 len cap) d0 p:=
  λW' hn=>Below.trod Tz.laidOut Tz.r22 Tz.LR h0k hn hlt
 have close:∀ay:List Int,ay.length<=2^50->ap (Bz W) (ba ay) (.slice a0 len cap)->
   ∃M last o w' t',runNT Uy.prog (M+1) (solo (G (Frame.enter Uy.prog f #[.slice a0 len cap] .normal) []) W) #[]=(.ended o w',t')/\
    runN Uy.prog M (solo (G (Frame.enter Uy.prog f #[.slice a0 len cap] .normal) []) W)=.next last/\step Uy.prog last=.ended o w'/\
    WZ Uy.prog (λv W'=>s.post enc Uy.prog fn false true false false W #[.slice a0 len cap] v W') last o w' t':=by
  intro ay hn hd;obtain⟨M,last,o,w',t',h1,h2,h3,h4⟩:=ajg (Q:=λv=>v=.bool true) (args:=#[.slice a0 len cap]) (l7:=[ba ay]) hi ⟨rfl,λi a e=>by
   match i,e with
   |0,e=>cases e;exact hd⟩ ((akm ay hn).mono (λa H' e E v bk=>by subst e;cases bk;rfl) λ_ _ h=>h)
  refine⟨M,last,o,w',t',h1,h2,h3,h4.mono λv ⟨hQ,hL⟩=> ?_⟩;subst hQ;have hb:=hL.below;refine⟨[d0],[],_,[],p,[],vH,?_,?_,by rw[hv];exact(by rw[show ([d0]++[]:List (am' H))=[d0]from rfl,hs];rfl),hb.frame _,λh=>by cases h⟩
  ·rw[show ([d0]++[]:List (am' H))=[d0]from rfl,hs,hr];exact trodAll_mk1 (shut_bool Tz.u4 true)
  ·rw[show ([d0]++[]:List (am' H))=[d0]from rfl,hs,hp];exact trodAll_mk1 (cK _ hb)
 rcases open_ints Tz.Hj Tz.u3 Tz.c3 hfu with⟨oR,hx⟩|⟨a,att,cap',zs,oR,_,hl,hm,hz,hx,JV,hwz⟩
 ·simp[aa_]at oR;obtain⟨rfl,rfl,rfl⟩:=oR;exact close [] (by simp) (.nil trivial)
 ·simp[aa_]at oR;obtain⟨rfl,rfl,rfl⟩:=oR;simp only[U0]at hx;obtain⟨rfl,rfl⟩:=hx;simp only[if_true]at hz;have St:a.spot=none:=by
   have:=az;simp only[Yv,Tz.Hj,Cell.okWide,Cell.ok]at this;exact this.2.2.2.1
  have atk:len* 8<=140737488355328:=by
   have:=sized_slice aV (j:=0) (t:=22) (e:=3) rfl rfl Tz.Hj;rw[Tz.b3]at this;simp only[lits,Tp,Ub,Ul,reachBytes]at this;omega
  obtain⟨bl,off,spot⟩:=a;simp only at St;subst St;have oy:(zs.take len).length=len:=by rw[Ub];omega
  refine close (zs.take len) (by rw[oy];omega) (agA oy hl λi hi=> ?_);have:=JV i (by omega);rw[show (atT ⟨bl,off,none⟩ i)=⟨bl,off+i,none⟩ by simp[atT]]at this;rw[this,SE,SE,List.getElem?_take_of_lt hi]
def aak:List (List Nat):=[99,117,116]::[97,116]::[[70,105,114,115,116],[87,105,100,101,114],[71,105,118,101,110],[65,112,97,114,116],[70,111,114,103,101,100],[82,101,97,100],[71,114,101,97,116,101,114],[77,105,120,101,100],[84,114,117,101],[83,116,101,112,115],[79,114,100,101,114],[65,108,108]].map ([103,108,97,100,115,116,111,110,101,47,103,108,97,100,115,116,111,110,101,108,97,119,48,49,46,84,105,99,107,101,116]++·)
def aaj:List Nat:=[104,97,114,110,101,115,115,32,52,53,102,100,53,51,53,49,102,55,99,100,57,55,51,53,100,100,102,52,98,97,54,100,48,51,53,50,49,55,53,54,101,100,101,54,101,54,99,53,99,99,52,49,57,100,50,53,55,100,49,55,57,50,99,52,48,101,97,100,49,102,57,101]++aak.flatMap (32::·)
set_option maxRecDepth 100000 in
theorem ioL:SC.initOrder.toList=aaj.map Zi:=by
 have h:SC.initOrder=String.ofList (aaj.map Zi):=by kernel_rfl
 rw[h,String.toList_ofList]
def LA:List (List Char):=aak.map λl=>l.map Zi
set_option maxRecDepth 100000 in
theorem ioW:behindMainWord (wordsSigns SC.initOrder.toList)=LA:=by
 rw[ioL]
 kernel_rfl
section
variable {P:SJ}{c:List Char}{rest:List (List Char)}
theorem am3 (h : behindMainWord (wordsSigns P.initOrder.toList) = c :: rest) (hc : c = "cut".toList) (h1 : stripLifts liftWords (c :: rest) = ([], c :: rest)) (h2 : P.laysLater = false) (h3 : P.bearsReflect = false) (h4 : P.doorFits [] = true) : P.mayEnter = true := by
 unfold atU;rw[h];subst hc;simp only[h1,h2,h3,h4,X4,beq_self_eq_true,Zn,YD,ZB,Bool.or_true,ad',Vb]
theorem aj7 (h : behindMainWord (wordsSigns P.initOrder.toList) = c :: rest) (hc : c = "cut".toList) (h1 : stripLifts liftWords (c :: rest) = ([], c :: rest)) : P.headLifts = [] := by
 unfold atX;rw[h];simp only[h1,ite_self]
theorem amy (h : behindMainWord (wordsSigns P.initOrder.toList) = c :: rest) (hc : c = "cut".toList) (h1 : stripLifts liftWords (c :: rest) = ([], c :: rest)) : P.liftsFinal = false := by
 unfold atW;rw [aj7 h hc h1, h];subst hc;simp only [X4, Zn, Bool.or_false];have : (some "cut".toList == some "carried".toList) = false := by decide +kernel
 rw[this,YE]
theorem amY (h : behindMainWord (wordsSigns P.initOrder.toList) = c :: rest) (hc : c = "cut".toList) : P.make = some .cut := by
 unfold atV;rw [h];subst hc;have e1 : ("cut".toList == "gc".toList) = false := by decide +kernel
 have e2 : ("cut".toList == "spec".toList) = false := by decide +kernel
 simp only[e1,e2,Bool.or_self,TN,if_false,beq_self_eq_true,ai',if_true]
end
def F_:List Char:=LA.headD []
def Ly:List (List Char):=LA.tail
theorem Lz:behindMainWord (wordsSigns SC.initOrder.toList)=F_::Ly:=ioW.trans (by kernel_rfl)
theorem Lx : F_ = "cut".toList := by kernel_rfl
theorem ioS:stripLifts liftWords (F_::Ly)=([],F_::Ly):=by kernel_rfl
theorem Tz.mayEnter:SC.mayEnter=true:=am3 Lz Lx ioS (by kernel_rfl) (by kernel_rfl) (by kernel_rfl)
theorem Tz.amx:SC.liftsFinal=false:=amy Lz Lx ioS
theorem Tz.make:SC.make=some .cut:=amY Lz Lx
theorem alL{P:SJ}{f:TO}{fn:YC}{s:Z2}{c:Yh}
  (k0:(c.wf (VC s))=true)
  (k1:(laidOutB P)=true)
  (k2:(mapsRowed P)=true)
  (k3:(fn.params.all (P.readableRec ·))=true)
  (k4:(namedTie P c.named s.vars)=true)
  (k5:((c.stops==[]))=true)
  (k6:((P.stops==[]))=true)
  (k7:((c.knobs==[]))=true)
  (k8:((P.stopKnobs==[]))=true)
  (k9:((c.inPlace==P.inPlace f))=true)
  (CR:((c.unfollowed==P.unfollowed f))=true)
  (LC:((c.recurses==P.recurses f))=true)
  (zX:((c.named==P.varsNamed f))=true)
  (LD:((c.maps==(fn.params.toList++s.plain.varTypes P).any (P.mapsRec ·)))=true)
  (CS:((c.ifaces==(fn.params.toList++s.plain.varTypes P).any (P.ifacesRec ·)))=true)
  (LF:((c.mapsOut==P.mapsAmong fn.resultTypes.toList))=true)
  (LH:((c.loops==(fn.params.toList++s.plain.varTypes P).any (P.loopsFrom ·)))=true)
  (LI:((c.wideKeys==(fn.params.toList++s.plain.varTypes P++fn.resultTypes.toList).any (P.wideKeysFrom ·)))=true)
  (k18:(s.vars.all (P.varReadable ·))=true)
  (k19:(fn.resultTypes.all (λt=>P.readableRec t&&decide (t<P.types.size)))=true)
  (LJ:((c.ifacesOut==fn.resultTypes.toList.any (P.ifacesRec ·)))=true)
  (LK:((c.loopsOut==fn.resultTypes.toList.any (P.loopsFrom ·)))=true)
  (LM:((c.plainKeys==P.plainKeys))=true)
  (LN:(c.shortTexts.isNone)=true)
  (LO:(P.stopsHeard)=true)
  (LP:(P.mayEnter)=true)
  (k26:((c.lifted==P.liftsFinal))=true)
  (k27:((P.make==some c.make))=true)
  (k28:c.domain.isEmpty=true) (alO:c.kinds=[])
  (k29:((c.pinned==c.pinnedBy))=true)
  (k30:((c.veiled==(fn.params.toList++s.plain.varTypes P++fn.resultTypes.toList).any (P.veiledRec ·)))=true)
  (k31:(c.veiledFits P fn.params.toList (fn.params.toList++s.plain.varTypes P++fn.resultTypes.toList))=true):joinedFacts P f fn s c=true:=by
 simp only[joinedFacts,k0,k1,k2,k3,k4,k5,k6,k7,k8,k9,CR,LC,zX,LD,CS,LF,LH,LI,k18,k19,LJ,LK,LM,LN,LO,LP,k26,k27,k28,alO,if_true,beq_self_eq_true,k29,k30,k31,ad']
theorem amw{c:Yh}(h:c.lifted=false):(c.lifted==SC.liftsFinal)=true:=by rw[Tz.amx,h];rfl
theorem amZ{c:Yh}(h:c.make=.cut):(SC.make==some c.make)=true:=by rw[Tz.make,h];rfl
end Go.Gg
namespace Go.Proofs.YtkanpclgnhdbiaaGreatDoor
open Go.Conc Go.Proofs Go.Gg
theorem arp(Lk:Looks){p:Pinned}{s:OpenSpec}{c:Yh}(al:List (List PathCond))(kinds:List LaidKind)(He:Bool)(vJ:Bool×String)(lk:Bool)
  (hc:c.holds p s) (gD:∀D∈al,(c.withDomain D).holds p s) (hw:c.wfByText s=true) (alu:∀D∈al,(c.withDomain D).wfByText s=true)
  (alp:c.laidByTextAt Lk p kinds He)
  (aQ:c.start=.entering) (us:c.noBlocks=false/\c.again=false) (hm:p.checked.prog.mainIs=some (vJ.1,vJ.2.toList)) (hn:(!vJ.1&&vJ.2.isEmpty&& !lk)=false)
  (hl:∀f fn,p.checked.prog.funcNamed c.func=some f->p.checked.prog.funcs[f]?=some fn->lk=p.checked.prog.looks []/\∀(j:Nat) t,fn.params[j]?=some t->p.checked.prog.wantsStandIn t=false)
  (hg:true=c.goesBy p.checked.prog):
  Claim7.holds p (.plain s) {stood:={row:=c,standIns:=[],harness:=vJ,looks:=lk},kinds:=[],alts:=al,goes:=true,laidByText:=true,laidKinds:=kinds,laidTests:=He,laidLooks:=Lk}:=by
 have h6:∀r:Yh,ZA {stood:={row:=r,standIns:=[],harness:=vJ,looks:=lk},kinds:=[]}=false:=λr=>by simpa[ZA]using hn
 refine⟨Y2 Lk kinds He (YP hc vJ lk aQ us hm (h6 c) hl) hw,λD hD=> ?_,alp,(λh=>by cases h),hg⟩;exact Y2 Lk kinds He (YP (gD D hD) vJ lk aQ us hm (h6 _) hl) (alu D hD)
theorem aay:SC.funcNamed Rows.ticketTrueRow.func=some 11:=by kernel_rfl
theorem al6:joinedFacts SC 11 VZ Rows.ticketTrueSpec Rows.ticketTrueRow=true:=
 alL (by kernel_rfl) Tz.laidOut (by kernel_rfl) (by kernel_rfl) (by kernel_rfl) (by kernel_rfl) (by kernel_rfl) (by kernel_rfl) (by kernel_rfl) (by kernel_rfl) (by kernel_rfl) (by kernel_rfl) (by kernel_rfl) (by kernel_rfl) (by kernel_rfl) (by kernel_rfl) (by kernel_rfl) (by kernel_rfl) (by kernel_rfl) (by kernel_rfl) (by kernel_rfl) (by kernel_rfl) (by kernel_rfl) (by kernel_rfl) (by kernel_rfl) Tz.mayEnter (amw (by kernel_rfl)) (amZ (by kernel_rfl)) (by kernel_rfl) (by kernel_rfl) (by kernel_rfl) (by kernel_rfl) (by kernel_rfl)
theorem al5:VZ.isInstance SC Rows.ticketTrueRow.origin Rows.ticketTrueRow.targs:=of_decide_eq_true (by kernel_rfl)
theorem al7:VZ.isWrapper SC Rows.ticketTrueRow.wrapper Rows.ticketTrueRow.mainSum:=by unfold Func.isWrapper;first|(rw[if_pos (by decide+kernel)];kernel_rfl)|(rw[if_neg (by decide+kernel)];exact⟨rfl,rfl⟩)
theorem al4(os:Os)(args:Array SP):laidMetH SC Rows.ticketTrueRow.laid ((ZG SC 400 os).forCall (λ_ _=>0) ⟨#[],args,[]⟩).memory:=
 laidMetH_of_parts (laidMet_nil _ _) (by kernel_rfl)
theorem al8(os:Os)(started:os.Started)(H:Type)(enc:TypeId×SP->H):
  Xt {} Uy os 11 .any (λw args=>(Rows.ticketTrueSpec.pre enc SC VZ [] false w args/\laidMetH SC Rows.ticketTrueRow.laid w)/\sizedMet enc SC VZ (VC Rows.ticketTrueSpec) false w args) (Rows.ticketTrueSpec.post enc SC VZ false true false false):=
 aly (f:=11) (fn:=VZ) (s:=Rows.ticketTrueSpec) (X:=λw _=>laidMetH SC Rows.ticketTrueRow.laid w) YX rfl rfl rfl (λ_ _=>rfl) (by kernel_rfl) (λay hn=>ahD rfl hn rfl) os started H enc
  (apT (enc:=enc) (C:=Uy) (os:=os) (X:=λw _=>laidMetH SC Rows.ticketTrueRow.laid w) false (ZG SC 400 os) #[.slice none 0 0] 8 rfl (World.shaped_of_RefB (by kernel_rfl) (by kernel_rfl)) (by kernel_rfl) (by kernel_rfl) (by kernel_rfl) (al4 os _))
theorem aro:Rows.TicketTrueSaid:=
 aq' 11 VZ rfl rfl rfl rfl rfl rfl rfl ⟨rfl,rfl,rfl,rfl,rfl⟩ rfl rfl rfl rfl rfl aay YX al6 al5 al7
  (λos started H enc _=>al8 os started H enc)
theorem ticketTrueCard_holds:Rows.TicketTrueCardSaid:=
 arp .later [] [.handle] true (true, "45fd5351f7cd9735ddf4ba6d03521756ede6e6c5cc419d257d1792c40ead1f9e") true
  aro (λ_ h=>by cases h) (by kernel_rfl) (λ_ h=>by cases h) ticketTrue_row_tie rfl ⟨rfl,rfl⟩ (by kernel_rfl) rfl
  (λf fn hf sQ=>by
   obtain rfl:f=11:=VX (aay.symm.trans hf)|>.symm;obtain rfl:fn=VZ:=(VX (YX.symm.trans sQ)).symm;exact⟨by kernel_rfl,λj t ht=>by
    rw[show VZ.params=#[22]from rfl]at ht;have h3:t=22:=by
     rcases j with _|j
     ·simpa using ht.symm
     ·simp at ht
    subst h3;exact(show SC.wantsStandIn 22=false by kernel_rfl)⟩)
  (by kernel_rfl)
end Go.Proofs.YtkanpclgnhdbiaaGreatDoor
