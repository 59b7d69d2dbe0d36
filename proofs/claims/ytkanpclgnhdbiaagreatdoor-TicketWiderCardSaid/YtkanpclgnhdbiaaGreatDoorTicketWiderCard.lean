/- For every list of numbers, TicketWider returns true and does not panic, in any order in which its goroutines run; errors.errorType starts as the text of the program lays it. -/
import Derived.Test.YtkanpclgnhdbiaaGreatDoorTicketWiderCard4
import Derived.LaidMore
import Derived.SevenTiedAt
import Derived.Test.YtkanpclgnhdbiaaGreatDoorTie
import Derived.Test.YtkanpclgnhdbiaaGreatDoorCards
set_option linter.all false
set_option maxRecDepth 4000
set_option maxHeartbeats 4000000
open Bool renaming and_self->Z'
open Go renaming Func->ZQ,FuncId->TS,OpenClaim->Yi,Program->SI,ReturnsInLeavingWide->ak_,Value->SO
open Go.ChangeSpec renaming witness_shaped->an_
open Go.Claim7 renaming isSixth->Zt,new_of_sixth->YL,tied_new_at->YV
open Go.OpenClaim renaming holds_of_wide_leaving->apH
open Go.OpenSpec renaming ofChange->VL
open Go.Proofs.Tryz renaming checked->UK,f4->WL,func4->Y',prog->SA
open Go.World renaming doorLaid->Zy
open Option.some renaming inj->Wj
namespace Go.Gg
open Go.Proofs
theorem alG{P:SI}{f:TS}{fn:ZQ}{s:ChangeSpec}{c:Yi}
  (k0:(c.wf (VL s))=true)
  (k1:(laidOutB P)=true)
  (k2:(mapsRowed P)=true)
  (k3:(fn.params.all (P.readableRec ·))=true)
  (k4:(namedTie P c.named s.vars)=true)
  (k5:((c.stops==[]))=true)
  (k6:((P.stops==[]))=true)
  (k7:((c.knobs==[]))=true)
  (k8:((P.stopKnobs==[]))=true)
  (k9:((c.inPlace==P.inPlace f))=true)
  (C1:((c.unfollowed==P.unfollowed f))=true)
  (L2:((c.recurses==P.recurses f))=true)
  (Al:((c.named==P.varsNamed f))=true)
  (L3:((c.maps==(fn.params.toList++s.plain.varTypes P).any (P.mapsRec ·)))=true)
  (C2:((c.ifaces==(fn.params.toList++s.plain.varTypes P).any (P.ifacesRec ·)))=true)
  (L4:((c.mapsOut==P.mapsAmong fn.resultTypes.toList))=true)
  (L6:((c.loops==(fn.params.toList++s.plain.varTypes P).any (P.loopsFrom ·)))=true)
  (L7:((c.wideKeys==(fn.params.toList++s.plain.varTypes P++fn.resultTypes.toList).any (P.wideKeysFrom ·)))=true)
  (k18:(s.vars.all (P.varReadable ·))=true)
  (k19:(fn.resultTypes.all (λt=>P.readableRec t&&decide (t<P.types.size)))=true)
  (L8:((c.ifacesOut==fn.resultTypes.toList.any (P.ifacesRec ·)))=true)
  (L9:((c.loopsOut==fn.resultTypes.toList.any (P.loopsFrom ·)))=true)
  (L_:((c.plainKeys==P.plainKeys))=true)
  (Ma:(c.shortTexts.isNone)=true)
  (Mb:(P.stopsHeard)=true)
  (Mc:(P.mayEnter)=true)
  (k26:((c.lifted==P.liftsFinal))=true)
  (k27:((P.make==some c.make))=true)
  (k28:c.domain.isEmpty=true) (alJ:c.kinds=[])
  (k29:((c.pinned==c.pinnedBy))=true)
  (k30:((c.veiled==(fn.params.toList++s.plain.varTypes P++fn.resultTypes.toList).any (P.veiledRec ·)))=true)
  (k31:(c.veiledFits P fn.params.toList (fn.params.toList++s.plain.varTypes P++fn.resultTypes.toList))=true):joinedFacts P f fn s c=true:=by
 simp only[joinedFacts,k0,k1,k2,k3,k4,k5,k6,k7,k8,k9,C1,L2,Al,L3,C2,L4,L6,L7,k18,k19,L8,L9,L_,Ma,Mb,Mc,k26,k27,k28,alJ,if_true,beq_self_eq_true,k29,k30,k31,Z']
theorem amq{c:Yi}(h:c.lifted=false):(c.lifted==SA.liftsFinal)=true:=by rw[Tz.amr,h];rfl
theorem amS{c:Yi}(h:c.make=.cut):(SA.make==some c.make)=true:=by rw[Tz.make,h];rfl
end Go.Gg
namespace Go.Proofs.YtkanpclgnhdbiaaGreatDoor
open Go.Conc Go.Proofs Go.Gg
theorem arm(Lk:Looks){p:Pinned}{s:OpenSpec}{c:Yi}(al:List (List PathCond))(kinds:List LaidKind)(HC:Bool)(vL:Bool×String)(lk:Bool)
  (hc:c.holds p s) (gC:∀D∈al,(c.withDomain D).holds p s) (hw:c.wfByText s=true) (alo:∀D∈al,(c.withDomain D).wfByText s=true)
  (ali:c.laidByTextAt Lk p kinds HC)
  (aR:c.start=.entering) (sW:c.noBlocks=false/\c.again=false) (hm:p.checked.prog.mainIs=some (vL.1,vL.2.toList)) (hn:(!vL.1&&vL.2.isEmpty&& !lk)=false)
  (hl:∀f fn,p.checked.prog.funcNamed c.func=some f->p.checked.prog.funcs[f]?=some fn->lk=p.checked.prog.looks []/\∀(j:Nat) t,fn.params[j]?=some t->p.checked.prog.wantsStandIn t=false)
  (hg:true=c.goesBy p.checked.prog):
  Claim7.holds p (.plain s) {stood:={row:=c,standIns:=[],harness:=vL,looks:=lk},kinds:=[],alts:=al,goes:=true,laidByText:=true,laidKinds:=kinds,laidTests:=HC,laidLooks:=Lk}:=by
 have h6:∀r:Yi,Zt {stood:={row:=r,standIns:=[],harness:=vL,looks:=lk},kinds:=[]}=false:=λr=>by simpa[Zt]using hn
 refine⟨YV Lk kinds HC (YL hc vL lk aR sW hm (h6 c) hl) hw,λD hD=> ?_,ali,(λh=>by cases h),hg⟩;exact YV Lk kinds HC (YL (gC D hD) vL lk aR sW hm (h6 _) hl) (alo D hD)
theorem aaA:SA.funcNamed Rows.ticketWiderRow.func=some 4:=by kernel_rfl
theorem al1:joinedFacts SA 4 WL Rows.ticketWiderSpec Rows.ticketWiderRow=true:=
 alG (by kernel_rfl) Tz.laidOut (by kernel_rfl) (by kernel_rfl) (by kernel_rfl) (by kernel_rfl) (by kernel_rfl) (by kernel_rfl) (by kernel_rfl) (by kernel_rfl) (by kernel_rfl) (by kernel_rfl) (by kernel_rfl) (by kernel_rfl) (by kernel_rfl) (by kernel_rfl) (by kernel_rfl) (by kernel_rfl) (by kernel_rfl) (by kernel_rfl) (by kernel_rfl) (by kernel_rfl) (by kernel_rfl) (by kernel_rfl) (by kernel_rfl) Tz.mayEnter (amq (by kernel_rfl)) (amS (by kernel_rfl)) (by kernel_rfl) (by kernel_rfl) (by kernel_rfl) (by kernel_rfl) (by kernel_rfl)
theorem al0:WL.isInstance SA Rows.ticketWiderRow.origin Rows.ticketWiderRow.targs:=of_decide_eq_true (by kernel_rfl)
theorem al2:WL.isWrapper SA Rows.ticketWiderRow.wrapper Rows.ticketWiderRow.mainSum:=by unfold Func.isWrapper;first|(rw[if_pos (by decide+kernel)];kernel_rfl)|(rw[if_neg (by decide+kernel)];exact⟨rfl,rfl⟩)
theorem alZ(os:Os)(args:Array SO):laidMetH SA Rows.ticketWiderRow.laid ((Zy SA 400 os).forCall (λ_ _=>0) ⟨#[],args,[]⟩).memory:=
 laidMetH_of_parts (laidMet_nil _ _) (by kernel_rfl)
theorem al3(os:Os)(started:os.Started)(H:Type)(enc:TypeId×SO->H):
  ak_ {} UK os 4 .any (λw args=>(Rows.ticketWiderSpec.pre enc SA WL [] false w args/\laidMetH SA Rows.ticketWiderRow.laid w)/\sizedMet enc SA WL (VL Rows.ticketWiderSpec) false w args) (Rows.ticketWiderSpec.post enc SA WL false true false false):=
 alt (f:=4) (fn:=WL) (s:=Rows.ticketWiderSpec) (X:=λw _=>laidMetH SA Rows.ticketWiderRow.laid w) Y' rfl rfl rfl (λ_ _=>rfl) (by kernel_rfl) (λaB hn=>ah1 rfl hn rfl) os started H enc
  (an_ (enc:=enc) (C:=UK) (os:=os) (X:=λw _=>laidMetH SA Rows.ticketWiderRow.laid w) false (Zy SA 400 os) #[.slice none 0 0] 8 rfl (World.shaped_of_RefB (by kernel_rfl) (by kernel_rfl)) (by kernel_rfl) (by kernel_rfl) (by kernel_rfl) (alZ os _))
theorem arl:Rows.TicketWiderSaid:=
 apH 4 WL rfl rfl rfl rfl rfl rfl rfl ⟨rfl,rfl,rfl,rfl,rfl⟩ rfl rfl rfl rfl rfl aaA Y' al1 al0 al2
  (λos started H enc _=>al3 os started H enc)
theorem ticketWiderCard_holds:Rows.TicketWiderCardSaid:=
 arm .later [] [.handle] true (true, "45fd5351f7cd9735ddf4ba6d03521756ede6e6c5cc419d257d1792c40ead1f9e") true
  arl (λ_ h=>by cases h) (by kernel_rfl) (λ_ h=>by cases h) ticketWider_row_tie rfl ⟨rfl,rfl⟩ (by kernel_rfl) rfl
  (λf fn hf xH=>by
   obtain rfl:f=4:=Wj (aaA.symm.trans hf)|>.symm;obtain rfl:fn=WL:=(Wj (Y'.symm.trans xH)).symm;exact⟨by kernel_rfl,λj t ht=>by
    rw[show WL.params=#[22]from rfl]at ht;have h3:t=22:=by
     rcases j with _|j
     ·simpa using ht.symm
     ·simp at ht
    subst h3;exact(show SA.wantsStandIn 22=false by kernel_rfl)⟩)
  (by kernel_rfl)
end Go.Proofs.YtkanpclgnhdbiaaGreatDoor
