/- For every list of numbers, TicketRead returns true and does not panic, in any order in which its goroutines run; errors.errorType starts as the text of the program lays it. -/
import Derived.Test.YtkanpclgnhdbiaaGreatDoorTicketReadCard4
import Derived.LaidMore
import Derived.SevenTiedAt
import Derived.Test.YtkanpclgnhdbiaaGreatDoorTie
import Derived.Test.YtkanpclgnhdbiaaGreatDoorCards
set_option linter.all false
set_option maxRecDepth 4000
set_option maxHeartbeats 4000000
open Bool renaming and_self->Z_
open Go renaming Func->ZP,FuncId->TQ,OpenClaim->Yg,Program->SJ,ReturnsInLeavingWide->aj',Value->SO
open Go.ChangeSpec renaming witness_shaped->am_
open Go.Claim7 renaming isSixth->Zr,new_of_sixth->YJ,tied_new_at->YT
open Go.OpenClaim renaming holds_of_wide_leaving->ao_
open Go.OpenSpec renaming ofChange->VJ
open Go.Proofs.Tryz renaming checked->UE,f8->WL,func8->Y8,prog->SC
open Go.World renaming doorLaid->Zx
open Option.some renaming inj->Wj
namespace Go.Gg
open Go.Proofs
theorem alh{P:SJ}{f:TQ}{fn:ZP}{s:ChangeSpec}{c:Yg}
  (k0:(c.wf (VJ s))=true)
  (k1:(laidOutB P)=true)
  (k2:(mapsRowed P)=true)
  (k3:(fn.params.all (P.readableRec ·))=true)
  (k4:(namedTie P c.named s.vars)=true)
  (k5:((c.stops==[]))=true)
  (k6:((P.stops==[]))=true)
  (k7:((c.knobs==[]))=true)
  (k8:((P.stopKnobs==[]))=true)
  (k9:((c.inPlace==P.inPlace f))=true)
  (Cv:((c.unfollowed==P.unfollowed f))=true)
  (Lg:((c.recurses==P.recurses f))=true)
  (zC:((c.named==P.varsNamed f))=true)
  (Lh:((c.maps==(fn.params.toList++s.plain.varTypes P).any (P.mapsRec ·)))=true)
  (Cw:((c.ifaces==(fn.params.toList++s.plain.varTypes P).any (P.ifacesRec ·)))=true)
  (Li:((c.mapsOut==P.mapsAmong fn.resultTypes.toList))=true)
  (Lj:((c.loops==(fn.params.toList++s.plain.varTypes P).any (P.loopsFrom ·)))=true)
  (Ll:((c.wideKeys==(fn.params.toList++s.plain.varTypes P++fn.resultTypes.toList).any (P.wideKeysFrom ·)))=true)
  (So:(s.vars.all (P.varReadable ·))=true)
  (k19:(fn.resultTypes.all (λt=>P.readableRec t&&decide (t<P.types.size)))=true)
  (Lm:((c.ifacesOut==fn.resultTypes.toList.any (P.ifacesRec ·)))=true)
  (Ln:((c.loopsOut==fn.resultTypes.toList.any (P.loopsFrom ·)))=true)
  (Lq:((c.plainKeys==P.plainKeys))=true)
  (Lr:(c.shortTexts.isNone)=true)
  (Ls:(P.stopsHeard)=true)
  (Lu:(P.mayEnter)=true)
  (k26:((c.lifted==P.liftsFinal))=true)
  (k27:((P.make==some c.make))=true)
  (k28:c.domain.isEmpty=true) (alk:c.kinds=[])
  (k29:((c.pinned==c.pinnedBy))=true)
  (k30:((c.veiled==(fn.params.toList++s.plain.varTypes P++fn.resultTypes.toList).any (P.veiledRec ·)))=true)
  (k31:(c.veiledFits P fn.params.toList (fn.params.toList++s.plain.varTypes P++fn.resultTypes.toList))=true):joinedFacts P f fn s c=true:=by
 simp only[joinedFacts,k0,k1,k2,k3,k4,k5,k6,k7,k8,k9,Cv,Lg,zC,Lh,Cw,Li,Lj,Ll,So,k19,Lm,Ln,Lq,Lr,Ls,Lu,k26,k27,k28,alk,if_true,beq_self_eq_true,k29,k30,k31,Z_]
theorem al1{c:Yg}(h:c.lifted=false):(c.lifted==SC.liftsFinal)=true:=by rw[Tz.al2,h];rfl
theorem ams{c:Yg}(h:c.make=.cut):(SC.make==some c.make)=true:=by rw[Tz.make,h];rfl
end Go.Gg
namespace Go.Proofs.YtkanpclgnhdbiaaGreatDoor
open Go.Conc Go.Proofs Go.Gg
theorem aqS(Lk:Looks){p:Pinned}{s:OpenSpec}{c:Yg}(al:List (List PathCond))(kinds:List LaidKind)(GR:Bool)(vt:Bool×String)(lk:Bool)
  (hc:c.holds p s) (gB:∀D∈al,(c.withDomain D).holds p s) (hw:c.wfByText s=true) (ak0:∀D∈al,(c.withDomain D).wfByText s=true)
  (akV:c.laidByTextAt Lk p kinds GR)
  (aP:c.start=.entering) (uh:c.noBlocks=false/\c.again=false) (hm:p.checked.prog.mainIs=some (vt.1,vt.2.toList)) (hn:(!vt.1&&vt.2.isEmpty&& !lk)=false)
  (hl:∀f fn,p.checked.prog.funcNamed c.func=some f->p.checked.prog.funcs[f]?=some fn->lk=p.checked.prog.looks []/\∀(j:Nat) t,fn.params[j]?=some t->p.checked.prog.wantsStandIn t=false)
  (hg:true=c.goesBy p.checked.prog):
  Claim7.holds p (.plain s) {stood:={row:=c,standIns:=[],harness:=vt,looks:=lk},kinds:=[],alts:=al,goes:=true,laidByText:=true,laidKinds:=kinds,laidTests:=GR,laidLooks:=Lk}:=by
 have h6:∀r:Yg,Zr {stood:={row:=r,standIns:=[],harness:=vt,looks:=lk},kinds:=[]}=false:=λr=>by simpa[Zr]using hn
 refine⟨YT Lk kinds GR (YJ hc vt lk aP uh hm (h6 c) hl) hw,λD hD=> ?_,akV,(λh=>by cases h),hg⟩;exact YT Lk kinds GR (YJ (gB D hD) vt lk aP uh hm (h6 _) hl) (ak0 D hD)
theorem Sz:SC.funcNamed Rows.ticketReadRow.func=some 8:=by kernel_rfl
theorem alC:joinedFacts SC 8 WL Rows.ticketReadSpec Rows.ticketReadRow=true:=
 alh (by kernel_rfl) Tz.laidOut (by kernel_rfl) (by kernel_rfl) (by kernel_rfl) (by kernel_rfl) (by kernel_rfl) (by kernel_rfl) (by kernel_rfl) (by kernel_rfl) (by kernel_rfl) (by kernel_rfl) (by kernel_rfl) (by kernel_rfl) (by kernel_rfl) (by kernel_rfl) (by kernel_rfl) (by kernel_rfl) (by kernel_rfl) (by kernel_rfl) (by kernel_rfl) (by kernel_rfl) (by kernel_rfl) (by kernel_rfl) (by kernel_rfl) Tz.mayEnter (al1 (by kernel_rfl)) (ams (by kernel_rfl)) (by kernel_rfl) (by kernel_rfl) (by kernel_rfl) (by kernel_rfl) (by kernel_rfl)
theorem alB:WL.isInstance SC Rows.ticketReadRow.origin Rows.ticketReadRow.targs:=of_decide_eq_true (by kernel_rfl)
theorem alD:WL.isWrapper SC Rows.ticketReadRow.wrapper Rows.ticketReadRow.mainSum:=by unfold Func.isWrapper;first|(rw[if_pos (by decide+kernel)];kernel_rfl)|(rw[if_neg (by decide+kernel)];exact⟨rfl,rfl⟩)
theorem alA(os:Os)(args:Array SO):laidMetH SC Rows.ticketReadRow.laid ((Zx SC 400 os).forCall (λ_ _=>0) ⟨#[],args,[]⟩).memory:=
 laidMetH_of_parts (laidMet_nil _ _) (by kernel_rfl)
theorem alE(os:Os)(started:os.Started)(H:Type)(enc:TypeId×SO->H):
  aj' {} UE os 8 .any (λw args=>(Rows.ticketReadSpec.pre enc SC WL [] false w args/\laidMetH SC Rows.ticketReadRow.laid w)/\sizedMet enc SC WL (VJ Rows.ticketReadSpec) false w args) (Rows.ticketReadSpec.post enc SC WL false true false false):=
 ak4 (f:=8) (fn:=WL) (s:=Rows.ticketReadSpec) (X:=λw _=>laidMetH SC Rows.ticketReadRow.laid w) Y8 rfl rfl rfl (λ_ _=>rfl) (by kernel_rfl) (λaA hn=>ahU rfl hn rfl) os started H enc
  (am_ (enc:=enc) (C:=UE) (os:=os) (X:=λw _=>laidMetH SC Rows.ticketReadRow.laid w) false (Zx SC 400 os) #[.slice none 0 0] 8 rfl (World.shaped_of_RefB (by kernel_rfl) (by kernel_rfl)) (by kernel_rfl) (by kernel_rfl) (by kernel_rfl) (alA os _))
theorem aqR:Rows.TicketReadSaid:=
 ao_ 8 WL rfl rfl rfl rfl rfl rfl rfl ⟨rfl,rfl,rfl,rfl,rfl⟩ rfl rfl rfl rfl rfl Sz Y8 alC alB alD
  (λos started H enc _=>alE os started H enc)
theorem ticketReadCard_holds:Rows.TicketReadCardSaid:=
 aqS .later [] [.handle] true (true, "45fd5351f7cd9735ddf4ba6d03521756ede6e6c5cc419d257d1792c40ead1f9e") true
  aqR (λ_ h=>by cases h) (by kernel_rfl) (λ_ h=>by cases h) ticketRead_row_tie rfl ⟨rfl,rfl⟩ (by kernel_rfl) rfl
  (λf fn hf xn=>by
   obtain rfl:f=8:=Wj (Sz.symm.trans hf)|>.symm;obtain rfl:fn=WL:=(Wj (Y8.symm.trans xn)).symm;exact⟨by kernel_rfl,λj t ht=>by
    rw[show WL.params=#[22]from rfl]at ht;have h3:t=22:=by
     rcases j with _|j
     ·simpa using ht.symm
     ·simp at ht
    subst h3;exact(show SC.wantsStandIn 22=false by kernel_rfl)⟩)
  (by kernel_rfl)
end Go.Proofs.YtkanpclgnhdbiaaGreatDoor
