import Derived.Test.YtpdgokkbljiccaaGreatRows
import Derived.Test.YtpdgokkbljiccaaGreatChecked
import Derived.KernelRfl
import Derived.Deep.DeepHandedRow
import Derived.LaidMore
import Derived.ChangeCalls
import Derived.JoinedCond
import Derived.Lay
set_option linter.unusedVariables false
set_option linter.unusedSimpArgs false
namespace Go.Proofs.YtpdgokkbljiccaaGreat
open Go
set_option maxRecDepth 100000
theorem pQ{P:Program}{f:FuncId}{fn:Func}{s:ChangeSpec}{c:OpenClaim}(a:laidOutB P=true)(b:mapsRowed P=true)(d:(c.inPlace==P.inPlace f)=true)(g:(c.unfollowed==P.unfollowed f)=true)(i:(c.recurses==P.recurses f)=true)(j:(c.named==P.varsNamed f)=true)
  (h:(c.wf (OpenSpec.ofChange s)&&true&&true&&fn.params.all (P.readableRec ·)&&namedTie P c.named s.vars&&(c.stops==[])&&(P.stops==[])&&(c.knobs==[])&&(P.stopKnobs==[])&&true&&true&&true&&true&&(c.maps==(fn.params.toList++s.plain.varTypes P).any (P.mapsRec ·))&&(c.ifaces==(fn.params.toList++s.plain.varTypes P).any (P.ifacesRec ·))&&(c.mapsOut==P.mapsAmong fn.resultTypes.toList)&&(c.loops==(fn.params.toList++s.plain.varTypes P).any (P.loopsFrom ·))&&(c.wideKeys==(fn.params.toList++s.plain.varTypes P++fn.resultTypes.toList).any (P.wideKeysFrom ·))&&s.vars.all (P.varReadable ·)&&fn.resultTypes.all (fun t=>P.readableRec t&&decide (t<P.types.size))&&(c.ifacesOut==fn.resultTypes.toList.any (P.ifacesRec ·))&&(c.loopsOut==fn.resultTypes.toList.any (P.loopsFrom ·))&&(c.plainKeys==P.plainKeys)&&c.shortTexts.isNone&&P.stopsHeard&&P.mayEnter&&(c.lifted==P.liftsFinal)&&(P.make==some c.make)&&(c.kinds==(if c.domain.isEmpty then[]else fn.params.toList.map fun t=>match P.underlying t with |some (.int k)=>some k |_=>none))&&(c.pinned==c.pinnedBy)&&(c.veiled==(fn.params.toList++s.plain.varTypes P++fn.resultTypes.toList).any (P.veiledRec ·))&&c.veiledFits P fn.params.toList (fn.params.toList++s.plain.varTypes P++fn.resultTypes.toList))=true):joinedFacts P f fn s c=true:=by
 unfold joinedFacts;rw[a,b,d,g,i,j];exact h
theorem tN:laidOutB Tryz.prog=true:=by kernel_rfl
theorem CN:mapsRowed Tryz.prog=true:=by kernel_rfl
theorem CO:(Rows.modelNilUptoRow.inPlace==Tryz.prog.inPlace 11)=true:=by kernel_rfl
theorem CP:(Rows.modelNilUptoRow.unfollowed==Tryz.prog.unfollowed 11)=true:=by kernel_rfl
theorem CQ:(Rows.modelNilUptoRow.recurses==Tryz.prog.recurses 11)=true:=by kernel_rfl
theorem CS:(Rows.modelNilUptoRow.named==Tryz.prog.varsNamed 11)=true:=by kernel_rfl
theorem uQ:joinedFacts Tryz.pinned.checked.prog 11 Tryz.f11 (Rows.OpenSpec.upto Rows.modelNilSpec).bare Rows.modelNilUptoRow=true:=pQ tN CN CO CP CQ CS (by kernel_rfl)
theorem CT:Tryz.pinned.checked.prog.funcNamed Rows.modelNilUptoRow.func=some 11:=by kernel_rfl
theorem yt:Tryz.f11.isInstance Tryz.pinned.checked.prog Rows.modelNilUptoRow.origin Rows.modelNilUptoRow.targs:=of_decide_eq_true (by kernel_rfl)
theorem yu:Tryz.f11.isWrapper Tryz.pinned.checked.prog Rows.modelNilUptoRow.wrapper Rows.modelNilUptoRow.mainSum:=by unfold Func.isWrapper;first |(rw[if_pos (by decide+kernel)];kernel_rfl)|(rw[if_neg (by decide+kernel)];exact⟨rfl,rfl⟩)
theorem A3:ownKnob Tryz.prog.godebug=none:=by kernel_rfl
noncomputable def g5(os:Os):World:=World.laidAll Tryz.prog os Rows.modelNilUptoRow.laid
def eB:Array Value:= #[.slice none 0 0,.int .i64 0]
theorem xl(os:Os){H:Type}(enc:TypeId×Value→H):∃a,DataW.whole enc Tryz.prog ((g5 os).forCall (fun _ _=>0) ⟨#[],eB,[]⟩).memory Tryz.f11.params.toList Rows.modelNilSpec.vars false eB.toList 8=some ([.nil,.lit (.int .i64 0)],[],a):=
 ⟨[],by kernel_rfl⟩
theorem A4(os:Os):laidMetH Tryz.prog Rows.modelNilUptoRow.laid ((g5 os).forCall (fun _ _=>0) ⟨#[],eB,[]⟩).memory:=by
 rw[MakeChecks.laidMetH_plain _ _ _ (by kernel_rfl)];exact laidMet_laidAll _ (by kernel_rfl) (by kernel_rfl)
theorem uR(os:Os):((g5 os).forCall (fun _ _=>0) ⟨#[],eB,[]⟩).Shaped Tryz.prog:=
 World.shaped_of_ZipB (by kernel_rfl) (by kernel_rfl)
theorem pw(os:Os):Input.okWideB Tryz.checked.prog ((g5 os).forCall (fun _ _=>0) ⟨#[],eB,[]⟩) 11 ⟨#[],eB,[]⟩=true:=by kernel_rfl
theorem xm(os:Os){H:Type}(enc:TypeId×Value→H):(Rows.OpenSpec.upto Rows.modelNilSpec).bare.sizedB enc Tryz.prog Tryz.f11 false ((g5 os).forCall (fun _ _=>0) ⟨#[],eB,[]⟩).memory eB 8=true:=by kernel_rfl
end Go.Proofs.YtpdgokkbljiccaaGreat
