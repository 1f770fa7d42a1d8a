import Derived.Test.YtpdgokkbljiccaaGreatRows
import Derived.Test.YtpdgokkbljiccaaGreatChecked
import Derived.KernelRfl
import Derived.Deep.DeepHandedRow
import Derived.LaidMore
import Derived.ChangeCalls
import Derived.JoinedCond
import Derived.Lay
set_option linter.unusedVariables false
set_option linter.unusedSimpArgs false
namespace Go.Proofs.YtpdgokkbljiccaaGreat
open Go
set_option maxRecDepth 100000
theorem aiH{P:Program}{f:FuncId}{fn:Func}{s:ChangeSpec}{c:OpenClaim}(a:laidOutB P=true)(b:mapsRowed P=true)(d:(c.inPlace==P.inPlace f)=true)(g:(c.unfollowed==P.unfollowed f)=true)(i:(c.recurses==P.recurses f)=true)(j:(c.named==P.varsNamed f)=true)
  (h:(c.wf (OpenSpec.ofChange s)&&true&&true&&fn.params.all (P.readableRec ·)&&namedTie P c.named s.vars&&(c.stops==[])&&(P.stops==[])&&(c.knobs==[])&&(P.stopKnobs==[])&&true&&true&&true&&true&&(c.maps==(fn.params.toList++s.plain.varTypes P).any (P.mapsRec ·))&&(c.ifaces==(fn.params.toList++s.plain.varTypes P).any (P.ifacesRec ·))&&(c.mapsOut==P.mapsAmong fn.resultTypes.toList)&&(c.loops==(fn.params.toList++s.plain.varTypes P).any (P.loopsFrom ·))&&(c.wideKeys==(fn.params.toList++s.plain.varTypes P++fn.resultTypes.toList).any (P.wideKeysFrom ·))&&s.vars.all (P.varReadable ·)&&fn.resultTypes.all (fun t=>P.readableRec t&&decide (t<P.types.size))&&(c.ifacesOut==fn.resultTypes.toList.any (P.ifacesRec ·))&&(c.loopsOut==fn.resultTypes.toList.any (P.loopsFrom ·))&&(c.plainKeys==P.plainKeys)&&c.shortTexts.isNone&&P.stopsHeard&&P.mayEnter&&(c.lifted==P.liftsFinal)&&(P.make==some c.make)&&(c.kinds==(if c.domain.isEmpty then[]else fn.params.toList.map fun t=>match P.underlying t with |some (.int k)=>some k |_=>none))&&(c.pinned==c.pinnedBy)&&(c.veiled==(fn.params.toList++s.plain.varTypes P++fn.resultTypes.toList).any (P.veiledRec ·))&&c.veiledFits P fn.params.toList (fn.params.toList++s.plain.varTypes P++fn.resultTypes.toList))=true):joinedFacts P f fn s c=true:=by
 unfold joinedFacts;rw[a,b,d,g,i,j];exact h
theorem ai3:laidOutB Tryz.prog=true:=by kernel_rfl
theorem ajS:mapsRowed Tryz.prog=true:=by kernel_rfl
theorem ajT:(Rows.modelAsksUptoRow.inPlace==Tryz.prog.inPlace 6)=true:=by kernel_rfl
theorem ajU:(Rows.modelAsksUptoRow.unfollowed==Tryz.prog.unfollowed 6)=true:=by kernel_rfl
theorem ajV:(Rows.modelAsksUptoRow.recurses==Tryz.prog.recurses 6)=true:=by kernel_rfl
theorem ajW:(Rows.modelAsksUptoRow.named==Tryz.prog.varsNamed 6)=true:=by kernel_rfl
theorem ajd:joinedFacts Tryz.pinned.checked.prog 6 Tryz.f6 (Rows.OpenSpec.upto Rows.modelAsksSpec).bare Rows.modelAsksUptoRow=true:=aiH ai3 ajS ajT ajU ajV ajW (by kernel_rfl)
theorem ajX:Tryz.pinned.checked.prog.funcNamed Rows.modelAsksUptoRow.func=some 6:=by kernel_rfl
theorem ajD:Tryz.f6.isInstance Tryz.pinned.checked.prog Rows.modelAsksUptoRow.origin Rows.modelAsksUptoRow.targs:=of_decide_eq_true (by kernel_rfl)
theorem ajE:Tryz.f6.isWrapper Tryz.pinned.checked.prog Rows.modelAsksUptoRow.wrapper Rows.modelAsksUptoRow.mainSum:=by unfold Func.isWrapper;first |(rw[if_pos (by decide+kernel)];kernel_rfl)|(rw[if_neg (by decide+kernel)];exact⟨rfl,rfl⟩)
theorem ajI:ownKnob Tryz.prog.godebug=none:=by kernel_rfl
noncomputable def af1(os:Os):World:=World.laidAll Tryz.prog os Rows.modelAsksUptoRow.laid
def ad8:Array Value:= #[.agg #[.int .i64 0,.int .i64 0,.int .i64 0,.int .i64 0,.int .i64 0,.int .i64 0,.slice none 0 0,.slice none 0 0,.slice none 0 0,.int .i64 0,.slice none 0 0,.slice none 0 0,.slice none 0 0,.slice none 0 0,.slice none 0 0,.slice none 0 0,.int .i64 0],.slice none 0 0,.int .i64 0]
theorem ajr(os:Os){H:Type}(enc:TypeId×Value→H):∃a,DataW.whole enc Tryz.prog ((af1 os).forCall (fun _ _=>0) ⟨#[],ad8,[]⟩).memory Tryz.f6.params.toList Rows.modelAsksSpec.vars false ad8.toList 8=some ([.agg [.agg [.lit (.int .i64 0),.lit (.int .i64 0),.lit (.int .i64 0),.lit (.int .i64 0),.lit (.int .i64 0),.lit (.int .i64 0)],.agg [.nil,.nil],.nil,.lit (.int .i64 0),.nil,.nil,.nil,.nil,.nil,.nil,.lit (.int .i64 0)],.nil,.lit (.int .i64 0)],[],a):=
 ⟨[],by kernel_rfl⟩
theorem ajJ(os:Os):laidMetH Tryz.prog Rows.modelAsksUptoRow.laid ((af1 os).forCall (fun _ _=>0) ⟨#[],ad8,[]⟩).memory:=by
 rw[MakeChecks.laidMetH_plain _ _ _ (by kernel_rfl)];exact laidMet_laidAll _ (by kernel_rfl) (by kernel_rfl)
theorem aje(os:Os):((af1 os).forCall (fun _ _=>0) ⟨#[],ad8,[]⟩).Shaped Tryz.prog:=
 World.shaped_of_ZipB (by kernel_rfl) (by kernel_rfl)
theorem aix(os:Os):Input.okWideB Tryz.checked.prog ((af1 os).forCall (fun _ _=>0) ⟨#[],ad8,[]⟩) 6 ⟨#[],ad8,[]⟩=true:=by kernel_rfl
theorem ajs(os:Os){H:Type}(enc:TypeId×Value→H):(Rows.OpenSpec.upto Rows.modelAsksSpec).bare.sizedB enc Tryz.prog Tryz.f6 false ((af1 os).forCall (fun _ _=>0) ⟨#[],ad8,[]⟩).memory ad8 8=true:=by kernel_rfl
end Go.Proofs.YtpdgokkbljiccaaGreat
