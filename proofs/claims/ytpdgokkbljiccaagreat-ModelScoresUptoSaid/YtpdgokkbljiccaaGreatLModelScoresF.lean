import Derived.Test.YtpdgokkbljiccaaGreatRows
import Derived.Test.YtpdgokkbljiccaaGreatChecked
import Derived.KernelRfl
import Derived.Deep.DeepHandedRow
import Derived.LaidMore
import Derived.ChangeCalls
import Derived.JoinedCond
import Derived.Lay
set_option linter.unusedVariables false
set_option linter.unusedSimpArgs false
namespace Go.Proofs.YtpdgokkbljiccaaGreat
open Go
set_option maxRecDepth 100000
theorem zC{P:Program}{f:FuncId}{fn:Func}{s:ChangeSpec}{c:OpenClaim}(a:laidOutB P=true)(b:mapsRowed P=true)(d:(c.inPlace==P.inPlace f)=true)(g:(c.unfollowed==P.unfollowed f)=true)(i:(c.recurses==P.recurses f)=true)(j:(c.named==P.varsNamed f)=true)
  (h:(c.wf (OpenSpec.ofChange s)&&true&&true&&fn.params.all (P.readableRec ·)&&namedTie P c.named s.vars&&(c.stops==[])&&(P.stops==[])&&(c.knobs==[])&&(P.stopKnobs==[])&&true&&true&&true&&true&&(c.maps==(fn.params.toList++s.plain.varTypes P).any (P.mapsRec ·))&&(c.ifaces==(fn.params.toList++s.plain.varTypes P).any (P.ifacesRec ·))&&(c.mapsOut==P.mapsAmong fn.resultTypes.toList)&&(c.loops==(fn.params.toList++s.plain.varTypes P).any (P.loopsFrom ·))&&(c.wideKeys==(fn.params.toList++s.plain.varTypes P++fn.resultTypes.toList).any (P.wideKeysFrom ·))&&s.vars.all (P.varReadable ·)&&fn.resultTypes.all (fun t=>P.readableRec t&&decide (t<P.types.size))&&(c.ifacesOut==fn.resultTypes.toList.any (P.ifacesRec ·))&&(c.loopsOut==fn.resultTypes.toList.any (P.loopsFrom ·))&&(c.plainKeys==P.plainKeys)&&c.shortTexts.isNone&&P.stopsHeard&&P.mayEnter&&(c.lifted==P.liftsFinal)&&(P.make==some c.make)&&(c.kinds==(if c.domain.isEmpty then[]else fn.params.toList.map fun t=>match P.underlying t with |some (.int k)=>some k |_=>none))&&(c.pinned==c.pinnedBy)&&(c.veiled==(fn.params.toList++s.plain.varTypes P++fn.resultTypes.toList).any (P.veiledRec ·))&&c.veiledFits P fn.params.toList (fn.params.toList++s.plain.varTypes P++fn.resultTypes.toList))=true):joinedFacts P f fn s c=true:=by
 unfold joinedFacts;rw[a,b,d,g,i,j];exact h
theorem Bz:laidOutB Tryz.prog=true:=by kernel_rfl
theorem ON:mapsRowed Tryz.prog=true:=by kernel_rfl
theorem OO:(Rows.modelScoresUptoRow.inPlace==Tryz.prog.inPlace 4)=true:=by kernel_rfl
theorem OP:(Rows.modelScoresUptoRow.unfollowed==Tryz.prog.unfollowed 4)=true:=by kernel_rfl
theorem OQ:(Rows.modelScoresUptoRow.recurses==Tryz.prog.recurses 4)=true:=by kernel_rfl
theorem OR:(Rows.modelScoresUptoRow.named==Tryz.prog.varsNamed 4)=true:=by kernel_rfl
theorem Ew:joinedFacts Tryz.pinned.checked.prog 4 Tryz.f4 (Rows.OpenSpec.upto Rows.modelScoresSpec).bare Rows.modelScoresUptoRow=true:=zC Bz ON OO OP OQ OR (by kernel_rfl)
theorem OS:Tryz.pinned.checked.prog.funcNamed Rows.modelScoresUptoRow.func=some 4:=by kernel_rfl
theorem Jd:Tryz.f4.isInstance Tryz.pinned.checked.prog Rows.modelScoresUptoRow.origin Rows.modelScoresUptoRow.targs:=of_decide_eq_true (by kernel_rfl)
theorem Je:Tryz.f4.isWrapper Tryz.pinned.checked.prog Rows.modelScoresUptoRow.wrapper Rows.modelScoresUptoRow.mainSum:=by unfold Func.isWrapper;first |(rw[if_pos (by decide+kernel)];kernel_rfl)|(rw[if_neg (by decide+kernel)];exact⟨rfl,rfl⟩)
theorem LO:ownKnob Tryz.prog.godebug=none:=by kernel_rfl
noncomputable def jP(os:Os):World:=World.laidAll Tryz.prog os Rows.modelScoresUptoRow.laid
def fg:Array Value:= #[.agg #[.int .i64 0,.int .i64 0,.int .i64 0,.int .i64 0,.int .i64 0,.int .i64 0,.slice none 0 0,.slice none 0 0,.slice none 0 0,.int .i64 0,.slice none 0 0,.slice none 0 0,.slice none 0 0,.slice none 0 0,.slice none 0 0,.slice none 0 0,.int .i64 0],.slice none 0 0]
theorem Hh(os:Os){H:Type}(enc:TypeId×Value→H):∃a,DataW.whole enc Tryz.prog ((jP os).forCall (fun _ _=>0) ⟨#[],fg,[]⟩).memory Tryz.f4.params.toList Rows.modelScoresSpec.vars false fg.toList 8=some ([.agg [.agg [.lit (.int .i64 0),.lit (.int .i64 0),.lit (.int .i64 0),.lit (.int .i64 0),.lit (.int .i64 0),.lit (.int .i64 0)],.agg [.nil,.nil],.nil,.lit (.int .i64 0),.nil,.nil,.nil,.nil,.nil,.nil,.lit (.int .i64 0)],.nil],[],a):=
 ⟨[],by kernel_rfl⟩
theorem LP(os:Os):laidMetH Tryz.prog Rows.modelScoresUptoRow.laid ((jP os).forCall (fun _ _=>0) ⟨#[],fg,[]⟩).memory:=by
 rw[MakeChecks.laidMetH_plain _ _ _ (by kernel_rfl)];exact laidMet_laidAll _ (by kernel_rfl) (by kernel_rfl)
theorem Ey(os:Os):((jP os).forCall (fun _ _=>0) ⟨#[],fg,[]⟩).Shaped Tryz.prog:=
 World.shaped_of_ZipB (by kernel_rfl) (by kernel_rfl)
theorem wS(os:Os):Input.okWideB Tryz.checked.prog ((jP os).forCall (fun _ _=>0) ⟨#[],fg,[]⟩) 4 ⟨#[],fg,[]⟩=true:=by kernel_rfl
theorem Hi(os:Os){H:Type}(enc:TypeId×Value→H):(Rows.OpenSpec.upto Rows.modelScoresSpec).bare.sizedB enc Tryz.prog Tryz.f4 false ((jP os).forCall (fun _ _=>0) ⟨#[],fg,[]⟩).memory fg 8=true:=by kernel_rfl
end Go.Proofs.YtpdgokkbljiccaaGreat
