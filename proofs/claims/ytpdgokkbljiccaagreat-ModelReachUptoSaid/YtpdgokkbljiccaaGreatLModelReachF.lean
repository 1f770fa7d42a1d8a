import Derived.Test.YtpdgokkbljiccaaGreatRows
import Derived.Test.YtpdgokkbljiccaaGreatChecked
import Derived.KernelRfl
import Derived.Deep.DeepHandedRow
import Derived.LaidMore
import Derived.ChangeCalls
import Derived.JoinedCond
import Derived.Lay
set_option linter.unusedVariables false
set_option linter.unusedSimpArgs false
namespace Go.Proofs.YtpdgokkbljiccaaGreat
open Go
set_option maxRecDepth 100000
theorem BA{P:Program}{f:FuncId}{fn:Func}{s:ChangeSpec}{c:OpenClaim}(a:laidOutB P=true)(b:mapsRowed P=true)(d:(c.inPlace==P.inPlace f)=true)(g:(c.unfollowed==P.unfollowed f)=true)(i:(c.recurses==P.recurses f)=true)(j:(c.named==P.varsNamed f)=true)
  (h:(c.wf (OpenSpec.ofChange s)&&true&&true&&fn.params.all (P.readableRec ·)&&namedTie P c.named s.vars&&(c.stops==[])&&(P.stops==[])&&(c.knobs==[])&&(P.stopKnobs==[])&&true&&true&&true&&true&&(c.maps==(fn.params.toList++s.plain.varTypes P).any (P.mapsRec ·))&&(c.ifaces==(fn.params.toList++s.plain.varTypes P).any (P.ifacesRec ·))&&(c.mapsOut==P.mapsAmong fn.resultTypes.toList)&&(c.loops==(fn.params.toList++s.plain.varTypes P).any (P.loopsFrom ·))&&(c.wideKeys==(fn.params.toList++s.plain.varTypes P++fn.resultTypes.toList).any (P.wideKeysFrom ·))&&s.vars.all (P.varReadable ·)&&fn.resultTypes.all (fun t=>P.readableRec t&&decide (t<P.types.size))&&(c.ifacesOut==fn.resultTypes.toList.any (P.ifacesRec ·))&&(c.loopsOut==fn.resultTypes.toList.any (P.loopsFrom ·))&&(c.plainKeys==P.plainKeys)&&c.shortTexts.isNone&&P.stopsHeard&&P.mayEnter&&(c.lifted==P.liftsFinal)&&(P.make==some c.make)&&(c.kinds==(if c.domain.isEmpty then[]else fn.params.toList.map fun t=>match P.underlying t with |some (.int k)=>some k |_=>none))&&(c.pinned==c.pinnedBy)&&(c.veiled==(fn.params.toList++s.plain.varTypes P++fn.resultTypes.toList).any (P.veiledRec ·))&&c.veiledFits P fn.params.toList (fn.params.toList++s.plain.varTypes P++fn.resultTypes.toList))=true):joinedFacts P f fn s c=true:=by
 unfold joinedFacts;rw[a,b,d,g,i,j];exact h
theorem Dw:laidOutB Tryz.prog=true:=by kernel_rfl
theorem P4:mapsRowed Tryz.prog=true:=by kernel_rfl
theorem P5:(Rows.modelReachUptoRow.inPlace==Tryz.prog.inPlace 5)=true:=by kernel_rfl
theorem P8:(Rows.modelReachUptoRow.unfollowed==Tryz.prog.unfollowed 5)=true:=by kernel_rfl
theorem P9:(Rows.modelReachUptoRow.recurses==Tryz.prog.recurses 5)=true:=by kernel_rfl
theorem Qa:(Rows.modelReachUptoRow.named==Tryz.prog.varsNamed 5)=true:=by kernel_rfl
theorem Hj:joinedFacts Tryz.pinned.checked.prog 5 Tryz.f5 (Rows.OpenSpec.upto Rows.modelReachSpec).bare Rows.modelReachUptoRow=true:=BA Dw P4 P5 P8 P9 Qa (by kernel_rfl)
theorem Qb:Tryz.pinned.checked.prog.funcNamed Rows.modelReachUptoRow.func=some 5:=by kernel_rfl
theorem LR:Tryz.f5.isInstance Tryz.pinned.checked.prog Rows.modelReachUptoRow.origin Rows.modelReachUptoRow.targs:=of_decide_eq_true (by kernel_rfl)
theorem LU:Tryz.f5.isWrapper Tryz.pinned.checked.prog Rows.modelReachUptoRow.wrapper Rows.modelReachUptoRow.mainSum:=by unfold Func.isWrapper;first |(rw[if_pos (by decide+kernel)];kernel_rfl)|(rw[if_neg (by decide+kernel)];exact⟨rfl,rfl⟩)
theorem OT:ownKnob Tryz.prog.godebug=none:=by kernel_rfl
noncomputable def kE(os:Os):World:=World.laidAll Tryz.prog os Rows.modelReachUptoRow.laid
def fT:Array Value:= #[.agg #[.int .i64 0,.int .i64 0,.int .i64 0,.int .i64 0,.int .i64 0,.int .i64 0,.slice none 0 0,.slice none 0 0,.slice none 0 0,.int .i64 0,.slice none 0 0,.slice none 0 0,.slice none 0 0,.slice none 0 0,.slice none 0 0,.slice none 0 0,.int .i64 0],.slice none 0 0]
theorem Jf(os:Os){H:Type}(enc:TypeId×Value→H):∃a,DataW.whole enc Tryz.prog ((kE os).forCall (fun _ _=>0) ⟨#[],fT,[]⟩).memory Tryz.f5.params.toList Rows.modelReachSpec.vars false fT.toList 8=some ([.agg [.agg [.lit (.int .i64 0),.lit (.int .i64 0),.lit (.int .i64 0),.lit (.int .i64 0),.lit (.int .i64 0),.lit (.int .i64 0)],.agg [.nil,.nil],.nil,.lit (.int .i64 0),.nil,.nil,.nil,.nil,.nil,.nil,.lit (.int .i64 0)],.nil],[],a):=
 ⟨[],by kernel_rfl⟩
theorem OU(os:Os):laidMetH Tryz.prog Rows.modelReachUptoRow.laid ((kE os).forCall (fun _ _=>0) ⟨#[],fT,[]⟩).memory:=by
 rw[MakeChecks.laidMetH_plain _ _ _ (by kernel_rfl)];exact laidMet_laidAll _ (by kernel_rfl) (by kernel_rfl)
theorem Hk(os:Os):((kE os).forCall (fun _ _=>0) ⟨#[],fT,[]⟩).Shaped Tryz.prog:=
 World.shaped_of_ZipB (by kernel_rfl) (by kernel_rfl)
theorem zj(os:Os):Input.okWideB Tryz.checked.prog ((kE os).forCall (fun _ _=>0) ⟨#[],fT,[]⟩) 5 ⟨#[],fT,[]⟩=true:=by kernel_rfl
theorem Jg(os:Os){H:Type}(enc:TypeId×Value→H):(Rows.OpenSpec.upto Rows.modelReachSpec).bare.sizedB enc Tryz.prog Tryz.f5 false ((kE os).forCall (fun _ _=>0) ⟨#[],fT,[]⟩).memory fT 8=true:=by kernel_rfl
end Go.Proofs.YtpdgokkbljiccaaGreat
