import Derived.Test.YtllhngpojglipaaGreatDoorCards
import Derived.KernelRfl
import Derived.Deep.DeepHandedRow
import Derived.LaidMore
import Derived.ChangeCalls
import Derived.JoinedCond
import Derived.Lay
set_option linter.unusedVariables false
set_option linter.unusedSimpArgs false
namespace Go.Proofs.YtllhngpojglipaaGreatDoor
open Go
set_option maxRecDepth 100000
theorem LY{P:Program}{f:FuncId}{fn:Func}{s:ChangeSpec}{c:OpenClaim}(a:laidOutB P=true)(b:mapsRowed P=true)(d:(c.inPlace==P.inPlace f)=true)(e:(c.unfollowed==P.unfollowed f)=true)(g:(c.recurses==P.recurses f)=true)(i:(c.named==P.varsNamed f)=true)
  (h:(c.wf (OpenSpec.ofChange s)&&true&&true&&fn.params.all (P.readableRec ·)&&namedTie P c.named s.vars&&(c.stops==[])&&(P.stops==[])&&(c.knobs==[])&&(P.stopKnobs==[])&&true&&true&&true&&true&&(c.maps==(fn.params.toList++s.plain.varTypes P).any (P.mapsRec ·))&&(c.ifaces==(fn.params.toList++s.plain.varTypes P).any (P.ifacesRec ·))&&(c.mapsOut==P.mapsAmong fn.resultTypes.toList)&&(c.loops==(fn.params.toList++s.plain.varTypes P).any (P.loopsFrom ·))&&(c.wideKeys==(fn.params.toList++s.plain.varTypes P++fn.resultTypes.toList).any (P.wideKeysFrom ·))&&s.vars.all (P.varReadable ·)&&fn.resultTypes.all (fun t=>P.readableRec t&&decide (t<P.types.size))&&(c.ifacesOut==fn.resultTypes.toList.any (P.ifacesRec ·))&&(c.loopsOut==fn.resultTypes.toList.any (P.loopsFrom ·))&&(c.plainKeys==P.plainKeys)&&c.shortTexts.isNone&&P.stopsHeard&&P.mayEnter&&(c.lifted==P.liftsFinal)&&(P.make==some c.make)&&(c.kinds==(if c.domain.isEmpty then[]else fn.params.toList.map fun t=>match P.underlying t with |some (.int k)=>some k |_=>none))&&(c.pinned==c.pinnedBy)&&(c.veiled==(fn.params.toList++s.plain.varTypes P++fn.resultTypes.toList).any (P.veiledRec ·))&&c.veiledFits P fn.params.toList (fn.params.toList++s.plain.varTypes P++fn.resultTypes.toList))=true):joinedFacts P f fn s c=true:=by
 unfold joinedFacts;rw[a,b,d,e,g,i];exact h
theorem OI:laidOutB Tryz.prog=true:=by kernel_rfl
theorem agn:mapsRowed Tryz.prog=true:=by kernel_rfl
theorem ago:(Rows.countTapesUptoRow.inPlace==Tryz.prog.inPlace 4)=true:=by kernel_rfl
theorem agp:(Rows.countTapesUptoRow.unfollowed==Tryz.prog.unfollowed 4)=true:=by kernel_rfl
theorem agq:(Rows.countTapesUptoRow.recurses==Tryz.prog.recurses 4)=true:=by kernel_rfl
theorem agr:(Rows.countTapesUptoRow.named==Tryz.prog.varsNamed 4)=true:=by kernel_rfl
theorem T0:joinedFacts Tryz.pinned.checked.prog 4 Tryz.f4 (Rows.OpenSpec.upto Rows.countTapesSpec).bare Rows.countTapesUptoRow=true:=LY OI agn ago agp agq agr (by kernel_rfl)
theorem ags:Tryz.pinned.checked.prog.funcNamed Rows.countTapesUptoRow.func=some 4:=by kernel_rfl
theorem aaQ:Tryz.f4.isInstance Tryz.pinned.checked.prog Rows.countTapesUptoRow.origin Rows.countTapesUptoRow.targs:=of_decide_eq_true (by kernel_rfl)
theorem aaR:Tryz.f4.isWrapper Tryz.pinned.checked.prog Rows.countTapesUptoRow.wrapper Rows.countTapesUptoRow.mainSum:=by unfold Func.isWrapper;first |(rw[if_pos (by decide+kernel)];kernel_rfl)|(rw[if_neg (by decide+kernel)];exact⟨rfl,rfl⟩)
theorem aeN:ownKnob Tryz.prog.godebug=none:=by kernel_rfl
noncomputable def pN(os:Os):World:=World.laidAll Tryz.prog os Rows.countTapesUptoRow.laid
def jH:Array Value:= #[.agg #[.int .i64 0,.int .i64 0,.int .i64 0,.int .i64 0,.int .i64 0,.int .i64 0,.slice none 0 0,.slice none 0 0,.slice none 0 0,.int .i64 0,.slice none 0 0,.slice none 0 0,.slice none 0 0,.slice none 0 0,.slice none 0 0,.slice none 0 0,.int .i64 0],.agg #[.slice none 0 0,.int .i64 0,.int .i64 0,.int .i64 0,.int .i64 0,.int .i64 0,.slice none 0 0,.int .i64 0,.int .i64 0,.int .i64 0,.slice none 0 0,.slice none 0 0,.string ⟨#[]⟩],.agg #[.slice none 0 0,.int .i64 0]]
theorem WN(os:Os){H:Type}(enc:TypeId×Value→H):∃places,DataW.whole enc Tryz.prog ((pN os).forCall (fun _ _=>0) ⟨#[],jH,[]⟩).memory Tryz.f4.params.toList Rows.countTapesSpec.vars false jH.toList 8=some ([.agg [.agg [.lit (.int .i64 0),.lit (.int .i64 0),.lit (.int .i64 0),.lit (.int .i64 0),.lit (.int .i64 0),.lit (.int .i64 0)],.agg [.nil,.nil],.nil,.lit (.int .i64 0),.nil,.nil,.nil,.nil,.nil,.nil,.lit (.int .i64 0)],.agg [.nil,.agg [.lit (.int .i64 0),.lit (.int .i64 0),.lit (.int .i64 0),.lit (.int .i64 0),.lit (.int .i64 0),.nil],.lit (.int .i64 0),.lit (.int .i64 0),.lit (.int .i64 0),.agg [.nil,.nil],.lit (.string [])],.agg [.nil,.lit (.int .i64 0)]],[],places):=
 ⟨[],by kernel_rfl⟩
theorem aeO(os:Os):laidMetH Tryz.prog Rows.countTapesUptoRow.laid ((pN os).forCall (fun _ _=>0) ⟨#[],jH,[]⟩).memory:=by
 rw[MakeChecks.laidMetH_plain _ _ _ (by kernel_rfl)];exact laidMet_laidAll _ (by kernel_rfl) (by kernel_rfl)
theorem T6(os:Os):((pN os).forCall (fun _ _=>0) ⟨#[],jH,[]⟩).Shaped Tryz.prog:=
 World.shaped_of_ZipB (by kernel_rfl) (by kernel_rfl)
theorem IX(os:Os):Input.okWideB Tryz.checked.prog ((pN os).forCall (fun _ _=>0) ⟨#[],jH,[]⟩) 4 ⟨#[],jH,[]⟩=true:=by kernel_rfl
theorem WO(os:Os){H:Type}(enc:TypeId×Value→H):(Rows.OpenSpec.upto Rows.countTapesSpec).bare.sizedB enc Tryz.prog Tryz.f4 false ((pN os).forCall (fun _ _=>0) ⟨#[],jH,[]⟩).memory jH 8=true:=by kernel_rfl
theorem WP(f:FuncId)(fn:Func)(d:Tryz.pinned.checked.prog.funcNamed "herald/heraldlaw26.CountTapes"=some f)(b:Tryz.pinned.checked.prog.funcs[f]? =some fn):
  false=Tryz.pinned.checked.prog.looks []∧∀(j:Nat) t,fn.params[j]? =some t→Tryz.pinned.checked.prog.wantsStandIn t=false:=by
 obtain rfl:f=4:=Option.some.inj ((show Tryz.prog.funcNamed "herald/heraldlaw26.CountTapes"=some 4 by kernel_rfl).symm.trans d)|>.symm;obtain rfl:fn=Tryz.f4:=(Option.some.inj (Tryz.func4.symm.trans b)).symm;refine⟨by kernel_rfl,fun j t c=> ?_⟩;have g:Tryz.f4.params= #[31,41,76]:=by kernel_rfl
 rw[g]at c;have e:t∈[31,41,76]:=by simpa using Array.mem_of_getElem? c
 have a:([31,41,76].all fun u=> !Tryz.prog.wantsStandIn u)=true:=by kernel_rfl
 exact(show Tryz.prog.wantsStandIn t=false by simpa using List.all_eq_true.1 a t e)
end Go.Proofs.YtllhngpojglipaaGreatDoor
