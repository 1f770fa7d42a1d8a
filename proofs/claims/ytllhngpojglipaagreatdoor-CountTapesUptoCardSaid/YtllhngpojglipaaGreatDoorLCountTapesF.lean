import Derived.Test.YtllhngpojglipaaGreatDoorCards
import Derived.KernelRfl
import Derived.Deep.DeepHandedRow
import Derived.LaidMore
import Derived.ChangeCalls
import Derived.JoinedCond
import Derived.Lay
set_option linter.unusedVariables false
set_option linter.unusedSimpArgs false
namespace Go.Proofs.YtllhngpojglipaaGreatDoor
open Go
set_option maxRecDepth 100000
theorem MI{P:Program}{f:FuncId}{fn:Func}{s:ChangeSpec}{c:OpenClaim}(h1:laidOutB P=true)(h2:mapsRowed P=true)(h3:(c.inPlace==P.inPlace f)=true)(h4:(c.unfollowed==P.unfollowed f)=true)(h5:(c.recurses==P.recurses f)=true)(h6:(c.named==P.varsNamed f)=true)
  (h:(c.wf (OpenSpec.ofChange s)&&true&&true&&fn.params.all (P.readableRec ·)&&namedTie P c.named s.vars&&(c.stops==[])&&(P.stops==[])&&(c.knobs==[])&&(P.stopKnobs==[])&&true&&true&&true&&true&&(c.maps==(fn.params.toList++s.plain.varTypes P).any (P.mapsRec ·))&&(c.ifaces==(fn.params.toList++s.plain.varTypes P).any (P.ifacesRec ·))&&(c.mapsOut==P.mapsAmong fn.resultTypes.toList)&&(c.loops==(fn.params.toList++s.plain.varTypes P).any (P.loopsFrom ·))&&(c.wideKeys==(fn.params.toList++s.plain.varTypes P++fn.resultTypes.toList).any (P.wideKeysFrom ·))&&s.vars.all (P.varReadable ·)&&fn.resultTypes.all (fun t=>P.readableRec t&&decide (t<P.types.size))&&(c.ifacesOut==fn.resultTypes.toList.any (P.ifacesRec ·))&&(c.loopsOut==fn.resultTypes.toList.any (P.loopsFrom ·))&&(c.plainKeys==P.plainKeys)&&c.shortTexts.isNone&&P.stopsHeard&&P.mayEnter&&(c.lifted==P.liftsFinal)&&(P.make==some c.make)&&(c.kinds==(if c.domain.isEmpty then[]else fn.params.toList.map fun t=>match P.underlying t with |some (.int k)=>some k |_=>none))&&(c.pinned==c.pinnedBy)&&(c.veiled==(fn.params.toList++s.plain.varTypes P++fn.resultTypes.toList).any (P.veiledRec ·))&&c.veiledFits P fn.params.toList (fn.params.toList++s.plain.varTypes P++fn.resultTypes.toList))=true):joinedFacts P f fn s c=true:=by
 unfold joinedFacts;rw[h1,h2,h3,h4,h5,h6];exact h
theorem Pz:laidOutB Tryz.prog=true:=by kernel_rfl
theorem ahp:mapsRowed Tryz.prog=true:=by kernel_rfl
theorem ahq:(Rows.countTapesUptoRow.inPlace==Tryz.prog.inPlace 4)=true:=by kernel_rfl
theorem ahr:(Rows.countTapesUptoRow.unfollowed==Tryz.prog.unfollowed 4)=true:=by kernel_rfl
theorem ahs:(Rows.countTapesUptoRow.recurses==Tryz.prog.recurses 4)=true:=by kernel_rfl
theorem aht:(Rows.countTapesUptoRow.named==Tryz.prog.varsNamed 4)=true:=by kernel_rfl
theorem US:joinedFacts Tryz.pinned.checked.prog 4 Tryz.f4 (Rows.OpenSpec.upto Rows.countTapesSpec).bare Rows.countTapesUptoRow=true:=MI Pz ahp ahq ahr ahs aht (by kernel_rfl)
theorem ahu:Tryz.pinned.checked.prog.funcNamed Rows.countTapesUptoRow.func=some 4:=by kernel_rfl
theorem aby:Tryz.f4.isInstance Tryz.pinned.checked.prog Rows.countTapesUptoRow.origin Rows.countTapesUptoRow.targs:=of_decide_eq_true (by kernel_rfl)
theorem abz:Tryz.f4.isWrapper Tryz.pinned.checked.prog Rows.countTapesUptoRow.wrapper Rows.countTapesUptoRow.mainSum:=by unfold Func.isWrapper;first |(rw[if_pos (by decide+kernel)];kernel_rfl)|(rw[if_neg (by decide+kernel)];exact⟨rfl,rfl⟩)
theorem afH:ownKnob Tryz.prog.godebug=none:=by kernel_rfl
noncomputable def qp(os:Os):World:=World.laidAll Tryz.prog os Rows.countTapesUptoRow.laid
def jX:Array Value:= #[.agg #[.int .i64 0,.int .i64 0,.int .i64 0,.int .i64 0,.int .i64 0,.int .i64 0,.slice none 0 0,.slice none 0 0,.slice none 0 0,.int .i64 0,.slice none 0 0,.slice none 0 0,.slice none 0 0,.slice none 0 0,.slice none 0 0,.slice none 0 0,.int .i64 0],.agg #[.slice none 0 0,.int .i64 0,.int .i64 0,.int .i64 0,.int .i64 0,.int .i64 0,.slice none 0 0,.int .i64 0,.int .i64 0,.int .i64 0,.slice none 0 0,.slice none 0 0,.string ⟨#[]⟩],.agg #[.slice none 0 0,.int .i64 0]]
theorem Xv(os:Os){H:Type}(enc:TypeId×Value→H):∃places,DataW.whole enc Tryz.prog ((qp os).forCall (fun _ _=>0) ⟨#[],jX,[]⟩).memory Tryz.f4.params.toList Rows.countTapesSpec.vars false jX.toList 8=some ([.agg [.agg [.lit (.int .i64 0),.lit (.int .i64 0),.lit (.int .i64 0),.lit (.int .i64 0),.lit (.int .i64 0),.lit (.int .i64 0)],.agg [.nil,.nil],.nil,.lit (.int .i64 0),.nil,.nil,.nil,.nil,.nil,.nil,.lit (.int .i64 0)],.agg [.nil,.agg [.lit (.int .i64 0),.lit (.int .i64 0),.lit (.int .i64 0),.lit (.int .i64 0),.lit (.int .i64 0),.nil],.lit (.int .i64 0),.lit (.int .i64 0),.lit (.int .i64 0),.agg [.nil,.nil],.lit (.string [])],.agg [.nil,.lit (.int .i64 0)]],[],places):=
 ⟨[],by kernel_rfl⟩
theorem afI(os:Os):laidMetH Tryz.prog Rows.countTapesUptoRow.laid ((qp os).forCall (fun _ _=>0) ⟨#[],jX,[]⟩).memory:=by
 rw[MakeChecks.laidMetH_plain _ _ _ (by kernel_rfl)];exact laidMet_laidAll _ (by kernel_rfl) (by kernel_rfl)
theorem UT(os:Os):((qp os).forCall (fun _ _=>0) ⟨#[],jX,[]⟩).Shaped Tryz.prog:=
 World.shaped_of_ZipB (by kernel_rfl) (by kernel_rfl)
theorem JF(os:Os):Input.okWideB Tryz.checked.prog ((qp os).forCall (fun _ _=>0) ⟨#[],jX,[]⟩) 4 ⟨#[],jX,[]⟩=true:=by kernel_rfl
theorem Xw(os:Os){H:Type}(enc:TypeId×Value→H):(Rows.OpenSpec.upto Rows.countTapesSpec).bare.sizedB enc Tryz.prog Tryz.f4 false ((qp os).forCall (fun _ _=>0) ⟨#[],jX,[]⟩).memory jX 8=true:=by kernel_rfl
theorem Xx(f:FuncId)(fn:Func)(hf:Tryz.pinned.checked.prog.funcNamed "herald/heraldlaw26.CountTapes"=some f)(hfn:Tryz.pinned.checked.prog.funcs[f]? =some fn):
  false=Tryz.pinned.checked.prog.looks []∧∀(j:Nat) t,fn.params[j]? =some t→Tryz.pinned.checked.prog.wantsStandIn t=false:=by
 obtain rfl:f=4:=Option.some.inj ((show Tryz.prog.funcNamed "herald/heraldlaw26.CountTapes"=some 4 by kernel_rfl).symm.trans hf)|>.symm;obtain rfl:fn=Tryz.f4:=(Option.some.inj (Tryz.func4.symm.trans hfn)).symm;refine⟨by kernel_rfl,fun j t ht=> ?_⟩;have hp:Tryz.f4.params= #[31,41,76]:=by kernel_rfl
 rw[hp]at ht;have hm:t∈[31,41,76]:=by simpa using Array.mem_of_getElem? ht
 have hall:([31,41,76].all fun u=> !Tryz.prog.wantsStandIn u)=true:=by kernel_rfl
 exact(show Tryz.prog.wantsStandIn t=false by simpa using List.all_eq_true.1 hall t hm)
end Go.Proofs.YtllhngpojglipaaGreatDoor
