import Derived.Test.YtllhngpojglipaaGreatDoorCards
import Derived.KernelRfl
import Derived.Deep.DeepHandedRow
import Derived.LaidMore
import Derived.ChangeCalls
import Derived.JoinedCond
import Derived.Lay
set_option linter.unusedVariables false
set_option linter.unusedSimpArgs false
namespace Go.Proofs.YtllhngpojglipaaGreatDoor
open Go
set_option maxRecDepth 100000
theorem ayk{P:Program}{f:FuncId}{fn:Func}{s:ChangeSpec}{c:OpenClaim}(a:laidOutB P=true)(b:mapsRowed P=true)(d:(c.inPlace==P.inPlace f)=true)(e:(c.unfollowed==P.unfollowed f)=true)(g:(c.recurses==P.recurses f)=true)(i:(c.named==P.varsNamed f)=true)
  (h:(c.wf (OpenSpec.ofChange s)&&true&&true&&fn.params.all (P.readableRec ·)&&namedTie P c.named s.vars&&(c.stops==[])&&(P.stops==[])&&(c.knobs==[])&&(P.stopKnobs==[])&&true&&true&&true&&true&&(c.maps==(fn.params.toList++s.plain.varTypes P).any (P.mapsRec ·))&&(c.ifaces==(fn.params.toList++s.plain.varTypes P).any (P.ifacesRec ·))&&(c.mapsOut==P.mapsAmong fn.resultTypes.toList)&&(c.loops==(fn.params.toList++s.plain.varTypes P).any (P.loopsFrom ·))&&(c.wideKeys==(fn.params.toList++s.plain.varTypes P++fn.resultTypes.toList).any (P.wideKeysFrom ·))&&s.vars.all (P.varReadable ·)&&fn.resultTypes.all (fun t=>P.readableRec t&&decide (t<P.types.size))&&(c.ifacesOut==fn.resultTypes.toList.any (P.ifacesRec ·))&&(c.loopsOut==fn.resultTypes.toList.any (P.loopsFrom ·))&&(c.plainKeys==P.plainKeys)&&c.shortTexts.isNone&&P.stopsHeard&&P.mayEnter&&(c.lifted==P.liftsFinal)&&(P.make==some c.make)&&(c.kinds==(if c.domain.isEmpty then[]else fn.params.toList.map fun t=>match P.underlying t with |some (.int k)=>some k |_=>none))&&(c.pinned==c.pinnedBy)&&(c.veiled==(fn.params.toList++s.plain.varTypes P++fn.resultTypes.toList).any (P.veiledRec ·))&&c.veiledFits P fn.params.toList (fn.params.toList++s.plain.varTypes P++fn.resultTypes.toList))=true):joinedFacts P f fn s c=true:=by
 unfold joinedFacts;rw[a,b,d,e,g,i];exact h
theorem ayT:laidOutB Tryz.prog=true:=by kernel_rfl
theorem aB0:mapsRowed Tryz.prog=true:=by kernel_rfl
theorem aB1:(Rows.countSharesUptoRow.inPlace==Tryz.prog.inPlace 6)=true:=by kernel_rfl
theorem aB2:(Rows.countSharesUptoRow.unfollowed==Tryz.prog.unfollowed 6)=true:=by kernel_rfl
theorem aB3:(Rows.countSharesUptoRow.recurses==Tryz.prog.recurses 6)=true:=by kernel_rfl
theorem aB4:(Rows.countSharesUptoRow.named==Tryz.prog.varsNamed 6)=true:=by kernel_rfl
theorem azv:joinedFacts Tryz.pinned.checked.prog 6 Tryz.f6 (Rows.OpenSpec.upto Rows.countSharesSpec).bare Rows.countSharesUptoRow=true:=ayk ayT aB0 aB1 aB2 aB3 aB4 (by kernel_rfl)
theorem aB6:Tryz.pinned.checked.prog.funcNamed Rows.countSharesUptoRow.func=some 6:=by kernel_rfl
theorem aAS:Tryz.f6.isInstance Tryz.pinned.checked.prog Rows.countSharesUptoRow.origin Rows.countSharesUptoRow.targs:=of_decide_eq_true (by kernel_rfl)
theorem aAT:Tryz.f6.isWrapper Tryz.pinned.checked.prog Rows.countSharesUptoRow.wrapper Rows.countSharesUptoRow.mainSum:=by unfold Func.isWrapper;first |(rw[if_pos (by decide+kernel)];kernel_rfl)|(rw[if_neg (by decide+kernel)];exact⟨rfl,rfl⟩)
theorem aBq:ownKnob Tryz.prog.godebug=none:=by kernel_rfl
noncomputable def akL(os:Os):World:=World.laidAll Tryz.prog os Rows.countSharesUptoRow.laid
def ais:Array Value:= #[.agg #[.int .i64 0,.int .i64 0,.int .i64 0,.int .i64 0,.int .i64 0,.int .i64 0,.slice none 0 0,.slice none 0 0,.slice none 0 0,.int .i64 0,.slice none 0 0,.slice none 0 0,.slice none 0 0,.slice none 0 0,.slice none 0 0,.slice none 0 0,.int .i64 0],.agg #[.slice none 0 0,.int .i64 0,.int .i64 0,.int .i64 0,.int .i64 0,.int .i64 0,.slice none 0 0,.int .i64 0,.int .i64 0,.int .i64 0,.slice none 0 0,.slice none 0 0,.string ⟨#[]⟩],.agg #[.slice none 0 0,.int .i64 0]]
theorem aAi(os:Os){H:Type}(enc:TypeId×Value→H):∃places,DataW.whole enc Tryz.prog ((akL os).forCall (fun _ _=>0) ⟨#[],ais,[]⟩).memory Tryz.f6.params.toList Rows.countSharesSpec.vars false ais.toList 8=some ([.agg [.agg [.lit (.int .i64 0),.lit (.int .i64 0),.lit (.int .i64 0),.lit (.int .i64 0),.lit (.int .i64 0),.lit (.int .i64 0)],.agg [.nil,.nil],.nil,.lit (.int .i64 0),.nil,.nil,.nil,.nil,.nil,.nil,.lit (.int .i64 0)],.agg [.nil,.agg [.lit (.int .i64 0),.lit (.int .i64 0),.lit (.int .i64 0),.lit (.int .i64 0),.lit (.int .i64 0),.nil],.lit (.int .i64 0),.lit (.int .i64 0),.lit (.int .i64 0),.agg [.nil,.nil],.lit (.string [])],.agg [.nil,.lit (.int .i64 0)]],[],places):=
 ⟨[],by kernel_rfl⟩
theorem aBr(os:Os):laidMetH Tryz.prog Rows.countSharesUptoRow.laid ((akL os).forCall (fun _ _=>0) ⟨#[],ais,[]⟩).memory:=by
 rw[MakeChecks.laidMetH_plain _ _ _ (by kernel_rfl)];exact laidMet_laidAll _ (by kernel_rfl) (by kernel_rfl)
theorem azw(os:Os):((akL os).forCall (fun _ _=>0) ⟨#[],ais,[]⟩).Shaped Tryz.prog:=
 World.shaped_of_ZipB (by kernel_rfl) (by kernel_rfl)
theorem aw0(os:Os):Input.okWideB Tryz.checked.prog ((akL os).forCall (fun _ _=>0) ⟨#[],ais,[]⟩) 6 ⟨#[],ais,[]⟩=true:=by kernel_rfl
theorem aAj(os:Os){H:Type}(enc:TypeId×Value→H):(Rows.OpenSpec.upto Rows.countSharesSpec).bare.sizedB enc Tryz.prog Tryz.f6 false ((akL os).forCall (fun _ _=>0) ⟨#[],ais,[]⟩).memory ais 8=true:=by kernel_rfl
theorem aAk(f:FuncId)(fn:Func)(d:Tryz.pinned.checked.prog.funcNamed "herald/heraldlaw26.CountShares"=some f)(b:Tryz.pinned.checked.prog.funcs[f]? =some fn):
  false=Tryz.pinned.checked.prog.looks []∧∀(j:Nat) t,fn.params[j]? =some t→Tryz.pinned.checked.prog.wantsStandIn t=false:=by
 obtain rfl:f=6:=Option.some.inj ((show Tryz.prog.funcNamed "herald/heraldlaw26.CountShares"=some 6 by kernel_rfl).symm.trans d)|>.symm;obtain rfl:fn=Tryz.f6:=(Option.some.inj (Tryz.func6.symm.trans b)).symm;refine⟨by kernel_rfl,fun j t c=> ?_⟩;have g:Tryz.f6.params= #[31,41,76]:=by kernel_rfl
 rw[g]at c;have e:t∈[31,41,76]:=by simpa using Array.mem_of_getElem? c
 have a:([31,41,76].all fun u=> !Tryz.prog.wantsStandIn u)=true:=by kernel_rfl
 exact(show Tryz.prog.wantsStandIn t=false by simpa using List.all_eq_true.1 a t e)
end Go.Proofs.YtllhngpojglipaaGreatDoor
