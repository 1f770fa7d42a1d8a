import Derived.Test.YtllhngpojglipaaGreatDoorCards
import Derived.KernelRfl
import Derived.Deep.DeepHandedRow
import Derived.LaidMore
import Derived.ChangeCalls
import Derived.JoinedCond
import Derived.Lay
set_option linter.unusedVariables false
set_option linter.unusedSimpArgs false
namespace Go.Proofs.YtllhngpojglipaaGreatDoor
open Go
set_option maxRecDepth 100000
theorem GD{P:Program}{f:FuncId}{fn:Func}{s:ChangeSpec}{c:OpenClaim}(h1:laidOutB P=true)(h2:mapsRowed P=true)(h3:(c.inPlace==P.inPlace f)=true)(h4:(c.unfollowed==P.unfollowed f)=true)(h5:(c.recurses==P.recurses f)=true)(h6:(c.named==P.varsNamed f)=true)
  (h:(c.wf (OpenSpec.ofChange s)&&true&&true&&fn.params.all (P.readableRec ·)&&namedTie P c.named s.vars&&(c.stops==[])&&(P.stops==[])&&(c.knobs==[])&&(P.stopKnobs==[])&&true&&true&&true&&true&&(c.maps==(fn.params.toList++s.plain.varTypes P).any (P.mapsRec ·))&&(c.ifaces==(fn.params.toList++s.plain.varTypes P).any (P.ifacesRec ·))&&(c.mapsOut==P.mapsAmong fn.resultTypes.toList)&&(c.loops==(fn.params.toList++s.plain.varTypes P).any (P.loopsFrom ·))&&(c.wideKeys==(fn.params.toList++s.plain.varTypes P++fn.resultTypes.toList).any (P.wideKeysFrom ·))&&s.vars.all (P.varReadable ·)&&fn.resultTypes.all (fun t=>P.readableRec t&&decide (t<P.types.size))&&(c.ifacesOut==fn.resultTypes.toList.any (P.ifacesRec ·))&&(c.loopsOut==fn.resultTypes.toList.any (P.loopsFrom ·))&&(c.plainKeys==P.plainKeys)&&c.shortTexts.isNone&&P.stopsHeard&&P.mayEnter&&(c.lifted==P.liftsFinal)&&(P.make==some c.make)&&(c.kinds==(if c.domain.isEmpty then[]else fn.params.toList.map fun t=>match P.underlying t with |some (.int k)=>some k |_=>none))&&(c.pinned==c.pinnedBy)&&(c.veiled==(fn.params.toList++s.plain.varTypes P++fn.resultTypes.toList).any (P.veiledRec ·))&&c.veiledFits P fn.params.toList (fn.params.toList++s.plain.varTypes P++fn.resultTypes.toList))=true):joinedFacts P f fn s c=true:=by
 unfold joinedFacts;rw[h1,h2,h3,h4,h5,h6];exact h
theorem GF:laidOutB Tryz.prog=true:=by kernel_rfl
theorem Xp:mapsRowed Tryz.prog=true:=by kernel_rfl
theorem Xq:(Rows.countProductsUptoRow.inPlace==Tryz.prog.inPlace 3)=true:=by kernel_rfl
theorem Xr:(Rows.countProductsUptoRow.unfollowed==Tryz.prog.unfollowed 3)=true:=by kernel_rfl
theorem Xs:(Rows.countProductsUptoRow.recurses==Tryz.prog.recurses 3)=true:=by kernel_rfl
theorem Xt:(Rows.countProductsUptoRow.named==Tryz.prog.varsNamed 3)=true:=by kernel_rfl
theorem MF:joinedFacts Tryz.pinned.checked.prog 3 Tryz.f3 (Rows.OpenSpec.upto Rows.countProductsSpec).bare Rows.countProductsUptoRow=true:=GD GF Xp Xq Xr Xs Xt (by kernel_rfl)
theorem Xu:Tryz.pinned.checked.prog.funcNamed Rows.countProductsUptoRow.func=some 3:=by kernel_rfl
theorem QN:Tryz.f3.isInstance Tryz.pinned.checked.prog Rows.countProductsUptoRow.origin Rows.countProductsUptoRow.targs:=of_decide_eq_true (by kernel_rfl)
theorem QO:Tryz.f3.isWrapper Tryz.pinned.checked.prog Rows.countProductsUptoRow.wrapper Rows.countProductsUptoRow.mainSum:=by unfold Func.isWrapper;first |(rw[if_pos (by decide+kernel)];kernel_rfl)|(rw[if_neg (by decide+kernel)];exact⟨rfl,rfl⟩)
theorem UP:ownKnob Tryz.prog.godebug=none:=by kernel_rfl
noncomputable def lp(os:Os):World:=World.laidAll Tryz.prog os Rows.countProductsUptoRow.laid
def ga:Array Value:= #[.agg #[.int .i64 0,.int .i64 0,.int .i64 0,.int .i64 0,.int .i64 0,.int .i64 0,.slice none 0 0,.slice none 0 0,.slice none 0 0,.int .i64 0,.slice none 0 0,.slice none 0 0,.slice none 0 0,.slice none 0 0,.slice none 0 0,.slice none 0 0,.int .i64 0],.agg #[.slice none 0 0,.int .i64 0,.int .i64 0,.int .i64 0,.int .i64 0,.int .i64 0,.slice none 0 0,.int .i64 0,.int .i64 0,.int .i64 0,.slice none 0 0,.slice none 0 0,.string ⟨#[]⟩],.slice none 0 0]
theorem NB(os:Os){H:Type}(enc:TypeId×Value→H):∃places,DataW.whole enc Tryz.prog ((lp os).forCall (fun _ _=>0) ⟨#[],ga,[]⟩).memory Tryz.f3.params.toList Rows.countProductsSpec.vars false ga.toList 8=some ([.agg [.agg [.lit (.int .i64 0),.lit (.int .i64 0),.lit (.int .i64 0),.lit (.int .i64 0),.lit (.int .i64 0),.lit (.int .i64 0)],.agg [.nil,.nil],.nil,.lit (.int .i64 0),.nil,.nil,.nil,.nil,.nil,.nil,.lit (.int .i64 0)],.agg [.nil,.agg [.lit (.int .i64 0),.lit (.int .i64 0),.lit (.int .i64 0),.lit (.int .i64 0),.lit (.int .i64 0),.nil],.lit (.int .i64 0),.lit (.int .i64 0),.lit (.int .i64 0),.agg [.nil,.nil],.lit (.string [])],.nil],[],places):=
 ⟨[],by kernel_rfl⟩
theorem UQ(os:Os):laidMetH Tryz.prog Rows.countProductsUptoRow.laid ((lp os).forCall (fun _ _=>0) ⟨#[],ga,[]⟩).memory:=by
 rw[MakeChecks.laidMetH_plain _ _ _ (by kernel_rfl)];exact laidMet_laidAll _ (by kernel_rfl) (by kernel_rfl)
theorem MG(os:Os):((lp os).forCall (fun _ _=>0) ⟨#[],ga,[]⟩).Shaped Tryz.prog:=
 World.shaped_of_ZipB (by kernel_rfl) (by kernel_rfl)
theorem Ch(os:Os):Input.okWideB Tryz.checked.prog ((lp os).forCall (fun _ _=>0) ⟨#[],ga,[]⟩) 3 ⟨#[],ga,[]⟩=true:=by kernel_rfl
theorem NC(os:Os){H:Type}(enc:TypeId×Value→H):(Rows.OpenSpec.upto Rows.countProductsSpec).bare.sizedB enc Tryz.prog Tryz.f3 false ((lp os).forCall (fun _ _=>0) ⟨#[],ga,[]⟩).memory ga 8=true:=by kernel_rfl
theorem ND(f:FuncId)(fn:Func)(hf:Tryz.pinned.checked.prog.funcNamed "herald/heraldlaw26.CountProducts"=some f)(hfn:Tryz.pinned.checked.prog.funcs[f]? =some fn):
  false=Tryz.pinned.checked.prog.looks []∧∀(j:Nat) t,fn.params[j]? =some t→Tryz.pinned.checked.prog.wantsStandIn t=false:=by
 obtain rfl:f=3:=Option.some.inj ((show Tryz.prog.funcNamed "herald/heraldlaw26.CountProducts"=some 3 by kernel_rfl).symm.trans hf)|>.symm;obtain rfl:fn=Tryz.f3:=(Option.some.inj (Tryz.func3.symm.trans hfn)).symm;refine⟨by kernel_rfl,fun j t ht=> ?_⟩;have hp:Tryz.f3.params= #[31,41,32]:=by kernel_rfl
 rw[hp]at ht;have hm:t∈[31,41,32]:=by simpa using Array.mem_of_getElem? ht
 have hall:([31,41,32].all fun u=> !Tryz.prog.wantsStandIn u)=true:=by kernel_rfl
 exact(show Tryz.prog.wantsStandIn t=false by simpa using List.all_eq_true.1 hall t hm)
end Go.Proofs.YtllhngpojglipaaGreatDoor
