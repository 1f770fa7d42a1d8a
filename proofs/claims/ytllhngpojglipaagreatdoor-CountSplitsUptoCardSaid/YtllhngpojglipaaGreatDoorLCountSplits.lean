/- CountSplits: the tapes of a row that can be gone on with are those of all rows of one token more, if the tape has a draw more.
 On condition that all that is handed in has 2^20 values and letters at most (the row's own bound). -/
import Derived.Test.YtllhngpojglipaaGreatDoorXCountSplits
import Derived.Test.YtllhngpojglipaaGreatDoorLCountSplitsF
import Derived.Test.YtllhngpojglipaaGreatDoorCards
import Derived.KernelRfl
import Derived.Deep.DeepHandedRow
import Derived.LaidMore
import Derived.ChangeCalls
import Derived.JoinedCond
import Derived.Lay
import Derived.Test.YtllhngpojglipaaGreatDoorTie
import Derived.Test.YtllhngpojglipaaGreatDoorA4
import Derived.SevenTiedAt
import Derived.Test.YtllhngpojglipaaGreatDoorS
import Derived.Test.YtllhngpojglipaaGreatDoorP8
import Derived.Test.YtllhngpojglipaaGreatDoorP4
import Derived.Test.YtllhngpojglipaaGreatDoorP9
import Derived.Test.YtllhngpojglipaaGreatDoorD
set_option linter.unusedVariables false
set_option linter.unusedSimpArgs false
open List renaming map_cons→cb,sum_cons→cO
namespace Go.Proofs.YtllhngpojglipaaGreatDoor
open Go Go.Am Go.ChangeShapes Go.WideShapes Go.ChangeAt Go.RowKit
set_option maxRecDepth 100000
theorem qa{H:Type}(l:List (DataW H)):Rows.uptoBulkAll l=(l.map Rows.uptoBulk).sum:=by
 induction l with
 |nil=>rfl
 |cons d l a=>simp only[Rows.uptoBulkAll,cb,cO,a]
theorem aaV{H:Type}:Blk (H:=H) Rows.uptoBulk where
 lit l:=by cases l<;>simp[Rows.uptoBulk]
 str s:=by simp[Rows.uptoBulk]
 nil:=by simp[Rows.uptoBulk]
 slice a b:=by simp only[Rows.uptoBulk];rw[qa a];omega
 agg ps:=by simp only[Rows.uptoBulk];rw[qa ps];omega
theorem P5(b:∀x:(jN (dk 0).ps).den,Yp (jN (dk 0).ps) x→bt (jN (dk 0).ps) x≤1048576→∃n,fr n x=some true)(os:Os)(a:os.Started)(H:Type)(enc:TypeId×Value→H)(F:Stop.Interp):
  ReturnsInHanded {} Tryz.checked os 5 .any ((Rows.OpenSpec.upto Rows.countSplitsSpec).preRow enc Tryz.prog Tryz.f5 Rows.countSplitsUptoRow.domain false Rows.countSplitsUptoRow.laid) (((Rows.OpenSpec.upto Rows.countSplitsSpec).at F).post enc Tryz.prog Tryz.f5 false true false false):=by
 obtain⟨places,u⟩:=T8 os enc;refine returnsInHanded_of_row (C:=Tryz.checked) (s:=Rows.OpenSpec.upto Rows.countSplitsSpec) aaT a (by kernel_rfl) Tryz.func5
  ⟨om os,fun _ _=>0,⟨#[],iP,[]⟩,World.laidAll_os _ _ _,P4 os,(Input.okWide_of_okWideB (base:=0) (FO os)).1,(Input.okWide_of_okWideB (FO os)).2,
   OpenSpec.preRow_of_cond 8 u (by kernel_rfl) (fun k g=>by cases g;kernel_rfl) (Ua os enc) (aaU os),by
    simp only[Assume.holds];exact⟨by simp,by simp,fun _=>Modest.zero,by simp,by simp⟩⟩ ?_
 intro W base i e j d c l _ h _ _ _ _;have g:=h _ rfl;obtain⟨w,y,o,p,_,_,_⟩:=id l;have r:j=[]:=by
  cases j with
  |nil=>rfl
  |cons _ _=>exact p.elim
 subst r;have t:e.length=3:=(trodAll_length o).2;have q:(e.map Rows.uptoBulk).sum≤1048576:=by
  rw[←qa];have:=of_decide_eq_true g;simpa using this
 match e,t with
 |[d0,d1,d2],_=>
  exact Ux (P:=Tryz.prog) (τs:=(dk 0).ps) (E:=fun n=>fr n) (tb:=4) (n:=12) MI aaV LZ (by kernel_rfl) (by kernel_rfl) rfl (by kernel_rfl) rfl ⟨rfl,rfl,rfl⟩ c l q b
theorem Bv(b:∀x:(jN (dk 0).ps).den,Yp (jN (dk 0).ps) x→bt (jN (dk 0).ps) x≤1048576→∃n,fr n x=some true):Rows.CountSplitsUptoSaid:=
 OpenClaim.holds_of_cond 5 Tryz.f5 rfl rfl rfl rfl rfl rfl rfl ⟨rfl,rfl,rfl,rfl,rfl⟩ rfl rfl rfl rfl rfl aeV Tryz.func5 P3 WQ WR
  (fun os a H enc _ F=>by rw[OpenClaim.pre_eq_preRow];exact P5 b os a H enc F)
theorem WS:Rows.CountSplitsUptoSaid:=Bv (fun x h b=>Pu.TW x h b)
theorem countSplits_holds:Rows.CountSplitsUptoCardSaid:=
 Claim7.holds_tied_plain_at .later [] _ _ _ _ WS (fun _ h=>by cases h) (by kernel_rfl) (fun _ h=>by cases h) countSplitsUpto_row_tie rfl ⟨rfl,rfl⟩ (by kernel_rfl) rfl Ub (by kernel_rfl)
end Go.Proofs.YtllhngpojglipaaGreatDoor
