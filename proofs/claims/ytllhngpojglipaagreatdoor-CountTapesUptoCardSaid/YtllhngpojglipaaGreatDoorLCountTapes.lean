/- CountTapes: the program's Tapes answers what the document's does.
 On condition that all that is handed in has 2^20 values and letters at most (the row's own bound). -/
import Derived.Test.YtllhngpojglipaaGreatDoorXCountTapes
import Derived.Test.YtllhngpojglipaaGreatDoorLCountTapesF
import Derived.Test.YtllhngpojglipaaGreatDoorCards
import Derived.KernelRfl
import Derived.Deep.DeepHandedRow
import Derived.LaidMore
import Derived.ChangeCalls
import Derived.JoinedCond
import Derived.Lay
import Derived.Test.YtllhngpojglipaaGreatDoorTie
import Derived.Test.YtllhngpojglipaaGreatDoorA4
import Derived.SevenTiedAt
import Derived.Test.YtllhngpojglipaaGreatDoorS
import Derived.Test.YtllhngpojglipaaGreatDoorP9
set_option linter.unusedVariables false
set_option linter.unusedSimpArgs false
open List renaming map_cons→cb,sum_cons→cO
namespace Go.Proofs.YtllhngpojglipaaGreatDoor
open Go Go.Am Go.ChangeShapes Go.WideShapes Go.ChangeAt Go.RowKit
set_option maxRecDepth 100000
theorem rF{H:Type}(l:List (DataW H)):Rows.uptoBulkAll l=(l.map Rows.uptoBulk).sum:=by
 induction l with
 |nil=>rfl
 |cons d l a=>simp only[Rows.uptoBulkAll,cb,cO,a]
theorem aeP{H:Type}:Blk (H:=H) Rows.uptoBulk where
 lit l:=by cases l<;>simp[Rows.uptoBulk]
 str s:=by simp[Rows.uptoBulk]
 nil:=by simp[Rows.uptoBulk]
 slice a b:=by simp only[Rows.uptoBulk];rw[rF a];omega
 agg ps:=by simp only[Rows.uptoBulk];rw[rF ps];omega
theorem T7(b:∀x:(jN (dw 0).ps).den,Yp (jN (dw 0).ps) x→bt (jN (dw 0).ps) x≤1048576→∃n,fU n x=some true)(os:Os)(a:os.Started)(H:Type)(enc:TypeId×Value→H)(F:Stop.Interp):
  ReturnsInHanded {} Tryz.checked os 4 .any ((Rows.OpenSpec.upto Rows.countTapesSpec).preRow enc Tryz.prog Tryz.f4 Rows.countTapesUptoRow.domain false Rows.countTapesUptoRow.laid) (((Rows.OpenSpec.upto Rows.countTapesSpec).at F).post enc Tryz.prog Tryz.f4 false true false false):=by
 obtain⟨places,u⟩:=WN os enc;refine returnsInHanded_of_row (C:=Tryz.checked) (s:=Rows.OpenSpec.upto Rows.countTapesSpec) aeN a (by kernel_rfl) Tryz.func4
  ⟨pN os,fun _ _=>0,⟨#[],jH,[]⟩,World.laidAll_os _ _ _,T6 os,(Input.okWide_of_okWideB (base:=0) (IX os)).1,(Input.okWide_of_okWideB (IX os)).2,
   OpenSpec.preRow_of_cond 8 u (by kernel_rfl) (fun k g=>by cases g;kernel_rfl) (WO os enc) (aeO os),by
    simp only[Assume.holds];exact⟨by simp,by simp,fun _=>Modest.zero,by simp,by simp⟩⟩ ?_
 intro W base i e j d c l _ h _ _ _ _;have g:=h _ rfl;obtain⟨w,y,o,p,_,_,_⟩:=id l;have r:j=[]:=by
  cases j with
  |nil=>rfl
  |cons _ _=>exact p.elim
 subst r;have t:e.length=3:=(trodAll_length o).2;have q:(e.map Rows.uptoBulk).sum≤1048576:=by
  rw[←rF];have:=of_decide_eq_true g;simpa using this
 match e,t with
 |[d0,d1,d2],_=>
  exact Ux (P:=Tryz.prog) (τs:=(dw 0).ps) (E:=fun n=>fU n) (tb:=4) (n:=12) PL aeP OI (by kernel_rfl) (by kernel_rfl) rfl (by kernel_rfl) rfl ⟨rfl,rfl,rfl⟩ c l q b
theorem Ee(b:∀x:(jN (dw 0).ps).den,Yp (jN (dw 0).ps) x→bt (jN (dw 0).ps) x≤1048576→∃n,fU n x=some true):Rows.CountTapesUptoSaid:=
 OpenClaim.holds_of_cond 4 Tryz.f4 rfl rfl rfl rfl rfl rfl rfl ⟨rfl,rfl,rfl,rfl,rfl⟩ rfl rfl rfl rfl rfl ags Tryz.func4 T0 aaQ aaR
  (fun os a H enc _ F=>by rw[OpenClaim.pre_eq_preRow];exact T7 b os a H enc F)
theorem aaS:Rows.CountTapesUptoSaid:=Ee (fun x h b=>Pu.WE x h b)
theorem countTapes_holds:Rows.CountTapesUptoCardSaid:=
 Claim7.holds_tied_plain_at .later [] _ _ _ _ aaS (fun _ h=>by cases h) (by kernel_rfl) (fun _ h=>by cases h) countTapesUpto_row_tie rfl ⟨rfl,rfl⟩ (by kernel_rfl) rfl WP (by kernel_rfl)
end Go.Proofs.YtllhngpojglipaaGreatDoor
