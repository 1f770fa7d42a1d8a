/- CountShares: the program's Share answers what the document's does, and of a final row it is its tapes over all tapes.
 On condition that all that is handed in has 2^20 values and letters at most (the row's own bound). -/
import Derived.Test.YtllhngpojglipaaGreatDoorXCountShares
import Derived.Test.YtllhngpojglipaaGreatDoorLCountSharesF
import Derived.Test.YtllhngpojglipaaGreatDoorCards
import Derived.KernelRfl
import Derived.Deep.DeepHandedRow
import Derived.LaidMore
import Derived.ChangeCalls
import Derived.JoinedCond
import Derived.Lay
import Derived.Test.YtllhngpojglipaaGreatDoorTie
import Derived.Test.YtllhngpojglipaaGreatDoorA4
import Derived.SevenTiedAt
import Derived.Test.YtllhngpojglipaaGreatDoorS
import Derived.Test.YtllhngpojglipaaGreatDoorP4
import Derived.Test.YtllhngpojglipaaGreatDoorP3
import Derived.Test.YtllhngpojglipaaGreatDoorP8
import Derived.Test.YtllhngpojglipaaGreatDoorP9
import Derived.Test.YtllhngpojglipaaGreatDoorD
set_option linter.unusedVariables false
set_option linter.unusedSimpArgs false
open List renaming map_cons→cb,sum_cons→cO
namespace Go.Proofs.YtllhngpojglipaaGreatDoor
open Go Go.Am Go.ChangeShapes Go.WideShapes Go.ChangeAt Go.RowKit
set_option maxRecDepth 100000
theorem amB{H:Type}(l:List (DataW H)):Rows.uptoBulkAll l=(l.map Rows.uptoBulk).sum:=by
 induction l with
 |nil=>rfl
 |cons d l a=>simp only[Rows.uptoBulkAll,cb,cO,a]
theorem aBs{H:Type}:Blk (H:=H) Rows.uptoBulk where
 lit l:=by cases l<;>simp[Rows.uptoBulk]
 str s:=by simp[Rows.uptoBulk]
 nil:=by simp[Rows.uptoBulk]
 slice a b:=by simp only[Rows.uptoBulk];rw[amB a];omega
 agg ps:=by simp only[Rows.uptoBulk];rw[amB ps];omega
theorem azx(b:∀x:(jN (acR 0).ps).den,Yp (jN (acR 0).ps) x→bt (jN (acR 0).ps) x≤1048576→∃n,agR n x=some true)(os:Os)(a:os.Started)(H:Type)(enc:TypeId×Value→H)(F:Stop.Interp):
  ReturnsInHanded {} Tryz.checked os 6 .any ((Rows.OpenSpec.upto Rows.countSharesSpec).preRow enc Tryz.prog Tryz.f6 Rows.countSharesUptoRow.domain false Rows.countSharesUptoRow.laid) (((Rows.OpenSpec.upto Rows.countSharesSpec).at F).post enc Tryz.prog Tryz.f6 false true false false):=by
 obtain⟨places,u⟩:=aAi os enc;refine returnsInHanded_of_row (C:=Tryz.checked) (s:=Rows.OpenSpec.upto Rows.countSharesSpec) aBq a (by kernel_rfl) Tryz.func6
  ⟨akL os,fun _ _=>0,⟨#[],ais,[]⟩,World.laidAll_os _ _ _,azw os,(Input.okWide_of_okWideB (base:=0) (aw0 os)).1,(Input.okWide_of_okWideB (aw0 os)).2,
   OpenSpec.preRow_of_cond 8 u (by kernel_rfl) (fun k g=>by cases g;kernel_rfl) (aAj os enc) (aBr os),by
    simp only[Assume.holds];exact⟨by simp,by simp,fun _=>Modest.zero,by simp,by simp⟩⟩ ?_
 intro W base i e j d c l _ h _ _ _ _;have g:=h _ rfl;obtain⟨w,y,o,p,_,_,_⟩:=id l;have r:j=[]:=by
  cases j with
  |nil=>rfl
  |cons _ _=>exact p.elim
 subst r;have t:e.length=3:=(trodAll_length o).2;have q:(e.map Rows.uptoBulk).sum≤1048576:=by
  rw[←amB];have:=of_decide_eq_true g;simpa using this
 match e,t with
 |[d0,d1,d2],_=>
  exact Ux (P:=Tryz.prog) (τs:=(acR 0).ps) (E:=fun n=>agR n) (tb:=4) (n:=12) ayY aBs ayT (by kernel_rfl) (by kernel_rfl) rfl (by kernel_rfl) rfl ⟨rfl,rfl,rfl⟩ c l q b
theorem avk(b:∀x:(jN (acR 0).ps).den,Yp (jN (acR 0).ps) x→bt (jN (acR 0).ps) x≤1048576→∃n,agR n x=some true):Rows.CountSharesUptoSaid:=
 OpenClaim.holds_of_cond 6 Tryz.f6 rfl rfl rfl rfl rfl rfl rfl ⟨rfl,rfl,rfl,rfl,rfl⟩ rfl rfl rfl rfl rfl aB6 Tryz.func6 azv aAS aAT
  (fun os a H enc _ F=>by rw[OpenClaim.pre_eq_preRow];exact azx b os a H enc F)
theorem aAU:Rows.CountSharesUptoSaid:=avk (fun x h b=>Pu.aAh x h b)
theorem countShares_holds:Rows.CountSharesUptoCardSaid:=
 Claim7.holds_tied_plain_at .later [] _ _ _ _ aAU (fun _ h=>by cases h) (by kernel_rfl) (fun _ h=>by cases h) countSharesUpto_row_tie rfl ⟨rfl,rfl⟩ (by kernel_rfl) rfl aAk (by kernel_rfl)
end Go.Proofs.YtllhngpojglipaaGreatDoor
