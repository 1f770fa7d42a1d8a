/- CountTapes: the program's Tapes answers what the document's does.
On condition that all that is handed in has 2^20 values and letters at most (the row's own bound). -/
import Derived.Test.YtllhngpojglipaaGreatDoorLCountTapesF
import Derived.Test.YtllhngpojglipaaGreatDoorTie
import Derived.Test.YtllhngpojglipaaGreatDoorA9
import Derived.SevenTiedAt
import Derived.Test.YtllhngpojglipaaGreatDoorS2
import Derived.Test.YtllhngpojglipaaGreatDoorP22
set_option linter.unusedVariables false
set_option linter.unusedSimpArgs false
open List renaming map_cons→cj,sum_cons→dS
namespace Go.Proofs.YtllhngpojglipaaGreatDoor
open Go Go.Am Go.ChangeShapes Go.WideShapes Go.ChangeAt Go.RowKit
set_option maxRecDepth 100000
theorem sr{H:Type}(l:List (DataW H)):Rows.uptoBulkAll l=(l.map Rows.uptoBulk).sum:=by
 induction l with
 |nil=>rfl
 |cons d l ih=>simp only[Rows.uptoBulkAll,cj,dS,ih]
theorem afJ{H:Type}:Blk (H:=H) Rows.uptoBulk where
 lit l:=by cases l<;>simp[Rows.uptoBulk]
 str s:=by simp[Rows.uptoBulk]
 nil:=by simp[Rows.uptoBulk]
 slice es sp:=by simp only[Rows.uptoBulk];rw[sr es];omega
 agg ps:=by simp only[Rows.uptoBulk];rw[sr ps];omega
theorem UU(plain:∀x:(lO (dB 0).ps).den,wfT (lO (dB 0).ps) x→bC (lO (dB 0).ps) x≤1048576→∃n,gv n x=some true)(os:Os)(started:os.Started)(H:Type)(enc:TypeId×Value→H)(F:Stop.Interp):
  ReturnsInHanded {} Tryz.checked os 4 .any ((Rows.OpenSpec.upto Rows.countTapesSpec).preRow enc Tryz.prog Tryz.f4 Rows.countTapesUptoRow.domain false Rows.countTapesUptoRow.laid) (((Rows.OpenSpec.upto Rows.countTapesSpec).at F).post enc Tryz.prog Tryz.f4 false true false false):=by
 obtain⟨places,hx⟩:=Xv os enc;refine returnsInHanded_of_row (C:=Tryz.checked) (s:=Rows.OpenSpec.upto Rows.countTapesSpec) afH started (by kernel_rfl) Tryz.func4
  ⟨qp os,fun _ _=>0,⟨#[],jX,[]⟩,World.laidAll_os _ _ _,UT os,(Input.okWide_of_okWideB (base:=0) (JF os)).1,(Input.okWide_of_okWideB (JF os)).2,
   OpenSpec.preRow_of_cond 8 hx (by kernel_rfl) (fun k hk=>by cases hk;kernel_rfl) (Xw os enc) (afI os),by
    simp only[Assume.holds];exact⟨by simp,by simp,fun _=>Modest.zero,by simp,by simp⟩⟩ ?_
 intro W base args ds gs before hval hW _ hk0 _ _ _ _;have hk:=hk0 _ rfl;obtain⟨pa,pv,hA,hV,_,_,_⟩:=id hW;have hg:gs=[]:=by
  cases gs with
  |nil=>rfl
  |cons _ _=>exact hV.elim
 subst hg;have hl:ds.length=3:=(trodAll_length hA).2;have hb:(ds.map Rows.uptoBulk).sum≤1048576:=by
  rw[←sr];have:=of_decide_eq_true hk;simpa using this
 match ds,hl with
 |[d0,d1,d2],_=>
  exact ahX (P:=Tryz.prog) (τs:=(dB 0).ps) (E:=fun n=>gv n) (tb:=4) (n:=12) Qz afJ Pz (by kernel_rfl) (by kernel_rfl) rfl (by kernel_rfl) rfl ⟨rfl,rfl,rfl⟩ hval hW hb plain
theorem E0(plain:∀x:(lO (dB 0).ps).den,wfT (lO (dB 0).ps) x→bC (lO (dB 0).ps) x≤1048576→∃n,gv n x=some true):Rows.CountTapesUptoSaid:=
 OpenClaim.holds_of_cond 4 Tryz.f4 rfl rfl rfl rfl rfl rfl rfl ⟨rfl,rfl,rfl,rfl,rfl⟩ rfl rfl rfl rfl rfl ahu Tryz.func4 US aby abz
  (fun os started H enc _ F=>by rw[OpenClaim.pre_eq_preRow];exact UU plain os started H enc F)
theorem abA:Rows.CountTapesUptoSaid:=E0 (fun x h b=>Pu.Xo x h b)
theorem countTapes_holds:Rows.CountTapesUptoCardSaid:=
 Claim7.holds_tied_plain_at .later [] _ _ _ _ abA (fun _ h=>by cases h) (by kernel_rfl) (fun _ h=>by cases h) countTapesUpto_row_tie rfl ⟨rfl,rfl⟩ (by kernel_rfl) rfl Xx (by kernel_rfl)
end Go.Proofs.YtllhngpojglipaaGreatDoor
