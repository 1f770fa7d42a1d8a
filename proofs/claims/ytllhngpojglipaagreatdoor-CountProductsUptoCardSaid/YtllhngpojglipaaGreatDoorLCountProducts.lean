/- CountProducts: the program's Product and Final answer what the document's do, and what is handed in stays.
On condition that all that is handed in has 2^20 values and letters at most (the row's own bound). -/
import Derived.Test.YtllhngpojglipaaGreatDoorLCountProductsF
import Derived.Test.YtllhngpojglipaaGreatDoorTie
import Derived.Test.YtllhngpojglipaaGreatDoorA9
import Derived.SevenTiedAt
import Derived.Test.YtllhngpojglipaaGreatDoorS2
import Derived.Test.YtllhngpojglipaaGreatDoorP22
set_option linter.unusedVariables false
set_option linter.unusedSimpArgs false
open List renaming map_cons→cj,sum_cons→dS
namespace Go.Proofs.YtllhngpojglipaaGreatDoor
open Go Go.Am Go.ChangeShapes Go.WideShapes Go.ChangeAt Go.RowKit
set_option maxRecDepth 100000
theorem pe{H:Type}(l:List (DataW H)):Rows.uptoBulkAll l=(l.map Rows.uptoBulk).sum:=by
 induction l with
 |nil=>rfl
 |cons d l ih=>simp only[Rows.uptoBulkAll,cj,dS,ih]
theorem UR{H:Type}:Blk (H:=H) Rows.uptoBulk where
 lit l:=by cases l<;>simp[Rows.uptoBulk]
 str s:=by simp[Rows.uptoBulk]
 nil:=by simp[Rows.uptoBulk]
 slice es sp:=by simp only[Rows.uptoBulk];rw[pe es];omega
 agg ps:=by simp only[Rows.uptoBulk];rw[pe ps];omega
theorem MH(plain:∀x:(lO (cF 0).ps).den,wfT (lO (cF 0).ps) x→bC (lO (cF 0).ps) x≤1048576→∃n,eO n x=some true)(os:Os)(started:os.Started)(H:Type)(enc:TypeId×Value→H)(F:Stop.Interp):
  ReturnsInHanded {} Tryz.checked os 3 .any ((Rows.OpenSpec.upto Rows.countProductsSpec).preRow enc Tryz.prog Tryz.f3 Rows.countProductsUptoRow.domain false Rows.countProductsUptoRow.laid) (((Rows.OpenSpec.upto Rows.countProductsSpec).at F).post enc Tryz.prog Tryz.f3 false true false false):=by
 obtain⟨places,hx⟩:=NB os enc;refine returnsInHanded_of_row (C:=Tryz.checked) (s:=Rows.OpenSpec.upto Rows.countProductsSpec) UP started (by kernel_rfl) Tryz.func3
  ⟨lp os,fun _ _=>0,⟨#[],ga,[]⟩,World.laidAll_os _ _ _,MG os,(Input.okWide_of_okWideB (base:=0) (Ch os)).1,(Input.okWide_of_okWideB (Ch os)).2,
   OpenSpec.preRow_of_cond 8 hx (by kernel_rfl) (fun k hk=>by cases hk;kernel_rfl) (NC os enc) (UQ os),by
    simp only[Assume.holds];exact⟨by simp,by simp,fun _=>Modest.zero,by simp,by simp⟩⟩ ?_
 intro W base args ds gs before hval hW _ hk0 _ _ _ _;have hk:=hk0 _ rfl;obtain⟨pa,pv,hA,hV,_,_,_⟩:=id hW;have hg:gs=[]:=by
  cases gs with
  |nil=>rfl
  |cons _ _=>exact hV.elim
 subst hg;have hl:ds.length=3:=(trodAll_length hA).2;have hb:(ds.map Rows.uptoBulk).sum≤1048576:=by
  rw[←pe];have:=of_decide_eq_true hk;simpa using this
 match ds,hl with
 |[d0,d1,d2],_=>
  exact ahX (P:=Tryz.prog) (τs:=(cF 0).ps) (E:=fun n=>eO n) (tb:=4) (n:=12) JN UR GF (by kernel_rfl) (by kernel_rfl) rfl (by kernel_rfl) rfl ⟨rfl,rfl,rfl⟩ hval hW hb plain
theorem wh(plain:∀x:(lO (cF 0).ps).den,wfT (lO (cF 0).ps) x→bC (lO (cF 0).ps) x≤1048576→∃n,eO n x=some true):Rows.CountProductsUptoSaid:=
 OpenClaim.holds_of_cond 3 Tryz.f3 rfl rfl rfl rfl rfl rfl rfl ⟨rfl,rfl,rfl,rfl,rfl⟩ rfl rfl rfl rfl rfl Xu Tryz.func3 MF QN QO
  (fun os started H enc _ F=>by rw[OpenClaim.pre_eq_preRow];exact MH plain os started H enc F)
theorem QP:Rows.CountProductsUptoSaid:=wh (fun x h b=>Pu.NA x h b)
theorem countProducts_holds:Rows.CountProductsUptoCardSaid:=
 Claim7.holds_tied_plain_at .later [] _ _ _ _ QP (fun _ h=>by cases h) (by kernel_rfl) (fun _ h=>by cases h) countProductsUpto_row_tie rfl ⟨rfl,rfl⟩ (by kernel_rfl) rfl ND (by kernel_rfl)
end Go.Proofs.YtllhngpojglipaaGreatDoor
