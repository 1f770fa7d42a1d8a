/- CountProducts: the program's Product and Final answer what the document's do, and what is handed in stays.
 On condition that all that is handed in has 2^20 values and letters at most (the row's own bound). -/
import Derived.Test.YtllhngpojglipaaGreatDoorXCountProducts
import Derived.Test.YtllhngpojglipaaGreatDoorLCountProductsF
import Derived.Test.YtllhngpojglipaaGreatDoorCards
import Derived.KernelRfl
import Derived.Deep.DeepHandedRow
import Derived.LaidMore
import Derived.ChangeCalls
import Derived.JoinedCond
import Derived.Lay
import Derived.Test.YtllhngpojglipaaGreatDoorTie
import Derived.Test.YtllhngpojglipaaGreatDoorA4
import Derived.SevenTiedAt
import Derived.Test.YtllhngpojglipaaGreatDoorS
import Derived.Test.YtllhngpojglipaaGreatDoorP9
set_option linter.unusedVariables false
set_option linter.unusedSimpArgs false
open List renaming map_cons→cb,sum_cons→cO
namespace Go.Proofs.YtllhngpojglipaaGreatDoor
open Go Go.Am Go.ChangeShapes Go.WideShapes Go.ChangeAt Go.RowKit
set_option maxRecDepth 100000
theorem ou{H:Type}(l:List (DataW H)):Rows.uptoBulkAll l=(l.map Rows.uptoBulk).sum:=by
 induction l with
 |nil=>rfl
 |cons d l a=>simp only[Rows.uptoBulkAll,cb,cO,a]
theorem TZ{H:Type}:Blk (H:=H) Rows.uptoBulk where
 lit l:=by cases l<;>simp[Rows.uptoBulk]
 str s:=by simp[Rows.uptoBulk]
 nil:=by simp[Rows.uptoBulk]
 slice a b:=by simp only[Rows.uptoBulk];rw[ou a];omega
 agg ps:=by simp only[Rows.uptoBulk];rw[ou ps];omega
theorem LX(b:∀x:(jN (cB 0).ps).den,Yp (jN (cB 0).ps) x→bt (jN (cB 0).ps) x≤1048576→∃n,eB n x=some true)(os:Os)(a:os.Started)(H:Type)(enc:TypeId×Value→H)(F:Stop.Interp):
  ReturnsInHanded {} Tryz.checked os 3 .any ((Rows.OpenSpec.upto Rows.countProductsSpec).preRow enc Tryz.prog Tryz.f3 Rows.countProductsUptoRow.domain false Rows.countProductsUptoRow.laid) (((Rows.OpenSpec.upto Rows.countProductsSpec).at F).post enc Tryz.prog Tryz.f3 false true false false):=by
 obtain⟨places,u⟩:=MR os enc;refine returnsInHanded_of_row (C:=Tryz.checked) (s:=Rows.OpenSpec.upto Rows.countProductsSpec) TX a (by kernel_rfl) Tryz.func3
  ⟨kR os,fun _ _=>0,⟨#[],fL,[]⟩,World.laidAll_os _ _ _,LW os,(Input.okWide_of_okWideB (base:=0) (Bw os)).1,(Input.okWide_of_okWideB (Bw os)).2,
   OpenSpec.preRow_of_cond 8 u (by kernel_rfl) (fun k g=>by cases g;kernel_rfl) (MS os enc) (TY os),by
    simp only[Assume.holds];exact⟨by simp,by simp,fun _=>Modest.zero,by simp,by simp⟩⟩ ?_
 intro W base i e j d c l _ h _ _ _ _;have g:=h _ rfl;obtain⟨w,y,o,p,_,_,_⟩:=id l;have r:j=[]:=by
  cases j with
  |nil=>rfl
  |cons _ _=>exact p.elim
 subst r;have t:e.length=3:=(trodAll_length o).2;have q:(e.map Rows.uptoBulk).sum≤1048576:=by
  rw[←ou];have:=of_decide_eq_true g;simpa using this
 match e,t with
 |[d0,d1,d2],_=>
  exact Ux (P:=Tryz.prog) (τs:=(cB 0).ps) (E:=fun n=>eB n) (tb:=4) (n:=12) I5 TZ FN (by kernel_rfl) (by kernel_rfl) rfl (by kernel_rfl) rfl ⟨rfl,rfl,rfl⟩ c l q b
theorem vm(b:∀x:(jN (cB 0).ps).den,Yp (jN (cB 0).ps) x→bt (jN (cB 0).ps) x≤1048576→∃n,eB n x=some true):Rows.CountProductsUptoSaid:=
 OpenClaim.holds_of_cond 3 Tryz.f3 rfl rfl rfl rfl rfl rfl rfl ⟨rfl,rfl,rfl,rfl,rfl⟩ rfl rfl rfl rfl rfl WM Tryz.func3 LV P0 P1
  (fun os a H enc _ F=>by rw[OpenClaim.pre_eq_preRow];exact LX b os a H enc F)
theorem P2:Rows.CountProductsUptoSaid:=vm (fun x h b=>Pu.MQ x h b)
theorem countProducts_holds:Rows.CountProductsUptoCardSaid:=
 Claim7.holds_tied_plain_at .later [] _ _ _ _ P2 (fun _ h=>by cases h) (by kernel_rfl) (fun _ h=>by cases h) countProductsUpto_row_tie rfl ⟨rfl,rfl⟩ (by kernel_rfl) rfl MT (by kernel_rfl)
end Go.Proofs.YtllhngpojglipaaGreatDoor
