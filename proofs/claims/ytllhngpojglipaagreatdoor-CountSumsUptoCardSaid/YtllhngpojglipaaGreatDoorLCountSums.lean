/- CountSums: the tapes of all outcomes are all tapes, each with one at least, and with draws for the whole budget none is short.
 On condition that all that is handed in has 2^20 values and letters at most (the row's own bound). -/
import Derived.Test.YtllhngpojglipaaGreatDoorXCountSums
import Derived.Test.YtllhngpojglipaaGreatDoorLCountSumsF
import Derived.Test.YtllhngpojglipaaGreatDoorCards
import Derived.KernelRfl
import Derived.Deep.DeepHandedRow
import Derived.LaidMore
import Derived.ChangeCalls
import Derived.JoinedCond
import Derived.Lay
import Derived.Test.YtllhngpojglipaaGreatDoorTie
import Derived.Test.YtllhngpojglipaaGreatDoorA4
import Derived.SevenTiedAt
import Derived.Test.YtllhngpojglipaaGreatDoorS
import Derived.Test.YtllhngpojglipaaGreatDoorP13
import Derived.Test.YtllhngpojglipaaGreatDoorP4
import Derived.Test.YtllhngpojglipaaGreatDoorP3
import Derived.Test.YtllhngpojglipaaGreatDoorP8
import Derived.Test.YtllhngpojglipaaGreatDoorP9
import Derived.Test.YtllhngpojglipaaGreatDoorD
set_option linter.unusedVariables false
set_option linter.unusedSimpArgs false
open List renaming map_cons→cb,sum_cons→cO
namespace Go.Proofs.YtllhngpojglipaaGreatDoor
open Go Go.Am Go.ChangeShapes Go.WideShapes Go.ChangeAt Go.RowKit
set_option maxRecDepth 100000
theorem arm{H:Type}(l:List (DataW H)):Rows.uptoBulkAll l=(l.map Rows.uptoBulk).sum:=by
 induction l with
 |nil=>rfl
 |cons d l a=>simp only[Rows.uptoBulkAll,cb,cO,a]
theorem aCC{H:Type}:Blk (H:=H) Rows.uptoBulk where
 lit l:=by cases l<;>simp[Rows.uptoBulk]
 str s:=by simp[Rows.uptoBulk]
 nil:=by simp[Rows.uptoBulk]
 slice a b:=by simp only[Rows.uptoBulk];rw[arm a];omega
 agg ps:=by simp only[Rows.uptoBulk];rw[arm ps];omega
theorem aAX(b:∀x:(jN (aeW 0).ps).den,Yp (jN (aeW 0).ps) x→bt (jN (aeW 0).ps) x≤1048576→∃n,ahJ n x=some true)(os:Os)(a:os.Started)(H:Type)(enc:TypeId×Value→H)(F:Stop.Interp):
  ReturnsInHanded {} Tryz.checked os 7 .any ((Rows.OpenSpec.upto Rows.countSumsSpec).preRow enc Tryz.prog Tryz.f7 Rows.countSumsUptoRow.domain false Rows.countSumsUptoRow.laid) (((Rows.OpenSpec.upto Rows.countSumsSpec).at F).post enc Tryz.prog Tryz.f7 false true false false):=by
 obtain⟨places,u⟩:=aBt os enc;refine returnsInHanded_of_row (C:=Tryz.checked) (s:=Rows.OpenSpec.upto Rows.countSumsSpec) aCA a (by kernel_rfl) Tryz.func7
  ⟨aqt os,fun _ _=>0,⟨#[],ajP,[]⟩,World.laidAll_os _ _ _,aAW os,(Input.okWide_of_okWideB (base:=0) (ayU os)).1,(Input.okWide_of_okWideB (ayU os)).2,
   OpenSpec.preRow_of_cond 8 u (by kernel_rfl) (fun k g=>by cases g;kernel_rfl) (aBu os enc) (aCB os),by
    simp only[Assume.holds];exact⟨by simp,by simp,fun _=>Modest.zero,by simp,by simp⟩⟩ ?_
 intro W base i e j d c l _ h _ _ _ _;have g:=h _ rfl;obtain⟨w,y,o,p,_,_,_⟩:=id l;have r:j=[]:=by
  cases j with
  |nil=>rfl
  |cons _ _=>exact p.elim
 subst r;have t:e.length=3:=(trodAll_length o).2;have q:(e.map Rows.uptoBulk).sum≤1048576:=by
  rw[←arm];have:=of_decide_eq_true g;simpa using this
 match e,t with
 |[d0,d1,d2],_=>
  exact Ux (P:=Tryz.prog) (τs:=(aeW 0).ps) (E:=fun n=>ahJ n) (tb:=4) (n:=12) aAc aCC aAl (by kernel_rfl) (by kernel_rfl) rfl (by kernel_rfl) rfl ⟨rfl,rfl,rfl⟩ c l q b
theorem axe(b:∀x:(jN (aeW 0).ps).den,Yp (jN (aeW 0).ps) x→bt (jN (aeW 0).ps) x≤1048576→∃n,ahJ n x=some true):Rows.CountSumsUptoSaid:=
 OpenClaim.holds_of_cond 7 Tryz.f7 rfl rfl rfl rfl rfl rfl rfl ⟨rfl,rfl,rfl,rfl,rfl⟩ rfl rfl rfl rfl rfl aC4 Tryz.func7 aAV aB7 aB8
  (fun os a H enc _ F=>by rw[OpenClaim.pre_eq_preRow];exact aAX b os a H enc F)
theorem aB9:Rows.CountSumsUptoSaid:=axe (fun x h b=>Pu.aBp x h b)
theorem countSums_holds:Rows.CountSumsUptoCardSaid:=
 Claim7.holds_tied_plain_at .later [] _ _ _ _ aB9 (fun _ h=>by cases h) (by kernel_rfl) (fun _ h=>by cases h) countSumsUpto_row_tie rfl ⟨rfl,rfl⟩ (by kernel_rfl) rfl aBv (by kernel_rfl)
end Go.Proofs.YtllhngpojglipaaGreatDoor
