/- ModelScores: the scores of a context are those of the document.
 On condition that all that is handed in has 2^20 values and letters at most (the row's own bound). -/
import Derived.Test.YtpdgokkbljiccaaGreatXModelScores
import Derived.Test.YtpdgokkbljiccaaGreatLModelScoresF
import Derived.Test.YtpdgokkbljiccaaGreatRows
import Derived.Test.YtpdgokkbljiccaaGreatChecked
import Derived.KernelRfl
import Derived.Deep.DeepHandedRow
import Derived.LaidMore
import Derived.ChangeCalls
import Derived.JoinedCond
import Derived.Lay
import Derived.Test.YtpdgokkbljiccaaGreatA4
import Derived.Test.YtpdgokkbljiccaaGreatS
import Derived.Test.YtpdgokkbljiccaaGreatP7
set_option linter.unusedVariables false
set_option linter.unusedSimpArgs false
open List renaming map_cons→bo
namespace Go.Proofs.YtpdgokkbljiccaaGreat
open Go Go.Am Go.ChangeShapes Go.WideShapes Go.ChangeAt Go.RowKit
set_option maxRecDepth 100000
theorem kO{H:Type}(l:List (DataW H)):Rows.uptoBulkAll l=(l.map Rows.uptoBulk).sum:=by
 induction l with
 |nil=>rfl
 |cons d l a=>simp only[Rows.uptoBulkAll,bo,List.sum_cons,a]
theorem LQ{H:Type}:Blk (H:=H) Rows.uptoBulk where
 lit l:=by cases l<;>simp[Rows.uptoBulk]
 str s:=by simp[Rows.uptoBulk]
 nil:=by simp[Rows.uptoBulk]
 slice a b:=by simp only[Rows.uptoBulk];rw[kO a];omega
 agg ps:=by simp only[Rows.uptoBulk];rw[kO ps];omega
theorem Ez(b:∀x:(g6 (ch 0).ps).den,OW (g6 (ch 0).ps) x→bB (g6 (ch 0).ps) x≤1048576→∃n,dG n x=some true)(os:Os)(a:os.Started)(H:Type)(enc:TypeId×Value→H)(F:Stop.Interp):
  ReturnsInHanded {} Tryz.checked os 4 .any ((Rows.OpenSpec.upto Rows.modelScoresSpec).preRow enc Tryz.prog Tryz.f4 Rows.modelScoresUptoRow.domain false Rows.modelScoresUptoRow.laid) (((Rows.OpenSpec.upto Rows.modelScoresSpec).at F).post enc Tryz.prog Tryz.f4 false true false false):=by
 obtain⟨g,y⟩:=Hh os enc;refine returnsInHanded_of_row (C:=Tryz.checked) (s:=Rows.OpenSpec.upto Rows.modelScoresSpec) LO a (by kernel_rfl) Tryz.func4
  ⟨jP os,fun _ _=>0,⟨#[],fg,[]⟩,World.laidAll_os _ _ _,Ey os,(Input.okWide_of_okWideB (base:=0) (wS os)).1,(Input.okWide_of_okWideB (wS os)).2,
   OpenSpec.preRow_of_cond 8 y (by kernel_rfl) (fun k i=>by cases i;kernel_rfl) (Hi os enc) (LP os),by
    simp only[Assume.holds];exact⟨by simp,by simp,fun _=>Modest.zero,by simp,by simp⟩⟩ ?_
 intro W base l h o d c p _ j _ _ _ _;have i:=j _ rfl;obtain⟨z,B,q,r,_,_,_⟩:=id p;have u:o=[]:=by
  cases o with
  |nil=>rfl
  |cons _ _=>exact r.elim
 subst u;have w:h.length=2:=(trodAll_length q).2;have t:(h.map Rows.uptoBulk).sum≤1048576:=by
  rw[←kO];have:=of_decide_eq_true i;simpa using this
 match h,w with
 |[d0,d1],_=>
  exact QE (P:=Tryz.prog) (τs:=(ch 0).ps) (E:=fun n=>dG n) (tb:=4) (n:=12) Ca LQ Bz (by kernel_rfl) (by kernel_rfl) rfl (by kernel_rfl) rfl ⟨rfl,rfl,rfl⟩ c p t b
theorem sU(b:∀x:(g6 (ch 0).ps).den,OW (g6 (ch 0).ps) x→bB (g6 (ch 0).ps) x≤1048576→∃n,dG n x=some true):Rows.ModelScoresUptoSaid:=
 OpenClaim.holds_of_cond 4 Tryz.f4 rfl rfl rfl rfl rfl rfl rfl ⟨rfl,rfl,rfl,rfl,rfl⟩ rfl rfl rfl rfl rfl OS Tryz.func4 Ew Jd Je
  (fun os a H enc _ F=>by rw[OpenClaim.pre_eq_preRow];exact Ez b os a H enc F)
theorem modelScores_holds:Rows.ModelScoresUptoSaid:=sU (fun x h b=>Pu.Hg x h b)
end Go.Proofs.YtpdgokkbljiccaaGreat
