/- ModelReach: every row of a valid model stays within its reach, and scores within 2^21.
 On condition that all that is handed in has 2^20 values and letters at most (the row's own bound). -/
import Derived.Test.YtpdgokkbljiccaaGreatXModelReach
import Derived.Test.YtpdgokkbljiccaaGreatLModelReachF
import Derived.Test.YtpdgokkbljiccaaGreatRows
import Derived.Test.YtpdgokkbljiccaaGreatChecked
import Derived.KernelRfl
import Derived.Deep.DeepHandedRow
import Derived.LaidMore
import Derived.ChangeCalls
import Derived.JoinedCond
import Derived.Lay
import Derived.Test.YtpdgokkbljiccaaGreatA4
import Derived.Test.YtpdgokkbljiccaaGreatS
import Derived.Test.YtpdgokkbljiccaaGreatP7
set_option linter.unusedVariables false
set_option linter.unusedSimpArgs false
open List renaming map_cons→bo
namespace Go.Proofs.YtpdgokkbljiccaaGreat
open Go Go.Am Go.ChangeShapes Go.WideShapes Go.ChangeAt Go.RowKit
set_option maxRecDepth 100000
theorem lT{H:Type}(l:List (DataW H)):Rows.uptoBulkAll l=(l.map Rows.uptoBulk).sum:=by
 induction l with
 |nil=>rfl
 |cons d l a=>simp only[Rows.uptoBulkAll,bo,List.sum_cons,a]
theorem OV{H:Type}:Blk (H:=H) Rows.uptoBulk where
 lit l:=by cases l<;>simp[Rows.uptoBulk]
 str s:=by simp[Rows.uptoBulk]
 nil:=by simp[Rows.uptoBulk]
 slice a b:=by simp only[Rows.uptoBulk];rw[lT a];omega
 agg ps:=by simp only[Rows.uptoBulk];rw[lT ps];omega
theorem Hl(b:∀x:(g6 (cv 0).ps).den,OW (g6 (cv 0).ps) x→bB (g6 (cv 0).ps) x≤1048576→∃n,dY n x=some true)(os:Os)(a:os.Started)(H:Type)(enc:TypeId×Value→H)(F:Stop.Interp):
  ReturnsInHanded {} Tryz.checked os 5 .any ((Rows.OpenSpec.upto Rows.modelReachSpec).preRow enc Tryz.prog Tryz.f5 Rows.modelReachUptoRow.domain false Rows.modelReachUptoRow.laid) (((Rows.OpenSpec.upto Rows.modelReachSpec).at F).post enc Tryz.prog Tryz.f5 false true false false):=by
 obtain⟨g,y⟩:=Jf os enc;refine returnsInHanded_of_row (C:=Tryz.checked) (s:=Rows.OpenSpec.upto Rows.modelReachSpec) OT a (by kernel_rfl) Tryz.func5
  ⟨kE os,fun _ _=>0,⟨#[],fT,[]⟩,World.laidAll_os _ _ _,Hk os,(Input.okWide_of_okWideB (base:=0) (zj os)).1,(Input.okWide_of_okWideB (zj os)).2,
   OpenSpec.preRow_of_cond 8 y (by kernel_rfl) (fun k i=>by cases i;kernel_rfl) (Jg os enc) (OU os),by
    simp only[Assume.holds];exact⟨by simp,by simp,fun _=>Modest.zero,by simp,by simp⟩⟩ ?_
 intro W base l h o d c p _ j _ _ _ _;have i:=j _ rfl;obtain⟨z,B,q,r,_,_,_⟩:=id p;have u:o=[]:=by
  cases o with
  |nil=>rfl
  |cons _ _=>exact r.elim
 subst u;have w:h.length=2:=(trodAll_length q).2;have t:(h.map Rows.uptoBulk).sum≤1048576:=by
  rw[←lT];have:=of_decide_eq_true i;simpa using this
 match h,w with
 |[d0,d1],_=>
  exact QE (P:=Tryz.prog) (τs:=(cv 0).ps) (E:=fun n=>dY n) (tb:=4) (n:=12) Eh OV Dw (by kernel_rfl) (by kernel_rfl) rfl (by kernel_rfl) rfl ⟨rfl,rfl,rfl⟩ c p t b
theorem vD(b:∀x:(g6 (cv 0).ps).den,OW (g6 (cv 0).ps) x→bB (g6 (cv 0).ps) x≤1048576→∃n,dY n x=some true):Rows.ModelReachUptoSaid:=
 OpenClaim.holds_of_cond 5 Tryz.f5 rfl rfl rfl rfl rfl rfl rfl ⟨rfl,rfl,rfl,rfl,rfl⟩ rfl rfl rfl rfl rfl Qb Tryz.func5 Hj LR LU
  (fun os a H enc _ F=>by rw[OpenClaim.pre_eq_preRow];exact Hl b os a H enc F)
theorem modelReach_holds:Rows.ModelReachUptoSaid:=vD (fun x h b=>Pu.Jc x h b)
end Go.Proofs.YtpdgokkbljiccaaGreat
