/- ModelAsks: many contexts, greedy rows, standings and rows are those of the document.
 On condition that all that is handed in has 2^20 values and letters at most (the row's own bound). -/
import Derived.Test.YtpdgokkbljiccaaGreatXModelAsks
import Derived.Test.YtpdgokkbljiccaaGreatLModelAsksF
import Derived.Test.YtpdgokkbljiccaaGreatRows
import Derived.Test.YtpdgokkbljiccaaGreatChecked
import Derived.KernelRfl
import Derived.Deep.DeepHandedRow
import Derived.LaidMore
import Derived.ChangeCalls
import Derived.JoinedCond
import Derived.Lay
import Derived.Test.YtpdgokkbljiccaaGreatA4
import Derived.Test.YtpdgokkbljiccaaGreatS
import Derived.Test.YtpdgokkbljiccaaGreatP7
import Derived.Test.YtpdgokkbljiccaaGreatP5
set_option linter.unusedVariables false
set_option linter.unusedSimpArgs false
open List renaming map_cons→bo
namespace Go.Proofs.YtpdgokkbljiccaaGreat
open Go Go.Am Go.ChangeShapes Go.WideShapes Go.ChangeAt Go.RowKit
set_option maxRecDepth 100000
theorem agu{H:Type}(l:List (DataW H)):Rows.uptoBulkAll l=(l.map Rows.uptoBulk).sum:=by
 induction l with
 |nil=>rfl
 |cons d l a=>simp only[Rows.uptoBulkAll,bo,List.sum_cons,a]
theorem ajK{H:Type}:Blk (H:=H) Rows.uptoBulk where
 lit l:=by cases l<;>simp[Rows.uptoBulk]
 str s:=by simp[Rows.uptoBulk]
 nil:=by simp[Rows.uptoBulk]
 slice a b:=by simp only[Rows.uptoBulk];rw[agu a];omega
 agg ps:=by simp only[Rows.uptoBulk];rw[agu ps];omega
theorem ajf(b:∀x:(g6 (aa5 0).ps).den,OW (g6 (aa5 0).ps) x→bB (g6 (aa5 0).ps) x≤1048576→∃n,acU n x=some true)(os:Os)(a:os.Started)(H:Type)(enc:TypeId×Value→H)(F:Stop.Interp):
  ReturnsInHanded {} Tryz.checked os 6 .any ((Rows.OpenSpec.upto Rows.modelAsksSpec).preRow enc Tryz.prog Tryz.f6 Rows.modelAsksUptoRow.domain false Rows.modelAsksUptoRow.laid) (((Rows.OpenSpec.upto Rows.modelAsksSpec).at F).post enc Tryz.prog Tryz.f6 false true false false):=by
 obtain⟨g,y⟩:=ajr os enc;refine returnsInHanded_of_row (C:=Tryz.checked) (s:=Rows.OpenSpec.upto Rows.modelAsksSpec) ajI a (by kernel_rfl) Tryz.func6
  ⟨af1 os,fun _ _=>0,⟨#[],ad8,[]⟩,World.laidAll_os _ _ _,aje os,(Input.okWide_of_okWideB (base:=0) (aix os)).1,(Input.okWide_of_okWideB (aix os)).2,
   OpenSpec.preRow_of_cond 8 y (by kernel_rfl) (fun k i=>by cases i;kernel_rfl) (ajs os enc) (ajJ os),by
    simp only[Assume.holds];exact⟨by simp,by simp,fun _=>Modest.zero,by simp,by simp⟩⟩ ?_
 intro W base l h o d c p _ j _ _ _ _;have i:=j _ rfl;obtain⟨z,B,q,r,_,_,_⟩:=id p;have u:o=[]:=by
  cases o with
  |nil=>rfl
  |cons _ _=>exact r.elim
 subst u;have w:h.length=3:=(trodAll_length q).2;have t:(h.map Rows.uptoBulk).sum≤1048576:=by
  rw[←agu];have:=of_decide_eq_true i;simpa using this
 match h,w with
 |[d0,d1,d2],_=>
  exact QE (P:=Tryz.prog) (τs:=(aa5 0).ps) (E:=fun n=>acU n) (tb:=4) (n:=12) ai1 ajK ai3 (by kernel_rfl) (by kernel_rfl) rfl (by kernel_rfl) rfl ⟨rfl,rfl,rfl⟩ c p t b
theorem ahI(b:∀x:(g6 (aa5 0).ps).den,OW (g6 (aa5 0).ps) x→bB (g6 (aa5 0).ps) x≤1048576→∃n,acU n x=some true):Rows.ModelAsksUptoSaid:=
 OpenClaim.holds_of_cond 6 Tryz.f6 rfl rfl rfl rfl rfl rfl rfl ⟨rfl,rfl,rfl,rfl,rfl⟩ rfl rfl rfl rfl rfl ajX Tryz.func6 ajd ajD ajE
  (fun os a H enc _ F=>by rw[OpenClaim.pre_eq_preRow];exact ajf b os a H enc F)
theorem modelAsks_holds:Rows.ModelAsksUptoSaid:=ahI (fun x h b=>Pu.ajq x h b)
end Go.Proofs.YtpdgokkbljiccaaGreat
