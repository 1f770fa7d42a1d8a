/- ModelNil: every call of a nil session answers as the document says.
 On condition that all that is handed in has 2^20 values and letters at most (the row's own bound). -/
import Derived.Test.YtpdgokkbljiccaaGreatLModelNilF
import Derived.Test.YtpdgokkbljiccaaGreatA4
import Derived.Test.YtpdgokkbljiccaaGreatS
import Derived.Test.YtpdgokkbljiccaaGreatP7
set_option linter.unusedVariables false
set_option linter.unusedSimpArgs false
open List renaming map_cons→aQ
namespace Go.Proofs.YtpdgokkbljiccaaGreat
open Go Go.Am Go.ChangeShapes Go.WideShapes Go.ChangeAt Go.RowKit
set_option maxRecDepth 100000
theorem g6{H:Type}(l:List (DataW H)):Rows.uptoBulkAll l=(l.map Rows.uptoBulk).sum:=by
 induction l with
 |nil=>rfl
 |cons d l a=>simp only[Rows.uptoBulkAll,aQ,List.sum_cons,a]
theorem A5{H:Type}:KK (H:=H) Rows.uptoBulk where
 lit l:=by cases l<;>simp[Rows.uptoBulk]
 str s:=by simp[Rows.uptoBulk]
 nil:=by simp[Rows.uptoBulk]
 slice a b:=by simp only[Rows.uptoBulk];rw[g6 a];omega
 agg ps:=by simp only[Rows.uptoBulk];rw[g6 ps];omega
theorem uS(b:∀x:(eo (bT 0).ps).den,Dq (eo (bT 0).ps) x→eO (eo (bT 0).ps) x≤1048576→∃n,cZ n x=some true)(os:Os)(a:os.Started)(H:Type)(enc:TypeId×Value→H)(F:Stop.Interp):
  ReturnsInHanded {} Tryz.checked os 11 .any ((Rows.OpenSpec.upto Rows.modelNilSpec).preRow enc Tryz.prog Tryz.f11 Rows.modelNilUptoRow.domain false Rows.modelNilUptoRow.laid) (((Rows.OpenSpec.upto Rows.modelNilSpec).at F).post enc Tryz.prog Tryz.f11 false true false false):=by
 obtain⟨g,y⟩:=xl os enc;refine returnsInHanded_of_row (C:=Tryz.checked) (s:=Rows.OpenSpec.upto Rows.modelNilSpec) A3 a (by kernel_rfl) Tryz.func11
  ⟨g5 os,fun _ _=>0,⟨#[],eB,[]⟩,World.laidAll_os _ _ _,uR os,(Input.okWide_of_okWideB (base:=0) (pw os)).1,(Input.okWide_of_okWideB (pw os)).2,
   OpenSpec.preRow_of_cond 8 y (by kernel_rfl) (fun k i=>by cases i;kernel_rfl) (xm os enc) (A4 os),by
    simp only[Assume.holds];exact⟨by simp,by simp,fun _=>Modest.zero,by simp,by simp⟩⟩ ?_
 intro W base l h o d c p _ j _ _ _ _;have i:=j _ rfl;obtain⟨z,B,q,r,_,_,_⟩:=id p;have u:o=[]:=by
  cases o with
  |nil=>rfl
  |cons _ _=>exact r.elim
 subst u;have w:h.length=2:=(trodAll_length q).2;have t:(h.map Rows.uptoBulk).sum≤1048576:=by
  rw[←g6];have:=of_decide_eq_true i;simpa using this
 match h,w with
 |[d0,d1],_=>
  exact EH (P:=Tryz.prog) (τs:=(bT 0).ps) (E:=fun n=>cZ n) (tb:=4) (n:=12) sQ A5 tN (by kernel_rfl) (by kernel_rfl) rfl (by kernel_rfl) rfl ⟨rfl,rfl,rfl⟩ c p t b
theorem nP(b:∀x:(eo (bT 0).ps).den,Dq (eo (bT 0).ps) x→eO (eo (bT 0).ps) x≤1048576→∃n,cZ n x=some true):Rows.ModelNilUptoSaid:=
 OpenClaim.holds_of_cond 11 Tryz.f11 rfl rfl rfl rfl rfl rfl rfl ⟨rfl,rfl,rfl,rfl,rfl⟩ rfl rfl rfl rfl rfl CT Tryz.func11 uQ yt yu
  (fun os a H enc _ F=>by rw[OpenClaim.pre_eq_preRow];exact uS b os a H enc F)
theorem modelNil_holds:Rows.ModelNilUptoSaid:=nP (fun x h b=>Pu.xk x h b)
end Go.Proofs.YtpdgokkbljiccaaGreat
