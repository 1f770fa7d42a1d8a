import Derived.Test.YtpdgokkbljiccaaGreatP3
import Derived.Test.YtpdgokkbljiccaaGreatA3
import Derived.Test.YtpdgokkbljiccaaGreatP4
import Derived.Test.YtpdgokkbljiccaaGreatA4
import Derived.Test.YtpdgokkbljiccaaGreatP6
set_option linter.unusedVariables false
set_option linter.unusedSimpArgs false
open Option renaming bind_some→aj
namespace Go.Am.Pu
open Go Go.Am
theorem jI{n:Nat}{a:H6}:bi n none () (a,())=some (false,()):=by rw[kY];rfl
theorem nP{n:Nat}{l:List Int}{y:Int}(a:eK n ()=some true):cZ n (l,y)=some true:=by
 rw[om,jU,jI];simp only[aj,Bool.not_false];rw[kq];simp only[aj];rw[a,aj,kq];simp only[List.length_nil];rw[show(((0:Nat):Int)==0)=true from rfl,kq,show((213:Int)==213)=true from rfl,kq,i5,jI];simp only[aj,Bool.not_false,kq];rw[show((213:Int)==213)=true from rfl,kq,kE,jI];simp only[aj,Bool.not_false,kq];rw[show((213:Int)==213)=true from rfl,kq,jV,jI];simp only[aj,Bool.not_false,kq];rw[show((0:Int)==0)=true from rfl,kq,kZ,jI];simp only[aj,Bool.not_false,kq];rw[show((0:Int)==0)=true from rfl,kq,jW,jI];simp only[aj,Bool.not_false,kq];rw[show((([]:List Int).length:Nat):Int)=0 from rfl,show((0:Int)==0)=true from rfl,kq,xd,jI];rfl
theorem xk(x:(eo (bT 0).ps).den)(_:Dq (eo (bT 0).ps) x)(_:eO (eo (bT 0).ps) x≤1048576):∃n,cZ n x=some true:=by
 obtain⟨l,y⟩:=x;exact⟨2000000000,nP CM⟩
end Go.Am.Pu
