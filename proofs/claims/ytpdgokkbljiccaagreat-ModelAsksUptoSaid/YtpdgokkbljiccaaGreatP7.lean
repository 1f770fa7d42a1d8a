import Derived.Test.YtpdgokkbljiccaaGreatP5
import Derived.Test.YtpdgokkbljiccaaGreatP6
set_option linter.unusedVariables false
set_option linter.unusedSimpArgs false
open Option renaming bind_some→aa
namespace Go.Am.Pu
open Go Go.Am
theorem agE{m:Mod}(h:OW WO m)(a:bB WO m≤1048576):WN m:=by
 have o:=ai0 h a;exact⟨⟨o.len,o.e,o.b⟩,o.cos,o.sin,o.be,o.g,o.u⟩
theorem acH{l:List Int}(h:bB acg l≤1048576):l.length≤1048576:=by
 have:=aeo l;omega
theorem OL{n:Nat}{a:List Int}(h:a.length≤1000000000)(d:ii n):ll n (a,a)=some true:=by
 rw[I0,ag,if_neg (by simp)];have b:=aQ (L:=fun k i (_:Unit)=>g0 n k (a,a,i,())) (len:=a.length) (r:=Sum.inr ()) (fun _=>()) ?_ ?_ n (by omega)
 ·rw[b];rfl
 ·intro k i c;show g0 n (k+1) _=_;rw[sD,xY,aS c 0];simp only[aa,ag];rw[if_neg (by simp),bu]
 ·intro k;show g0 n (k+1) _=_;rw[sD,ag,if_neg (by simp)]
end Go.Am.Pu
