import Derived.Test.YtpdgokkbljiccaaGreatA1
import Derived.Test.YtpdgokkbljiccaaGreatD
import Derived.KernelRfl
import Derived.Test.YtpdgokkbljiccaaGreatE1
import Derived.Test.YtpdgokkbljiccaaGreatE2
import Derived.Test.YtpdgokkbljiccaaGreatGT
set_option linter.unusedVariables false
set_option linter.unusedSimpArgs false
open Go.IntKind renaming wrap→aB
open List renaming replicate→bE
namespace Go.Am.Pu
open Go Go.Am
abbrev Tb(n:Nat):Prop:=2000000000≤n
theorem Sb{p:Prop}[Decidable p]:(decide p=true)=p:=decide_eq_true_eq
theorem Sc{c:Prop}{i:Decidable c}{R:Type}{x y:R}(h:¬ c:=by omega):ite c x y=y:=if_neg h
theorem Ow{c:Prop}{i:Decidable c}{R:Type}{x y:R}(h:c:=by omega):ite c x y=x:=if_pos h
theorem PH(k:Nat)(h:0<k:=by omega):∃j,k=j+1:=⟨k -1,by omega⟩
theorem Ox{x:Int}(a: -9223372036854775808≤x:=by omega)(b:x≤9223372036854775807:=by omega):aB .i64 x=x:=by
 simp only[aB,IntKind.bits,IntKind.signed,Bool.true_and,decide_eq_true_eq,ge_iff_le]
 split<;>omega
theorem g9{R:Type}(b:Bool)(x y:Option R):eN b x y=if b=true then x else y:=by cases b<;>rfl
theorem Tc{p:Prop}[Decidable p]{R:Type}{x y:Option R}(h:¬ p:=by omega):eN (decide p) x y=y:=by rw[g9,if_neg (by simpa using h)]
theorem Td{p:Prop}[Decidable p]{R:Type}{x y:Option R}(h:p:=by omega):eN (decide p) x y=x:=by rw[g9,if_pos (by simpa using h)]
theorem DR{a b:Int}(c:b≠0:=by omega):rm a b=some (a.tmod b):=by unfold rm;rw[if_neg c]
theorem Bg{α:Type}{l:List α}{i:Nat}(h:i<l.length):idx l (i:Int)=some l[i]:=by
 unfold idx;rw[Ow];simp[h]
theorem p4{i n:Nat}(h:i<n:=by omega):ck (i:Int) n=some i:=by
 unfold ck;rw[if_pos ⟨by omega,by omega⟩];simp
theorem HW{β R:Type}{L:Nat→Int→β→Option R}{len:Nat}{r:R}(a:Nat→β)(j:∀k i:Nat,i<len→L (k+1) (i:Int) (a i)=L k ((i:Int)+1) (a (i+1)))(g:∀k,L (k+1) (len:Int) (a len)=some r):
  ∀k,len<k→L k 0 (a 0)=some r:=by
 have b:∀(m k i:Nat),i+m=len→m<k→L k (i:Int) (a i)=some r:=by
  intro m
  induction m with
  |zero=>
   intro k i c d;obtain⟨k,rfl⟩:=PH k;have:i=len:=by omega
   rw[this];exact g k
  |succ m l=>
   intro k i c d;obtain⟨k,rfl⟩:=PH k;rw[j k i (by omega)];exact l k (i+1) (by omega) (by omega)
 exact fun k h=>b len k 0 (by omega) h
def jE{α:Type}(g:Nat→α)(n:Nat):List α:=(List.range n).map g
theorem Gk{α:Type}(g:Nat→α)(n:Nat):jE g (n+1)=jE g n++[g n]:=by simp[jE,List.range_succ]
@[simp] theorem J0{α:Type}(g:Nat→α)(n:Nat):(jE g n).length=n:=by simp[jE]
theorem HX{α:Type}(g:Nat→α){n i:Nat}(h:i<n):(jE g n)[i]? =some (g i):=by simp[jE,h]
def fill{α:Type}(g:Nat→α)(z:α)(n i:Nat):List α:=jE g i++bE (n -i) z
theorem HY{α:Type}{b:Nat}(g:Nat→α){i:Nat}(h:(i+1)*b≤room)(a:i+1≤room):app b (jE g i) [g i]=some (jE g (i+1)):=by
 unfold app;rw[if_pos ⟨by simpa using h,by simpa using a⟩,Gk]
def Oy(l:List Int):Prop:=∀x∈l,-128≤x∧x≤127
def kk(sz p:Nat):Nat:=(2*p % sz)/2
def mx(l:List Int):Nat→Int
 |0=>l.getD 0 0
 |i+1=>imax (mx l i) (l.getD i 0)
structure Rows (rows:List (List Int)) (m:Nat):Prop where
 len:1≤rows.length∧rows.length≤512
 row:∀i,i<rows.length→(rows.getD i []).length=m
 all:∀i,Oy (rows.getD i [])
end Go.Am.Pu
