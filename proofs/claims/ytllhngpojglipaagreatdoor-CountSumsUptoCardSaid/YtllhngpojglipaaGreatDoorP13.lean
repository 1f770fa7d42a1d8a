import Derived.Test.YtllhngpojglipaaGreatDoorP8
import Derived.Test.YtllhngpojglipaaGreatDoorP4
import Derived.Test.YtllhngpojglipaaGreatDoorP9
import Derived.Test.YtllhngpojglipaaGreatDoorD
import Derived.KernelRfl
set_option linter.unusedVariables false
set_option linter.unusedSimpArgs false
namespace Go.Am.Pu
open Go Go.Am
def rq0(r:Rq):Rq:=(r.1,r.2.1,r.2.2.1,0,r.2.2.2.2)
def ayL(f:Nat→Nat):Nat→Nat
 |0=>0
 |i+1=>ayL f i+f i
def drI(r:Rq)(y:Int):Int:=8*y/r.2.1.2.2.2.2.1
noncomputable def cnt(n:Nat)(m:Mod)(r:Rq)(y:Int):Nat→List Int→Nat
 |0,_=>1
 |d+1,a=>if agm r a=true∨(a.length:Int)=drI r y then 1 else
  1+ayL (fun t=>if(wI n m r a).getD t 0=0 then 0 else cnt n m r y d (a++[(t:Int)])) m.1.1.toNat
def St(m:Mod)(r:Rq)(y:Int)(b:H2)(d:H3)(c:Nat)(out:List D83):Prop:=
 ∃a:Option (Nat×Nat×Nat),b=[some (m,rq0 r,drI r y,(c:Int),a)]∧((out=[]∧a=none)∨(∃i,a=some (i,0,out.length)∧fA d i=some out))
end Go.Am.Pu
