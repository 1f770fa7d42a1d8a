import Derived.Test.YtpdgokkbljiccaaGreatD
import Derived.KernelRfl
set_option linter.unusedVariables false
set_option linter.unusedSimpArgs false
open Go.IntKind renaming wrap→ae
open List renaming length→ac
namespace Go.Am
section
variable (n k:Nat)
open Go Go.Proofs
set_option maxRecDepth 100000
set_option maxHeartbeats 4000000
theorem IZ:fZ n ()=(FX n (2,2,1,2) ([],[],[],[],[],()) ()).bind fun v1=>(aw (v1.1.2 !=0) (some true) (some (Option.isNone v1.1.1))).bind fun v2=>aw v2 (some false) ((lg n ()).bind fun v3=>(tW n (v3,v1.1.1) (v1.2.2.2.2.1,v1.2.2.2.2.2.1,[],[],()) ()).bind fun v4=>(aw (v4.1.2 !=0) (some true) (some (Option.isNone v4.1.1))).bind fun v5=>aw v5 (some false) ((fP n (v4.1.1,[1]) (v1.2.1,v1.2.2.1,[],[],v4.2.2.2.1,[],v4.2.2.2.2.1,[],()) (v1.2.2.2.1,v4.2.1,v4.2.2.1,())).bind fun v6=>aw (v6.1.2==0) (aw ((ac v6.1.1:Int)==1) ((idx v6.1.1 0).bind fun v7=>aw ((ac v7:Int)==3) ((fQ n v4.1.1 () (v6.2.2.2.2.2.2.2.1,())).bind fun v8=>some (v8.1==1)) (some false)) (some false)) (some false))):=by kernel_rfl
end
section
variable (n k:Nat)
theorem I0(a0 a1:aq):ll n (a0,a1)=aw ((ac a0:Int)!=(ac a1:Int)) (some false) ((g0 n n (a0,a1,0,())).bind fun v1=>ea v1 (fun v2=>some v2.1) (fun _=>some true)):=by kernel_rfl
theorem sD(s0 s1:aq)(s5:Int):g0 n (k+1) (s0,s1,s5,())=aw (decide (s5<(ac s0:Int))) ((idx s0 s5).bind fun v1=>(idx s1 s5).bind fun v2=>aw (v1 !=v2) (some (.inl (false,()))) (g0 n k (s0,s1,(ae .i64 (s5+1)),()))) (some (.inr ())):=by kernel_rfl
end
end Go.Am
