import Derived.Test.YtpdgokkbljiccaaGreatD
import Derived.Test.YtpdgokkbljiccaaGreatE2
import Derived.KernelRfl
import Derived.Test.YtpdgokkbljiccaaGreatS
import Derived.Test.YtpdgokkbljiccaaGreatP7
import Derived.Test.YtpdgokkbljiccaaGreatP5
import Derived.Test.YtpdgokkbljiccaaGreatP6
set_option linter.unusedVariables false
set_option linter.unusedSimpArgs false
open Nat renaming le_refl→av
open Option renaming bind_some→aa
namespace Go.Am
open Go.Proofs.Tryz
noncomputable section
variable (n:Nat)
open Go Go.Proofs
def qo:Cx:=aF [(20,rP n),(22,DS n),(21,r4 n),(23,vm n),(24,vo n)] [] [(3,[(4,.bool)])] [] [] 33 n
def dG(x:(D4×iA)×aq):Option (Bool):=ao (qo n) f4 [iV,bG] [.bool] x
def ch:Entry:=⟨[iV,bG],[.bool],dG n⟩
end
section
variable (n k:Nat)
set_option maxRecDepth 100000
set_option maxHeartbeats 4000000
theorem xS(a0:D4×iA)(a1:aq):dG n (a0,a1)=(gA n (a0,a1)).bind fun v1=>(rQ n a0).bind fun v2=>(gD n (v2,a1)).bind fun v3=>((fZ n ()).bind fun v5=>aw v5 ((ll n (v1.1,v3.1)).bind fun v6=>aw v6 (some (v1.2==v3.2)) (some false)) (some false)).bind fun v4=>some v4:=by kernel_rfl
end
section
variable (n k:Nat)
theorem Ca:ar prog 4 (ch n):=bn (X:=qo n) (cc (Bf n) (cc (N1 n) (cc (Bk n) (cc (Dq n) (cc (Dr n) c0))))) func4
end
end Go.Am
namespace Go.Am.Pu
open Go Go.Am
theorem OM{n:Nat}{m:Mod}(h:WN m){l:List Int}(q:l.length≤1048576)(p:ii n):∃s e,gA n (m,l)=some (s,e)∧gD n (m,l)=some (s,e)∧s.length≤512∧
  (e=0→∃D H half C Hd V L E,zB m D H half C Hd V L E∧Eu m∧P1 m l∧l.length≠0∧l.length≤C∧s=Bx m l):=by
 by_cases g:Eu m
 ·obtain⟨D,H,half,C,Hd,V,L,E,d⟩:=ace h g;obtain⟨i,j⟩:=SN d g q p;refine⟨_,_,i,j,?_,fun a=> ?_⟩
  ·split
   ·rename_i a;have b:¬ (l.length=0∨C<l.length):=fun c=>by unfold Hf at a;rw[if_pos c]at a;cases a
    have o:∀t∈l,0≤t∧t<(V:Int):=by
     by_cases c:∀t∈l,0≤t∧t<(V:Int)
     ·exact c
     ·unfold Hf at a;rw[if_neg b,if_neg c]at a;cases a
    have:=(Q9 d (fun t k=>by rw[d.r.ok.v];exact o t k) (by omega) (by omega)).1;have:=d.r.ok.v2;omega
   ·simp
  ·have b:¬ (l.length=0∨C<l.length):=fun c=>by unfold Hf at a;rw[if_pos c]at a;cases a
   have o:∀t∈l,0≤t∧t<(V:Int):=by
    by_cases c:∀t∈l,0≤t∧t<(V:Int)
    ·exact c
    ·unfold Hf at a;rw[if_neg b,if_neg c]at a;cases a
   exact⟨D,H,half,C,Hd,V,L,E,d,g,fun t k=>by rw[d.r.ok.v];exact o t k,by omega,by omega,by rw[if_pos a]⟩
 ·obtain⟨i,j⟩:=Jb h g (l:=l) p;exact⟨_,_,i,j,by simp,fun a=>by cases a⟩
theorem sU{n:Nat}{m:Mod}{l:List Int}(d:fZ n ()=some true)(hm:WN m)(g:l.length≤1048576)(a:ii n):dG n (m,l)=some true:=by
 obtain⟨s,e,b,c,h,-⟩:=OM hm g a;rw[xS,b,aa,US hm.o.len a,aa,c,aa,d,aa,Q7,OL (show s.length≤1000000000 by omega) a,aa,Q7,aa,beq_self_eq_true]
theorem Hg(x:(g6 (ch 0).ps).den)(h:OW (g6 (ch 0).ps) x)(b:bB (g6 (ch 0).ps) x≤1048576):∃n,dG n x=some true:=by
 obtain⟨m,l⟩:=x;have b:bB WO m+bB acg l≤1048576:=b;exact⟨2000000000,sU J4 (agE h.1 (by omega)) (acH (by omega)) (av _)⟩
end Go.Am.Pu
