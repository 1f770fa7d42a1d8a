import Derived.Test.YtllhngpojglipaaGreatDoorP4
set_option linter.unusedVariables false
set_option linter.unusedSimpArgs false
open Option renaming bind_some→aa
namespace Go.Am.Pu
open Go Go.Am Go.Proofs
set_option maxRecDepth 100000
def lM:List Int:=[0,1,1,2,2,3,4,4,5,6,7,8,9,10,11,12,13,14,15,16,17,18,19,20,21,22,23,24,25,27,28,29,30,31,32,33,34,35,36,37,39,40,41,42,43,44,45,46,47,48,49,50,51,52,53,54,55,56,57,58,59,60,61,62,63,64,65,66,67,68,69,70,71,72,73,74,75,76,77,78,79,80,81,82,83,84,85,86,87,88,89,90,91,92,93,94,94,95,96,97,98,99,100,101,102,103,104,105,106,107,108,109,110,111,112,113,114,115,116,117,118,119,120,121,122,123,124,125,-2,-2,-2,-2,-2,-2,-2,-2,-2,-2,-2,-2,-2,-2,-2,-2,-2,-2,-2,-2,-2,-2,-2,-2,-2,-2,-2,-2,-2,-2,-2,-2,-2,-1,-1,-1,-1,-1,-1,-1,-1,-1,-1,-1,-1,-1,-1,-1,-1,-1,-1,-1,-1,-1,-1,-1,-1,-1,-1,-1,-1,-1,-1,-1,-1,-1,-1,-1,-1,-1,-1,-1,-1,-1,-1,-1,-1,-1,-1,-1,-1,-1,-1,-1,-1,-1,-1,-1,-1,-2,-2,-2,-2,-2,-2,-2,-2,-2,-2,-2,-3,-3,-3,-3,-3,-3,-3,-3,-3,-3,-3,-3,-3,-3,-3,-3,-3,-3,-3,-3,-3,-3,-2,-2,-2,-1,-1,0]
def uN(i:Nat):Int:=if i>127 then(i:Int) -256 else i
theorem amQ:dX (fun i=>db 2000000000 (2,uN (16*0+i))) 16=dX (fun i=>some (lM.getD (16*0+i) 0)) 16:=by kernel_rfl
theorem amR:dX (fun i=>db 2000000000 (2,uN (16*1+i))) 16=dX (fun i=>some (lM.getD (16*1+i) 0)) 16:=by kernel_rfl
theorem amS:dX (fun i=>db 2000000000 (2,uN (16*2+i))) 16=dX (fun i=>some (lM.getD (16*2+i) 0)) 16:=by kernel_rfl
theorem amT:dX (fun i=>db 2000000000 (2,uN (16*3+i))) 16=dX (fun i=>some (lM.getD (16*3+i) 0)) 16:=by kernel_rfl
theorem amU:dX (fun i=>db 2000000000 (2,uN (16*4+i))) 16=dX (fun i=>some (lM.getD (16*4+i) 0)) 16:=by kernel_rfl
theorem amV:dX (fun i=>db 2000000000 (2,uN (16*5+i))) 16=dX (fun i=>some (lM.getD (16*5+i) 0)) 16:=by kernel_rfl
theorem amW:dX (fun i=>db 2000000000 (2,uN (16*6+i))) 16=dX (fun i=>some (lM.getD (16*6+i) 0)) 16:=by kernel_rfl
theorem amX:dX (fun i=>db 2000000000 (2,uN (16*7+i))) 16=dX (fun i=>some (lM.getD (16*7+i) 0)) 16:=by kernel_rfl
theorem amY:dX (fun i=>db 2000000000 (2,uN (16*8+i))) 16=dX (fun i=>some (lM.getD (16*8+i) 0)) 16:=by kernel_rfl
theorem amZ:dX (fun i=>db 2000000000 (2,uN (16*9+i))) 16=dX (fun i=>some (lM.getD (16*9+i) 0)) 16:=by kernel_rfl
theorem akJ:dX (fun i=>db 2000000000 (2,uN (16*10+i))) 16=dX (fun i=>some (lM.getD (16*10+i) 0)) 16:=by kernel_rfl
theorem akK:dX (fun i=>db 2000000000 (2,uN (16*11+i))) 16=dX (fun i=>some (lM.getD (16*11+i) 0)) 16:=by kernel_rfl
theorem akL:dX (fun i=>db 2000000000 (2,uN (16*12+i))) 16=dX (fun i=>some (lM.getD (16*12+i) 0)) 16:=by kernel_rfl
theorem akM:dX (fun i=>db 2000000000 (2,uN (16*13+i))) 16=dX (fun i=>some (lM.getD (16*13+i) 0)) 16:=by kernel_rfl
theorem akN:dX (fun i=>db 2000000000 (2,uN (16*14+i))) 16=dX (fun i=>some (lM.getD (16*14+i) 0)) 16:=by kernel_rfl
theorem akO:dX (fun i=>db 2000000000 (2,uN (16*15+i))) 16=dX (fun i=>some (lM.getD (16*15+i) 0)) 16:=by kernel_rfl
theorem ao4:∀j:Nat,j<16→dX (fun i=>db 2000000000 (2,uN (16*j+i))) 16=dX (fun i=>some (lM.getD (16*j+i) 0)) 16
 |0,_=>amQ
 |1,_=>amR
 |2,_=>amS
 |3,_=>amT
 |4,_=>amU
 |5,_=>amV
 |6,_=>amW
 |7,_=>amX
 |8,_=>amY
 |9,_=>amZ
 |10,_=>akJ
 |11,_=>akK
 |12,_=>akL
 |13,_=>akM
 |14,_=>akN
 |15,_=>akO
 |n+16,h=>by omega
theorem av7{i:Nat}(h:i<256):db 2000000000 (2,uN i)=some (lM.getD i 0):=by
 have h1:=ao4 (i/16) (by omega);have h2:=congrArg (fun l=>l[i % 16]?) h1;simp only[aqi _ (show i % 16<16 by omega)]at h2;rw[show 16*(i/16)+i % 16=i by omega]at h2;exact Option.some.inj h2
theorem arA:dX (fun i=>lM.getD i 0) 256=lM:=by decide+kernel
theorem ao5:qK 2000000000 2=some (lM,0):=by
 rw[V7,show av (decide ((2:Int)<1)) (some true) (some (decide ((2:Int)>3)))=some false from rfl,aa,af,if_neg (by decide)];have hL:=aX (L:=fun k i s=>kZ 2000000000 k (2,s,i,())) (len:=256) (r:=(lM,())) (fun i=>dX (fun i=>lM.getD i 0) i) ?_ ?_ 2000000000 (by omega)
 ·rw[show dX (fun i=>lM.getD i 0) 0=[]from rfl]at hL;rw[hL];rfl
 ·intro k i hi;show kZ 2000000000 (k+1) _=_;rw[Ba];simp only[af,bF];rw[lK,aN (x:=(i:Int) -256)];have hb:=av7 hi;have ha:=fL (b:=1) (fun i=>lM.getD i 0) (i:=i) (by unfold room;omega) (by unfold room;omega);unfold uN at hb
  by_cases h:i>127
  ·rw[if_pos h]at hb;rw[lK];simp only[aa];rw[hb];simp only[aa];rw[ha,aN];rfl
  ·rw[if_neg h]at hb;rw[gG];simp only[aa];rw[hb];simp only[aa];rw[ha,aN];rfl
 ·intro k;show kZ 2000000000 (k+1) _=_;rw[Ba,af,if_neg (by decide)];rw[arA]
end Go.Am.Pu
