import Derived.Test.YtllhngpojglipaaGreatDoorP2
set_option linter.unusedVariables false
set_option linter.unusedSimpArgs false
open Option renaming bind_some→aa
namespace Go.Am.Pu
open Go Go.Am Go.Proofs
set_option maxRecDepth 100000
def lh:List Int:=[0,1,1,2,2,3,4,4,5,6,7,8,9,10,11,12,13,14,15,16,17,18,19,20,21,22,23,24,25,27,28,29,30,31,32,33,34,35,36,37,39,40,41,42,43,44,45,46,47,48,49,50,51,52,53,54,55,56,57,58,59,60,61,62,63,64,65,66,67,68,69,70,71,72,73,74,75,76,77,78,79,80,81,82,83,84,85,86,87,88,89,90,91,92,93,94,94,95,96,97,98,99,100,101,102,103,104,105,106,107,108,109,110,111,112,113,114,115,116,117,118,119,120,121,122,123,124,125,-2,-2,-2,-2,-2,-2,-2,-2,-2,-2,-2,-2,-2,-2,-2,-2,-2,-2,-2,-2,-2,-2,-2,-2,-2,-2,-2,-2,-2,-2,-2,-2,-2,-1,-1,-1,-1,-1,-1,-1,-1,-1,-1,-1,-1,-1,-1,-1,-1,-1,-1,-1,-1,-1,-1,-1,-1,-1,-1,-1,-1,-1,-1,-1,-1,-1,-1,-1,-1,-1,-1,-1,-1,-1,-1,-1,-1,-1,-1,-1,-1,-1,-1,-1,-1,-1,-1,-1,-1,-2,-2,-2,-2,-2,-2,-2,-2,-2,-2,-2,-3,-3,-3,-3,-3,-3,-3,-3,-3,-3,-3,-3,-3,-3,-3,-3,-3,-3,-3,-3,-3,-3,-2,-2,-2,-1,-1,0]
def ud(i:Nat):Int:=if i>127 then(i:Int) -256 else i
theorem aln:dL (fun i=>cY 2000000000 (2,ud (16*0+i))) 16=dL (fun i=>some (lh.getD (16*0+i) 0)) 16:=by kernel_rfl
theorem alo:dL (fun i=>cY 2000000000 (2,ud (16*1+i))) 16=dL (fun i=>some (lh.getD (16*1+i) 0)) 16:=by kernel_rfl
theorem alp:dL (fun i=>cY 2000000000 (2,ud (16*2+i))) 16=dL (fun i=>some (lh.getD (16*2+i) 0)) 16:=by kernel_rfl
theorem alq:dL (fun i=>cY 2000000000 (2,ud (16*3+i))) 16=dL (fun i=>some (lh.getD (16*3+i) 0)) 16:=by kernel_rfl
theorem alr:dL (fun i=>cY 2000000000 (2,ud (16*4+i))) 16=dL (fun i=>some (lh.getD (16*4+i) 0)) 16:=by kernel_rfl
theorem als:dL (fun i=>cY 2000000000 (2,ud (16*5+i))) 16=dL (fun i=>some (lh.getD (16*5+i) 0)) 16:=by kernel_rfl
theorem alt:dL (fun i=>cY 2000000000 (2,ud (16*6+i))) 16=dL (fun i=>some (lh.getD (16*6+i) 0)) 16:=by kernel_rfl
theorem alu:dL (fun i=>cY 2000000000 (2,ud (16*7+i))) 16=dL (fun i=>some (lh.getD (16*7+i) 0)) 16:=by kernel_rfl
theorem alv:dL (fun i=>cY 2000000000 (2,ud (16*8+i))) 16=dL (fun i=>some (lh.getD (16*8+i) 0)) 16:=by kernel_rfl
theorem alw:dL (fun i=>cY 2000000000 (2,ud (16*9+i))) 16=dL (fun i=>some (lh.getD (16*9+i) 0)) 16:=by kernel_rfl
theorem ajr:dL (fun i=>cY 2000000000 (2,ud (16*10+i))) 16=dL (fun i=>some (lh.getD (16*10+i) 0)) 16:=by kernel_rfl
theorem ajs:dL (fun i=>cY 2000000000 (2,ud (16*11+i))) 16=dL (fun i=>some (lh.getD (16*11+i) 0)) 16:=by kernel_rfl
theorem ajt:dL (fun i=>cY 2000000000 (2,ud (16*12+i))) 16=dL (fun i=>some (lh.getD (16*12+i) 0)) 16:=by kernel_rfl
theorem aju:dL (fun i=>cY 2000000000 (2,ud (16*13+i))) 16=dL (fun i=>some (lh.getD (16*13+i) 0)) 16:=by kernel_rfl
theorem ajv:dL (fun i=>cY 2000000000 (2,ud (16*14+i))) 16=dL (fun i=>some (lh.getD (16*14+i) 0)) 16:=by kernel_rfl
theorem ajw:dL (fun i=>cY 2000000000 (2,ud (16*15+i))) 16=dL (fun i=>some (lh.getD (16*15+i) 0)) 16:=by kernel_rfl
theorem anr:∀j:Nat,j<16→dL (fun i=>cY 2000000000 (2,ud (16*j+i))) 16=dL (fun i=>some (lh.getD (16*j+i) 0)) 16
 |0,_=>aln
 |1,_=>alo
 |2,_=>alp
 |3,_=>alq
 |4,_=>alr
 |5,_=>als
 |6,_=>alt
 |7,_=>alu
 |8,_=>alv
 |9,_=>alw
 |10,_=>ajr
 |11,_=>ajs
 |12,_=>ajt
 |13,_=>aju
 |14,_=>ajv
 |15,_=>ajw
 |n+16,h=>by omega
theorem atT{i:Nat}(h:i<256):cY 2000000000 (2,ud i)=some (lh.getD i 0):=by
 have b:=anr (i/16) (by omega);have a:=congrArg (fun l=>l[i % 16]?) b;simp only[aoy _ (show i % 16<16 by omega)]at a;rw[show 16*(i/16)+i % 16=i by omega]at a;exact Option.some.inj a
theorem apJ:dL (fun i=>lh.getD i 0) 256=lh:=by decide+kernel
theorem ans:qf 2000000000 2=some (lh,0):=by
 rw[Vm,show av (decide ((2:Int)<1)) (some true) (some (decide ((2:Int)>3)))=some false from rfl,aa,ag,if_neg (by decide)];have c:=ba (L:=fun k i s=>kC 2000000000 k (2,s,i,())) (len:=256) (r:=(lh,())) (fun i=>dL (fun i=>lh.getD i 0) i) ?_ ?_ 2000000000 (by omega)
 ·rw[show dL (fun i=>lh.getD i 0) 0=[]from rfl]at c;rw[c];rfl
 ·intro k i e;show kC 2000000000 (k+1) _=_;rw[An];simp only[ag,bx];rw[lf,aN (x:=(i:Int) -256)];have a:=atT e;have d:=fv (b:=1) (fun i=>lh.getD i 0) (i:=i) (by unfold room;omega) (by unfold room;omega);unfold ud at a
  by_cases h:i>127
  ·rw[if_pos h]at a;rw[lf];simp only[aa];rw[a];simp only[aa];rw[d,aN];rfl
  ·rw[if_neg h]at a;rw[gk];simp only[aa];rw[a];simp only[aa];rw[d,aN];rfl
 ·intro k;show kC 2000000000 (k+1) _=_;rw[An,ag,if_neg (by decide)];rw[apJ]
end Go.Am.Pu
