import Derived.Test.YtpdgokkbljiccaaGreatP2
import Derived.Test.YtpdgokkbljiccaaGreatP3
set_option linter.unusedVariables false
set_option linter.unusedSimpArgs false
open Go.IntKind renaming i64→ch,wrap→aB
open List renaming length→aa
open Option renaming bind_some→aj
namespace Go.Am.Pu
open Go Go.Am Go.Proofs
set_option maxRecDepth 100000
def dt:List Int:=[0,1,1,2,2,3,4,4,5,6,7,8,9,10,11,12,13,14,15,16,17,18,19,20,21,22,23,24,25,27,28,29,30,31,32,33,34,35,36,37,39,40,41,42,43,44,45,46,47,48,49,50,51,52,53,54,55,56,57,58,59,60,61,62,63,64,65,66,67,68,69,70,71,72,73,74,75,76,77,78,79,80,81,82,83,84,85,86,87,88,89,90,91,92,93,94,94,95,96,97,98,99,100,101,102,103,104,105,106,107,108,109,110,111,112,113,114,115,116,117,118,119,120,121,122,123,124,125,-2,-2,-2,-2,-2,-2,-2,-2,-2,-2,-2,-2,-2,-2,-2,-2,-2,-2,-2,-2,-2,-2,-2,-2,-2,-2,-2,-2,-2,-2,-2,-2,-2,-1,-1,-1,-1,-1,-1,-1,-1,-1,-1,-1,-1,-1,-1,-1,-1,-1,-1,-1,-1,-1,-1,-1,-1,-1,-1,-1,-1,-1,-1,-1,-1,-1,-1,-1,-1,-1,-1,-1,-1,-1,-1,-1,-1,-1,-1,-1,-1,-1,-1,-1,-1,-1,-1,-1,-1,-2,-2,-2,-2,-2,-2,-2,-2,-2,-2,-2,-3,-3,-3,-3,-3,-3,-3,-3,-3,-3,-3,-3,-3,-3,-3,-3,-3,-3,-3,-3,-3,-3,-2,-2,-2,-1,-1,0]
def b0:J1:=([64,64],[20,91,123,114],[-94,93,12,24],[-23,50,-125,-7],[54,105,-82,-65],[64,64],8,8,8,5,3,[-34,48,124,116],[45,111,19,-102],[74,13,-88,45],8,8,5)
def f0:Sd:=(1,[64,0,-64,0],[0,64,0,-64],dt)
def fX(i:Nat):Int:=if i>127 then(i:Int) -256 else i
theorem CA:jE (fun i=>bh 2000000000 (2,fX (16*0+i))) 16=jE (fun i=>some (dt.getD (16*0+i) 0)) 16:=by kernel_rfl
theorem CB:jE (fun i=>bh 2000000000 (2,fX (16*1+i))) 16=jE (fun i=>some (dt.getD (16*1+i) 0)) 16:=by kernel_rfl
theorem CC:jE (fun i=>bh 2000000000 (2,fX (16*2+i))) 16=jE (fun i=>some (dt.getD (16*2+i) 0)) 16:=by kernel_rfl
theorem CD:jE (fun i=>bh 2000000000 (2,fX (16*3+i))) 16=jE (fun i=>some (dt.getD (16*3+i) 0)) 16:=by kernel_rfl
theorem CE:jE (fun i=>bh 2000000000 (2,fX (16*4+i))) 16=jE (fun i=>some (dt.getD (16*4+i) 0)) 16:=by kernel_rfl
theorem CF:jE (fun i=>bh 2000000000 (2,fX (16*5+i))) 16=jE (fun i=>some (dt.getD (16*5+i) 0)) 16:=by kernel_rfl
theorem CG:jE (fun i=>bh 2000000000 (2,fX (16*6+i))) 16=jE (fun i=>some (dt.getD (16*6+i) 0)) 16:=by kernel_rfl
theorem CH:jE (fun i=>bh 2000000000 (2,fX (16*7+i))) 16=jE (fun i=>some (dt.getD (16*7+i) 0)) 16:=by kernel_rfl
theorem CI:jE (fun i=>bh 2000000000 (2,fX (16*8+i))) 16=jE (fun i=>some (dt.getD (16*8+i) 0)) 16:=by kernel_rfl
theorem CJ:jE (fun i=>bh 2000000000 (2,fX (16*9+i))) 16=jE (fun i=>some (dt.getD (16*9+i) 0)) 16:=by kernel_rfl
theorem AU:jE (fun i=>bh 2000000000 (2,fX (16*10+i))) 16=jE (fun i=>some (dt.getD (16*10+i) 0)) 16:=by kernel_rfl
theorem AV:jE (fun i=>bh 2000000000 (2,fX (16*11+i))) 16=jE (fun i=>some (dt.getD (16*11+i) 0)) 16:=by kernel_rfl
theorem AW:jE (fun i=>bh 2000000000 (2,fX (16*12+i))) 16=jE (fun i=>some (dt.getD (16*12+i) 0)) 16:=by kernel_rfl
theorem AX:jE (fun i=>bh 2000000000 (2,fX (16*13+i))) 16=jE (fun i=>some (dt.getD (16*13+i) 0)) 16:=by kernel_rfl
theorem AY:jE (fun i=>bh 2000000000 (2,fX (16*14+i))) 16=jE (fun i=>some (dt.getD (16*14+i) 0)) 16:=by kernel_rfl
theorem AZ:jE (fun i=>bh 2000000000 (2,fX (16*15+i))) 16=jE (fun i=>some (dt.getD (16*15+i) 0)) 16:=by kernel_rfl
theorem DG:∀j:Nat,j<16→jE (fun i=>bh 2000000000 (2,fX (16*j+i))) 16=jE (fun i=>some (dt.getD (16*j+i) 0)) 16
 |0,_=>CA
 |1,_=>CB
 |2,_=>CC
 |3,_=>CD
 |4,_=>CE
 |5,_=>CF
 |6,_=>CG
 |7,_=>CH
 |8,_=>CI
 |9,_=>CJ
 |10,_=>AU
 |11,_=>AV
 |12,_=>AW
 |13,_=>AX
 |14,_=>AY
 |15,_=>AZ
 |n+16,h=>by omega
theorem Ia{i:Nat}(h:i<256):bh 2000000000 (2,fX i)=some (dt.getD i 0):=by
 have b:=DG (i/16) (by omega);have a:=congrArg (fun l=>l[i % 16]?) b;simp only[HX _ (show i % 16<16 by omega)]at a;rw[show 16*(i/16)+i % 16=i by omega]at a;exact Option.some.inj a
theorem EX:jE (fun i=>dt.getD i 0) 256=dt:=by decide+kernel
theorem yr{n:Nat}(l:1000≤n)(c:∀i:Nat,i<256→bh n (2,fX i)=some (dt.getD i 0)):dT n 2=some (dt,0):=by
 rw[sL,show(eN (decide ((2:Int)<1)) (some true) (some (decide ((2:Int)>3))))=some false from rfl,aj];rw[show ∀x y:Option (List Int×Int),eN false x y=y from fun _ _=>rfl];have d:=HW (L:=fun k i s=>dH n k (2,s,i,())) (len:=256) (r:=(dt,())) (fun i=>jE (fun i=>dt.getD i 0) i) ?_ ?_ n (by omega)
 ·rw[show jE (fun i=>dt.getD i 0) 0=[]from rfl]at d;rw[d];rfl
 ·intro k i j;show dH n (k+1) _=_;rw[jv];simp only[g9,Sb];rw[Ow,Ox (x:=(i:Int) -256)];have a:=c i j;have g:=HY (b:=1) (fun i=>dt.getD i 0) (i:=i) (by unfold room;omega) (by unfold room;omega);unfold fX at a
  by_cases h:i>127
  ·rw[if_pos h]at a;rw[Ow];simp only[aj];rw[a];simp only[aj];rw[g,Ox];rfl
  ·rw[if_neg h]at a;rw[Sc];simp only[aj];rw[a];simp only[aj];rw[g,Ox];rfl
 ·intro k;show dH n (k+1) _=_;rw[jv,g9,if_neg (by decide)];rw[EX]
theorem jF:dT 2000000000 2=some (dt,0):=yr (by omega) fun i a=>Ia a
theorem gK:aF 2000000000 (10346034117385188870,4)=some ([20,91,123,114],8237903092696572954):=by kernel_rfl
theorem gL:aF 2000000000 (8237903092696572954,4)=some ([-94,93,12,24],1794984045769886574):=by kernel_rfl
theorem gM:aF 2000000000 (1794984045769886574,4)=some ([-23,50,-125,-7],17980115891931348994):=by kernel_rfl
theorem gN:aF 2000000000 (17980115891931348994,4)=some ([54,105,-82,-65],13819126590027240918):=by kernel_rfl
theorem gO:aF 2000000000 (13819126590027240918,4)=some ([-34,48,124,116],8360805673751372010):=by kernel_rfl
theorem gP:aF 2000000000 (8360805673751372010,4)=some ([45,111,19,-102],11101546788561990974):=by kernel_rfl
theorem gQ:aF 2000000000 (11101546788561990974,4)=some ([74,13,-88,45],3301617674701350610):=by kernel_rfl
theorem iu:aF 2000000000 (3301617674701350610,6)=some ([-84,-70,-79,-117,-127,32],2334851202895766344):=by kernel_rfl
theorem fY:cD 2000000000 2=some 1:=by kernel_rfl
theorem fZ:ev 2000000000 (64,2)=some [64,64]:=by kernel_rfl
theorem jG:aF 2000000000 (0,6)=some ([20,26,-102,102,98,-113],10346034117385188870):=by kernel_rfl
theorem iv:fF 2000000000 (4,1)=some ([64,0,-64,0],[0,64,0,-64],0):=by kernel_rfl
theorem iw:fD 2000000000 (3,4,2,1,1,2)=some 0:=by kernel_rfl
theorem jH:gx 2000000000 (3,4,2,1,1,2)=some 1:=by kernel_rfl
theorem iy:fE 2000000000 3=some ([[],[97],[98]],[]):=by kernel_rfl
def m0:(Int×Int×Int×Int×Int×Int)×((List (List UInt8))×(List (Int×Int×Int)))×(List Int)×Int×(List Int)×(List Int)×(List J1)×(List Int)×(List Int)×(List Int)×Int:=
 ((3,4,2,1,1,2),([[],[97],[98]],[]),[20,26,-102,102,98,-113],2,[64,0,-64,0],[0,64,0,-64],[b0],dt,[64,64],[-84,-70,-79,-117,-127,32],5)
theorem DH{n:Nat}(gK:aF n (10346034117385188870,4)=some ([20,91,123,114],8237903092696572954))(gL:aF n (8237903092696572954,4)=some ([-94,93,12,24],1794984045769886574))(gM:aF n (1794984045769886574,4)=some ([-23,50,-125,-7],17980115891931348994))(gN:aF n (17980115891931348994,4)=some ([54,105,-82,-65],13819126590027240918))(gO:aF n (13819126590027240918,4)=some ([-34,48,124,116],8360805673751372010))(gP:aF n (8360805673751372010,4)=some ([45,111,19,-102],11101546788561990974))(gQ:aF n (11101546788561990974,4)=some ([74,13,-88,45],3301617674701350610))(iu:aF n (3301617674701350610,6)=some ([-84,-70,-79,-117,-127,32],2334851202895766344))(fY:cD n 2=some 1)(fZ:ev n (64,2)=some [64,64])(jG:aF n (0,6)=some ([20,26,-102,102,98,-113],10346034117385188870))(iv:fF n (4,1)=some ([64,0,-64,0],[0,64,0,-64],0))(iw:fD n (3,4,2,1,1,2)=some 0)(jH:gx n (3,4,2,1,1,2)=some 1)(iy:fE n 3=some ([[],[97],[98]],[]))(jF:dT n 2=some (dt,0))(a:List Int)(k:Nat):eQ n (k+1+1) ((),((),(2,(2,((),(10346034117385188870,(0,((3,(4,(2,(1,(1,2))))),((0,(0,(0,(0,(0,(0,([],([],([],(0,([],([],([],([],([],([],(0,()))))))))))))))))),((3,(4,(2,(1,(1,(2,([[],[97],[98]],([],([20,26,-102,102,98,-113],(2,([64,0,-64,0],([0,64,0,-64],([],(a,([64,64],([],(5,()))))))))))))))))),()))))))))))=
  some ((),((),(2,((),(3301617674701350610,((3,(4,(2,(1,(1,2))))),((0,(0,(0,(0,(0,(0,([],([],([],(0,([],([],([],([],([],([],(0,()))))))))))))))))),((3,(4,(2,(1,(1,(2,([[],[97],[98]],([],([20,26,-102,102,98,-113],(2,([64,0,-64,0],([0,64,0,-64],([b0],(a,([64,64],([],(5,()))))))))))))))))),())))))))):=by
 rw[iq,g9,if_pos (by decide)];simp only[show aB .i64 (2*2)=4 from rfl];rw[fZ,fY,gK];simp only[aj];rw[gL];simp only[aj];rw[gM];simp only[aj];rw[gN];simp only[aj];rw[gO];simp only[aj];rw[gP];simp only[aj];rw[gQ];simp only[aj];have c:∀b:J1,app 280 [] [b]=some [b]:=fun _=>rfl;rw[c];simp only[aj];rw[iq,g9,if_neg (by decide)];rfl
theorem uP{k n:Nat}(b:n=k+1+1)(gK:aF n (10346034117385188870,4)=some ([20,91,123,114],8237903092696572954))(gL:aF n (8237903092696572954,4)=some ([-94,93,12,24],1794984045769886574))(gM:aF n (1794984045769886574,4)=some ([-23,50,-125,-7],17980115891931348994))(gN:aF n (17980115891931348994,4)=some ([54,105,-82,-65],13819126590027240918))(gO:aF n (13819126590027240918,4)=some ([-34,48,124,116],8360805673751372010))(gP:aF n (8360805673751372010,4)=some ([45,111,19,-102],11101546788561990974))(gQ:aF n (11101546788561990974,4)=some ([74,13,-88,45],3301617674701350610))(iu:aF n (3301617674701350610,6)=some ([-84,-70,-79,-117,-127,32],2334851202895766344))(fY:cD n 2=some 1)(fZ:ev n (64,2)=some [64,64])(jG:aF n (0,6)=some ([20,26,-102,102,98,-113],10346034117385188870))(iv:fF n (4,1)=some ([64,0,-64,0],[0,64,0,-64],0))(iw:fD n (3,4,2,1,1,2)=some 0)(jH:gx n (3,4,2,1,1,2)=some 1)(iy:fE n 3=some ([[],[97],[98]],[]))(jF:dT n 2=some (dt,0)):fh n ((3,4,2,1,1,2),0)=some (m0,0):=by
 rw[rL];simp only;rw[iw];simp only[aj];rw[g9,if_neg (by decide),iy,fY,fZ,jH];simp only[aj];rw[iv,jF];simp only[aj];rw[show aB .u64 0=0 from rfl,show aB .i64 (3*2)=6 from rfl,jG];simp only[aj];have a:=DH gK gL gM gN gO gP gQ iu fY fZ jG iv iw jH iy jF dt k;rw[←b]at a;rw[show aB .i64 (4+1)=5 from rfl,a];simp only[aj];rw[show aB .i64 (3*2)=6 from rfl,iu];rfl
theorem A0:fh 2000000000 ((3,4,2,1,1,2),0)=some (m0,0):=uP (k:=1999999998) (by decide) gK gL gM gN gO gP gQ iu fY fZ jG iv iw jH iy jF
theorem A2{n:Nat}{s:Int×Int×Int×Int×Int×Int}{t:List (List UInt8)}{e:List Int}{l:Int}{c j:List Int}{b:J1}{d g u:List Int}{p:Int}(D:t.length≤1000000000)(x:e.length≤1000000000)(w:c.length≤1000000000)(i:j.length≤1000000000)(a:Mb b)(h:d.length≤1000000000)(y:g.length≤1000000000)(z:u.length≤1000000000)(B:2≤n):
  jq n (s,(t,[]),e,l,c,j,[b],d,g,u,p)=some (s,(t,[]),e,l,c,j,[b],d,g,u,p):=by
 obtain⟨k,rfl⟩:∃k,n=k+1+1:=⟨n -2,by omega⟩;obtain⟨E,F,H,I,J,K⟩:=s;have r:app 16 [] t=some t:=by
  unfold app;rw[if_pos (by unfold room;simp;omega)];rfl
 rw[x5];simp only;rw[da x,da w,da i,da h,da y,da z,r];simp only[aj];rw[uG,g9,if_neg (by decide)];simp only[aj];rw[kX,g9,if_pos (show decide ((0:Int)<((([b]:List J1).length:Nat):Int))=true from rfl)];rw[show idx [b] 0=some b from rfl];simp only[aj];rw[da a.g1,da a.q,da a.k,da a.v,da a.o,da a.g2,da a.m1,da a.m2,da a.m3];simp only[aj];rw[show app 280 [] [b]=some [b]from rfl];simp only[aj];rw[kX,g9,if_neg (show ¬ decide (aB ch (0+1)<((([b]:List J1).length:Nat):Int))=true from Bool.false_ne_true)];rfl
theorem EY:Mb b0:=⟨by decide,by decide,by decide,by decide,by decide,by decide,by decide,by decide,by decide⟩
theorem CL:fG 2000000000 ()=some m0:=by
 rw[sM,A0];simp only[aj];rw[show jq 2000000000 m0=some m0 from A2 (by decide) (by decide) (by decide) (by decide) EY (by decide+kernel) (by decide) (by decide) (by decide)];rfl
theorem J2:rn 2000000000 (2,2,1,2) ([],[],[],[],[],()) ()=some ((some 0,0),[some (some (0,0,2),some (1,0,2))],[some [(false,none),(false,none)]],[none,some [1,0]],[some (2,1,2,some 0,some 0,0)],[some []],()):=by kernel_rfl
theorem Gl:kd 2000000000 (m0,some 0) ([some (2,1,2,some 0,some 0,0)],[some []],[],[],()) ()=
 some ((some 0,0),[some (2,1,2,some 0,some 0,1)],[some [(0,some 0)]],[some (0,none)],[some ((m0,f0),some 0,0,none,false)],()):=by kernel_rfl
theorem J3:(cv 2000000000 (some 0,[1]) ([some (some (0,0,2),some (1,0,2))],[some [(false,none),(false,none)]],[],[],[some (0,none)],[],[some ((m0,f0),some 0,0,none,false)],[],()) ([none,some [1,0]],[some (2,1,2,some 0,some 0,1)],[some [(0,some 0)]],())).bind (fun a=>
 eN (a.1.2==(0:Int))
  (eN ((((aa a.1.1):Nat):Int)==(1:Int))
   (((idx a.1.1 (0:Int))).bind fun b=>
   eN ((((aa b):Nat):Int)==(3:Int))
    (((cw 2000000000 (some 0) () (a.2.2.2.2.2.2.2.1,()))).bind fun c=>
    some (c.1==(1:Int)))
    (some false))
   (some false))
  (some false))=some true:=by kernel_rfl
theorem Gm(n:Nat)(d:fG n ()=some m0)(c:rn n (2,2,1,2) ([],[],[],[],[],()) ()=some ((some 0,0),[some (some (0,0,2),some (1,0,2))],[some [(false,none),(false,none)]],[none,some [1,0]],[some (2,1,2,some 0,some 0,0)],[some []],()))
 (hm:kd n (m0,some 0) ([some (2,1,2,some 0,some 0,0)],[some []],[],[],()) ()=
 some ((some 0,0),[some (2,1,2,some 0,some 0,1)],[some [(0,some 0)]],[some (0,none)],[some ((m0,f0),some 0,0,none,false)],()))
 (b:(cv n (some 0,[1]) ([some (some (0,0,2),some (1,0,2))],[some [(false,none),(false,none)]],[],[],[some (0,none)],[],[some ((m0,f0),some 0,0,none,false)],[],()) ([none,some [1,0]],[some (2,1,2,some 0,some 0,1)],[some [(0,some 0)]],())).bind (fun a=>
  eN (a.1.2==(0:Int))
   (eN ((((aa a.1.1):Nat):Int)==(1:Int))
    (((idx a.1.1 (0:Int))).bind fun g=>
    eN ((((aa g):Nat):Int)==(3:Int))
     (((cw n (some 0) () (a.2.2.2.2.2.2.2.1,()))).bind fun h=>
     some (h.1==(1:Int)))
     (some false))
    (some false))
   (some false))=some true):eK n ()=some true:=by
 rw[sN,c];simp only[aj];rw[show eN ((0:Int)!=0) (some true) (some (Option.isNone (some 0:Option Nat)))=some false from rfl];simp only[aj];rw[show ∀x y:Option Bool,eN false x y=y from fun _ _=>rfl,d];simp only[aj];rw[hm];simp only[aj];rw[show eN ((0:Int)!=0) (some true) (some (Option.isNone (some 0:Option Nat)))=some false from rfl];simp only[aj];rw[show ∀x y:Option Bool,eN false x y=y from fun _ _=>rfl];exact b
theorem CM:eK 2000000000 ()=some true:=Gm _ CL J2 Gl J3
end Go.Am.Pu
