import Derived.Test.YtpdgokkbljiccaaGreatP2
import Derived.Test.YtpdgokkbljiccaaGreatP3
set_option linter.unusedVariables false
set_option linter.unusedSimpArgs false
open Go.IntKind renaming i64→bx,wrap→ae
open List renaming length→ac
open Option renaming bind_some→aa
namespace Go.Am.Pu
open Go Go.Am Go.Proofs
set_option maxRecDepth 100000
def ga:List Int:=[0,1,1,2,2,3,4,4,5,6,7,8,9,10,11,12,13,14,15,16,17,18,19,20,21,22,23,24,25,27,28,29,30,31,32,33,34,35,36,37,39,40,41,42,43,44,45,46,47,48,49,50,51,52,53,54,55,56,57,58,59,60,61,62,63,64,65,66,67,68,69,70,71,72,73,74,75,76,77,78,79,80,81,82,83,84,85,86,87,88,89,90,91,92,93,94,94,95,96,97,98,99,100,101,102,103,104,105,106,107,108,109,110,111,112,113,114,115,116,117,118,119,120,121,122,123,124,125,-2,-2,-2,-2,-2,-2,-2,-2,-2,-2,-2,-2,-2,-2,-2,-2,-2,-2,-2,-2,-2,-2,-2,-2,-2,-2,-2,-2,-2,-2,-2,-2,-2,-1,-1,-1,-1,-1,-1,-1,-1,-1,-1,-1,-1,-1,-1,-1,-1,-1,-1,-1,-1,-1,-1,-1,-1,-1,-1,-1,-1,-1,-1,-1,-1,-1,-1,-1,-1,-1,-1,-1,-1,-1,-1,-1,-1,-1,-1,-1,-1,-1,-1,-1,-1,-1,-1,-1,-1,-2,-2,-2,-2,-2,-2,-2,-2,-2,-2,-2,-3,-3,-3,-3,-3,-3,-3,-3,-3,-3,-3,-3,-3,-3,-3,-3,-3,-3,-3,-3,-3,-3,-2,-2,-2,-1,-1,0]
def b0:vz:=([64,64],[20,91,123,114],[-94,93,12,24],[-23,50,-125,-7],[54,105,-82,-65],[64,64],8,8,8,5,3,[-34,48,124,116],[45,111,19,-102],[74,13,-88,45],8,8,5)
def f0:En:=(1,[64,0,-64,0],[0,64,0,-64],ga)
def l7(i:Nat):Int:=if i>127 then(i:Int) -256 else i
theorem Vf:cM (fun i=>bT 2000000000 (2,l7 (16*0+i))) 16=cM (fun i=>some (ga.getD (16*0+i) 0)) 16:=by kernel_rfl
theorem Vg:cM (fun i=>bT 2000000000 (2,l7 (16*1+i))) 16=cM (fun i=>some (ga.getD (16*1+i) 0)) 16:=by kernel_rfl
theorem Vh:cM (fun i=>bT 2000000000 (2,l7 (16*2+i))) 16=cM (fun i=>some (ga.getD (16*2+i) 0)) 16:=by kernel_rfl
theorem Vi:cM (fun i=>bT 2000000000 (2,l7 (16*3+i))) 16=cM (fun i=>some (ga.getD (16*3+i) 0)) 16:=by kernel_rfl
theorem Vj:cM (fun i=>bT 2000000000 (2,l7 (16*4+i))) 16=cM (fun i=>some (ga.getD (16*4+i) 0)) 16:=by kernel_rfl
theorem Vk:cM (fun i=>bT 2000000000 (2,l7 (16*5+i))) 16=cM (fun i=>some (ga.getD (16*5+i) 0)) 16:=by kernel_rfl
theorem Vl:cM (fun i=>bT 2000000000 (2,l7 (16*6+i))) 16=cM (fun i=>some (ga.getD (16*6+i) 0)) 16:=by kernel_rfl
theorem Vm:cM (fun i=>bT 2000000000 (2,l7 (16*7+i))) 16=cM (fun i=>some (ga.getD (16*7+i) 0)) 16:=by kernel_rfl
theorem Vn:cM (fun i=>bT 2000000000 (2,l7 (16*8+i))) 16=cM (fun i=>some (ga.getD (16*8+i) 0)) 16:=by kernel_rfl
theorem Vo:cM (fun i=>bT 2000000000 (2,l7 (16*9+i))) 16=cM (fun i=>some (ga.getD (16*9+i) 0)) 16:=by kernel_rfl
theorem SQ:cM (fun i=>bT 2000000000 (2,l7 (16*10+i))) 16=cM (fun i=>some (ga.getD (16*10+i) 0)) 16:=by kernel_rfl
theorem SS:cM (fun i=>bT 2000000000 (2,l7 (16*11+i))) 16=cM (fun i=>some (ga.getD (16*11+i) 0)) 16:=by kernel_rfl
theorem SU:cM (fun i=>bT 2000000000 (2,l7 (16*12+i))) 16=cM (fun i=>some (ga.getD (16*12+i) 0)) 16:=by kernel_rfl
theorem SV:cM (fun i=>bT 2000000000 (2,l7 (16*13+i))) 16=cM (fun i=>some (ga.getD (16*13+i) 0)) 16:=by kernel_rfl
theorem SW:cM (fun i=>bT 2000000000 (2,l7 (16*14+i))) 16=cM (fun i=>some (ga.getD (16*14+i) 0)) 16:=by kernel_rfl
theorem SX:cM (fun i=>bT 2000000000 (2,l7 (16*15+i))) 16=cM (fun i=>some (ga.getD (16*15+i) 0)) 16:=by kernel_rfl
theorem WP:∀j:Nat,j<16→cM (fun i=>bT 2000000000 (2,l7 (16*j+i))) 16=cM (fun i=>some (ga.getD (16*j+i) 0)) 16
 |0,_=>Vf
 |1,_=>Vg
 |2,_=>Vh
 |3,_=>Vi
 |4,_=>Vj
 |5,_=>Vk
 |6,_=>Vl
 |7,_=>Vm
 |8,_=>Vn
 |9,_=>Vo
 |10,_=>SQ
 |11,_=>SS
 |12,_=>SU
 |13,_=>SV
 |14,_=>SW
 |15,_=>SX
 |n+16,h=>by omega
theorem ach{i:Nat}(h:i<256):bT 2000000000 (2,l7 i)=some (ga.getD i 0):=by
 have b:=WP (i/16) (by omega);have a:=congrArg (fun l=>l[i % 16]?) b;simp only[Xh _ (show i % 16<16 by omega)]at a;rw[show 16*(i/16)+i % 16=i by omega]at a;exact Option.some.inj a
theorem YA:cM (fun i=>ga.getD i 0) 256=ga:=by decide+kernel
theorem P3{n:Nat}(l:1000≤n)(c:∀i:Nat,i<256→bT n (2,l7 i)=some (ga.getD i 0)):iq n 2=some (ga,0):=by
 rw[IX,show(aw (decide ((2:Int)<1)) (some true) (some (decide ((2:Int)>3))))=some false from rfl,aa];rw[show ∀x y:Option (List Int×Int),aw false x y=y from fun _ _=>rfl];have d:=aQ (L:=fun k i s=>gZ n k (2,s,i,())) (len:=256) (r:=(ga,())) (fun i=>cM (fun i=>ga.getD i 0) i) ?_ ?_ n (by omega)
 ·rw[show cM (fun i=>ga.getD i 0) 0=[]from rfl]at d;rw[d];rfl
 ·intro k i j;show gZ n (k+1) _=_;rw[sC];simp only[ag,dU];rw[jO,bu (x:=(i:Int) -256)];have a:=c i j;have g:=dQ (b:=1) (fun i=>ga.getD i 0) (i:=i) (by unfold room;omega) (by unfold room;omega);unfold l7 at a
  by_cases h:i>127
  ·rw[if_pos h]at a;rw[jO];simp only[aa];rw[a];simp only[aa];rw[g,bu];rfl
  ·rw[if_neg h]at a;rw[fu];simp only[aa];rw[a];simp only[aa];rw[g,bu];rfl
 ·intro k;show gZ n (k+1) _=_;rw[sC,ag,if_neg (by decide)];rw[YA]
theorem sR:iq 2000000000 2=some (ga,0):=P3 (by omega) fun i a=>ach a
theorem nH:aV 2000000000 (10346034117385188870,4)=some ([20,91,123,114],8237903092696572954):=by kernel_rfl
theorem nI:aV 2000000000 (8237903092696572954,4)=some ([-94,93,12,24],1794984045769886574):=by kernel_rfl
theorem nJ:aV 2000000000 (1794984045769886574,4)=some ([-23,50,-125,-7],17980115891931348994):=by kernel_rfl
theorem nK:aV 2000000000 (17980115891931348994,4)=some ([54,105,-82,-65],13819126590027240918):=by kernel_rfl
theorem nL:aV 2000000000 (13819126590027240918,4)=some ([-34,48,124,116],8360805673751372010):=by kernel_rfl
theorem nM:aV 2000000000 (8360805673751372010,4)=some ([45,111,19,-102],11101546788561990974):=by kernel_rfl
theorem nN:aV 2000000000 (11101546788561990974,4)=some ([74,13,-88,45],3301617674701350610):=by kernel_rfl
theorem pL:aV 2000000000 (3301617674701350610,6)=some ([-84,-70,-79,-117,-127,32],2334851202895766344):=by kernel_rfl
theorem l9:dP 2000000000 2=some 1:=by kernel_rfl
theorem ma:je 2000000000 (64,2)=some [64,64]:=by kernel_rfl
theorem sS:aV 2000000000 (0,6)=some ([20,26,-102,102,98,-113],10346034117385188870):=by kernel_rfl
theorem pM:lf 2000000000 (4,1)=some ([64,0,-64,0],[0,64,0,-64],0):=by kernel_rfl
theorem pN:fe 2000000000 (3,4,2,1,1,2)=some 0:=by kernel_rfl
theorem sT:hW 2000000000 (3,4,2,1,1,2)=some 1:=by kernel_rfl
theorem pO:ld 2000000000 3=some ([[],[97],[98]],[]):=by kernel_rfl
def m0:(Int×Int×Int×Int×Int×Int)×((List (List UInt8))×(List (Int×Int×Int)))×(List Int)×Int×(List Int)×(List Int)×(List vz)×(List Int)×(List Int)×(List Int)×Int:=
 ((3,4,2,1,1,2),([[],[97],[98]],[]),[20,26,-102,102,98,-113],2,[64,0,-64,0],[0,64,0,-64],[b0],ga,[64,64],[-84,-70,-79,-117,-127,32],5)
theorem WQ{n:Nat}(nH:aV n (10346034117385188870,4)=some ([20,91,123,114],8237903092696572954))(nI:aV n (8237903092696572954,4)=some ([-94,93,12,24],1794984045769886574))(nJ:aV n (1794984045769886574,4)=some ([-23,50,-125,-7],17980115891931348994))(nK:aV n (17980115891931348994,4)=some ([54,105,-82,-65],13819126590027240918))(nL:aV n (13819126590027240918,4)=some ([-34,48,124,116],8360805673751372010))(nM:aV n (8360805673751372010,4)=some ([45,111,19,-102],11101546788561990974))(nN:aV n (11101546788561990974,4)=some ([74,13,-88,45],3301617674701350610))(pL:aV n (3301617674701350610,6)=some ([-84,-70,-79,-117,-127,32],2334851202895766344))(l9:dP n 2=some 1)(ma:je n (64,2)=some [64,64])(sS:aV n (0,6)=some ([20,26,-102,102,98,-113],10346034117385188870))(pM:lf n (4,1)=some ([64,0,-64,0],[0,64,0,-64],0))(pN:fe n (3,4,2,1,1,2)=some 0)(sT:hW n (3,4,2,1,1,2)=some 1)(pO:ld n 3=some ([[],[97],[98]],[]))(sR:iq n 2=some (ga,0))(a:List Int)(k:Nat):jQ n (k+1+1) ((),((),(2,(2,((),(10346034117385188870,(0,((3,(4,(2,(1,(1,2))))),((0,(0,(0,(0,(0,(0,([],([],([],(0,([],([],([],([],([],([],(0,()))))))))))))))))),((3,(4,(2,(1,(1,(2,([[],[97],[98]],([],([20,26,-102,102,98,-113],(2,([64,0,-64,0],([0,64,0,-64],([],(a,([64,64],([],(5,()))))))))))))))))),()))))))))))=
  some ((),((),(2,((),(3301617674701350610,((3,(4,(2,(1,(1,2))))),((0,(0,(0,(0,(0,(0,([],([],([],(0,([],([],([],([],([],([],(0,()))))))))))))))))),((3,(4,(2,(1,(1,(2,([[],[97],[98]],([],([20,26,-102,102,98,-113],(2,([64,0,-64,0],([0,64,0,-64],([b0],(a,([64,64],([],(5,()))))))))))))))))),())))))))):=by
 rw[pF,ag,if_pos (by decide)];simp only[show ae .i64 (2*2)=4 from rfl];rw[ma,l9,nH];simp only[aa];rw[nI];simp only[aa];rw[nJ];simp only[aa];rw[nK];simp only[aa];rw[nL];simp only[aa];rw[nM];simp only[aa];rw[nN];simp only[aa];have c:∀b:vz,app 280 [] [b]=some [b]:=fun _=>rfl;rw[c];simp only[aa];rw[pF,ag,if_neg (by decide)];rfl
theorem LN{k n:Nat}(b:n=k+1+1)(nH:aV n (10346034117385188870,4)=some ([20,91,123,114],8237903092696572954))(nI:aV n (8237903092696572954,4)=some ([-94,93,12,24],1794984045769886574))(nJ:aV n (1794984045769886574,4)=some ([-23,50,-125,-7],17980115891931348994))(nK:aV n (17980115891931348994,4)=some ([54,105,-82,-65],13819126590027240918))(nL:aV n (13819126590027240918,4)=some ([-34,48,124,116],8360805673751372010))(nM:aV n (8360805673751372010,4)=some ([45,111,19,-102],11101546788561990974))(nN:aV n (11101546788561990974,4)=some ([74,13,-88,45],3301617674701350610))(pL:aV n (3301617674701350610,6)=some ([-84,-70,-79,-117,-127,32],2334851202895766344))(l9:dP n 2=some 1)(ma:je n (64,2)=some [64,64])(sS:aV n (0,6)=some ([20,26,-102,102,98,-113],10346034117385188870))(pM:lf n (4,1)=some ([64,0,-64,0],[0,64,0,-64],0))(pN:fe n (3,4,2,1,1,2)=some 0)(sT:hW n (3,4,2,1,1,2)=some 1)(pO:ld n 3=some ([[],[97],[98]],[]))(sR:iq n 2=some (ga,0)):kg n ((3,4,2,1,1,2),0)=some (m0,0):=by
 rw[Gx];simp only;rw[pN];simp only[aa];rw[ag,if_neg (by decide),pO,l9,ma,sT];simp only[aa];rw[pM,sR];simp only[aa];rw[show ae .u64 0=0 from rfl,show ae .i64 (3*2)=6 from rfl,sS];simp only[aa];have a:=WQ nH nI nJ nK nL nM nN pL l9 ma sS pM pN sT pO sR ga k;rw[←b]at a;rw[show ae .i64 (4+1)=5 from rfl,a];simp only[aa];rw[show ae .i64 (3*2)=6 from rfl,pL];rfl
theorem SY:kg 2000000000 ((3,4,2,1,1,2),0)=some (m0,0):=LN (k:=1999999998) (by decide) nH nI nJ nK nL nM nN pL l9 ma sS pM pN sT pO sR
theorem SZ{n:Nat}{s:Int×Int×Int×Int×Int×Int}{t:List (List UInt8)}{e:List Int}{l:Int}{c j:List Int}{b:vz}{d g u:List Int}{p:Int}(D:t.length≤1000000000)(x:e.length≤1000000000)(w:c.length≤1000000000)(i:j.length≤1000000000)(a:aap b)(h:d.length≤1000000000)(y:g.length≤1000000000)(z:u.length≤1000000000)(B:2≤n):
  r8 n (s,(t,[]),e,l,c,j,[b],d,g,u,p)=some (s,(t,[]),e,l,c,j,[b],d,g,u,p):=by
 obtain⟨k,rfl⟩:∃k,n=k+1+1:=⟨n -2,by omega⟩;obtain⟨E,F,H,I,J,K⟩:=s;have r:app 16 [] t=some t:=by
  unfold app;rw[if_pos (by unfold room;simp;omega)];rfl
 rw[Pw];simp only;rw[bU x,bU w,bU i,bU h,bU y,bU z,r];simp only[aa];rw[Lw,ag,if_neg (by decide)];simp only[aa];rw[wF,ag,if_pos (show decide ((0:Int)<((([b]:List vz).length:Nat):Int))=true from rfl)];rw[show idx [b] 0=some b from rfl];simp only[aa];rw[bU a.g1,bU a.q,bU a.k,bU a.v,bU a.o,bU a.g2,bU a.m1,bU a.m2,bU a.m3];simp only[aa];rw[show app 280 [] [b]=some [b]from rfl];simp only[aa];rw[wF,ag,if_neg (show ¬ decide (ae bx (0+1)<((([b]:List vz).length:Nat):Int))=true from Bool.false_ne_true)];rfl
theorem YB:aap b0:=⟨by decide,by decide,by decide,by decide,by decide,by decide,by decide,by decide,by decide⟩
theorem Vp:lg 2000000000 ()=some m0:=by
 rw[IY,SY];simp only[aa];rw[show r8 2000000000 m0=some m0 from SZ (by decide) (by decide) (by decide) (by decide) YB (by decide+kernel) (by decide) (by decide) (by decide)];rfl
theorem aeq:FX 2000000000 (2,2,1,2) ([],[],[],[],[],()) ()=some ((some 0,0),[some (some (0,0,2),some (1,0,2))],[some [(false,none),(false,none)]],[none,some [1,0]],[some (2,1,2,some 0,some 0,0)],[some []],()):=by kernel_rfl
theorem aaE:tW 2000000000 (m0,some 0) ([some (2,1,2,some 0,some 0,0)],[some []],[],[],()) ()=
 some ((some 0,0),[some (2,1,2,some 0,some 0,1)],[some [(0,some 0)]],[some (0,none)],[some ((m0,f0),some 0,0,none,false)],()):=by kernel_rfl
theorem aer:(fP 2000000000 (some 0,[1]) ([some (some (0,0,2),some (1,0,2))],[some [(false,none),(false,none)]],[],[],[some (0,none)],[],[some ((m0,f0),some 0,0,none,false)],[],()) ([none,some [1,0]],[some (2,1,2,some 0,some 0,1)],[some [(0,some 0)]],())).bind (fun a=>
 aw (a.1.2==(0:Int))
  (aw ((((ac a.1.1):Nat):Int)==(1:Int))
   (((idx a.1.1 (0:Int))).bind fun b=>
   aw ((((ac b):Nat):Int)==(3:Int))
    (((fQ 2000000000 (some 0) () (a.2.2.2.2.2.2.2.1,()))).bind fun c=>
    some (c.1==(1:Int)))
    (some false))
   (some false))
  (some false))=some true:=by kernel_rfl
theorem aaF(n:Nat)(d:lg n ()=some m0)(c:FX n (2,2,1,2) ([],[],[],[],[],()) ()=some ((some 0,0),[some (some (0,0,2),some (1,0,2))],[some [(false,none),(false,none)]],[none,some [1,0]],[some (2,1,2,some 0,some 0,0)],[some []],()))
 (hm:tW n (m0,some 0) ([some (2,1,2,some 0,some 0,0)],[some []],[],[],()) ()=
 some ((some 0,0),[some (2,1,2,some 0,some 0,1)],[some [(0,some 0)]],[some (0,none)],[some ((m0,f0),some 0,0,none,false)],()))
 (b:(fP n (some 0,[1]) ([some (some (0,0,2),some (1,0,2))],[some [(false,none),(false,none)]],[],[],[some (0,none)],[],[some ((m0,f0),some 0,0,none,false)],[],()) ([none,some [1,0]],[some (2,1,2,some 0,some 0,1)],[some [(0,some 0)]],())).bind (fun a=>
  aw (a.1.2==(0:Int))
   (aw ((((ac a.1.1):Nat):Int)==(1:Int))
    (((idx a.1.1 (0:Int))).bind fun g=>
    aw ((((ac g):Nat):Int)==(3:Int))
     (((fQ n (some 0) () (a.2.2.2.2.2.2.2.1,()))).bind fun h=>
     some (h.1==(1:Int)))
     (some false))
    (some false))
   (some false))=some true):fZ n ()=some true:=by
 rw[IZ,c];simp only[aa];rw[show aw ((0:Int)!=0) (some true) (some (Option.isNone (some 0:Option Nat)))=some false from rfl];simp only[aa];rw[show ∀x y:Option Bool,aw false x y=y from fun _ _=>rfl,d];simp only[aa];rw[hm];simp only[aa];rw[show aw ((0:Int)!=0) (some true) (some (Option.isNone (some 0:Option Nat)))=some false from rfl];simp only[aa];rw[show ∀x y:Option Bool,aw false x y=y from fun _ _=>rfl];exact b
theorem J4:fZ 2000000000 ()=some true:=aaF _ Vp aeq aaE aer
end Go.Am.Pu
