import Derived.Test.YtllhngpojglipaaGreatDoorPA
import Derived.Test.YtllhngpojglipaaGreatDoorP20
set_option linter.unusedVariables false
set_option linter.unusedSimpArgs false
open Go.IntKind renaming wrap→ap
open Nat renaming le_refl→aA
open Option renaming bind_some→aa
namespace Go.Am.Pu
open Go Go.Am Go.Proofs
set_option maxRecDepth 100000
def b1:GI:=([64,64],[98,-113,20,91],[123,114,-94,93],[12,24,-23,50],[-125,-7,54,105],[64,64],8,8,8,5,3,[-82,-65],[-34,48],[124,116],8,8,4)
def m1:Mod:=((2,2,2,1,1,1),([[],[97]],[]),[20,26,-102,102],2,[64,0],[0,64],[b1],lM,[64,64],[45,111,19,-102],5)
theorem awB:bZ 2000000000 (0,4)=some ([20,26,-102,102],7401132627792533940):=by kernel_rfl
theorem awC:bZ 2000000000 (7401132627792533940,4)=some ([98,-113,20,91],6566661184467396264):=by kernel_rfl
theorem awD:bZ 2000000000 (6566661184467396264,4)=some ([123,114,-94,93],6736625987792804572):=by kernel_rfl
theorem awE:bZ 2000000000 (6736625987792804572,4)=some ([12,24,-23,50],3646985772805368400):=by kernel_rfl
theorem awF:bZ 2000000000 (3646985772805368400,4)=some ([-125,-7,54,105],7571309944655988996):=by kernel_rfl
theorem awG:bZ 2000000000 (7571309944655988996,2)=some ([-82,-65],13819126590027240918):=by kernel_rfl
theorem awH:bZ 2000000000 (13819126590027240918,2)=some ([-34,48],3492702958818716408):=by kernel_rfl
theorem awI:bZ 2000000000 (3492702958818716408,2)=some ([124,116],8360805673751372010):=by kernel_rfl
theorem awJ:bZ 2000000000 (8360805673751372010,4)=some ([45,111,19,-102],11101546788561990974):=by kernel_rfl
theorem aui:fA 2000000000 2=some 1:=by kernel_rfl
theorem auj:fA 2000000000 1=some 0:=by kernel_rfl
theorem auk:p8 2000000000 (64,2)=some [64,64]:=by kernel_rfl
theorem aul:wm 2000000000 (2,1)=some ([64,0],[0,64],0):=by kernel_rfl
theorem aum:jY 2000000000 (2,2,2,1,1,1)=some 0:=by kernel_rfl
theorem awK:nC 2000000000 (2,2,2,1,1,1)=some 1:=by kernel_rfl
theorem aun:wl 2000000000 2=some ([[],[97]],[]):=by kernel_rfl
structure Sm (n:Nat):Prop where
 r0:bZ n (0,4)=some ([20,26,-102,102],7401132627792533940)
 r1:bZ n (7401132627792533940,4)=some ([98,-113,20,91],6566661184467396264)
 r2:bZ n (6566661184467396264,4)=some ([123,114,-94,93],6736625987792804572)
 r3:bZ n (6736625987792804572,4)=some ([12,24,-23,50],3646985772805368400)
 r4:bZ n (3646985772805368400,4)=some ([-125,-7,54,105],7571309944655988996)
 r5:bZ n (7571309944655988996,2)=some ([-82,-65],13819126590027240918)
 r6:bZ n (13819126590027240918,2)=some ([-34,48],3492702958818716408)
 r7:bZ n (3492702958818716408,2)=some ([124,116],8360805673751372010)
 r8:bZ n (8360805673751372010,4)=some ([45,111,19,-102],11101546788561990974)
 o2:fA n 2=some 1
 o1:fA n 1=some 0
 s2:p8 n (64,2)=some [64,64]
 t:wm n (2,1)=some ([64,0],[0,64],0)
 c:jY n (2,2,2,1,1,1)=some 0
 h:nC n (2,2,2,1,1,1)=some 1
 x:wl n 2=some ([[],[97]],[])
 b:qK n 2=some (lM,0)
theorem awL{n:Nat}(S:Sm n)(be:List Int)(k:Nat):pf n (k+1+1) ((),(),2,1,(),7401132627792533940,0,(2,2,2,1,1,1),(0,0,0,0,0,0,[],[],[],0,[],[],[],[],[],[],0,()),(2,2,2,1,1,1,[[],[97]],[],[20,26,-102,102],2,[64,0],[0,64],[],be,[64,64],[],5,()),())=
  some ((),(),2,(),8360805673751372010,(2,2,2,1,1,1),(0,0,0,0,0,0,[],[],[],0,[],[],[],[],[],[],0,()),(2,2,2,1,1,1,[[],[97]],[],[20,26,-102,102],2,[64,0],[0,64],[b1],be,[64,64],[],5,()),()):=by
 rw[xD,af,if_pos (by decide)];simp only[show ap .i64 (2*2)=4 from rfl,show ap .i64 (1*2)=2 from rfl,show ap .i64 (2*1)=2 from rfl];rw[S.s2,S.o2,S.o1,S.r1];simp only[aa];rw[S.r2];simp only[aa];rw[S.r3];simp only[aa];rw[S.r4];simp only[aa];rw[S.r5];simp only[aa];rw[S.r6];simp only[aa];rw[S.r7];simp only[aa];have ha:∀b:GI,app 280 [] [b]=some [b]:=fun _=>rfl;rw[ha];simp only[aa];rw[xD,af,if_neg (by decide)];rfl
theorem ak5{k n:Nat}(hk:n=k+1+1)(S:Sm n):mA n ((2,2,2,1,1,1),0)=some (m1,0):=by
 rw[Tc];simp only;rw[S.c];simp only[aa];rw[af,if_neg (by decide),S.x,S.o2,S.s2,S.h];simp only[aa];rw[S.t,S.b];simp only[aa];rw[show ap .u64 0=0 from rfl,show ap .i64 (2*2)=4 from rfl,S.r0];simp only[aa];have hl:=awL S lM k;rw[←hk]at hl;rw[show ap .i64 (4+1)=5 from rfl,hl];simp only[aa];rw[show ap .i64 (2*2)=4 from rfl,S.r8];rfl
theorem aBY:Sm 2000000000:=⟨awB,awC,awD,awE,awF,awG,awH,awI,awJ,aui,auj,auk,aul,aum,awK,aun,ao5⟩
theorem arU:mA 2000000000 ((2,2,2,1,1,1),0)=some (m1,0):=ak5 (k:=1999999998) (by decide) aBY
def r1:Rq:=([1],(0,1,0,65536,1,[]),1,0,0,([],[]),[])
theorem apM:jg 2000000000 (m1,r1,[])=some ([1,1],0):=by kernel_rfl
theorem azi:ahh m1:=by
 refine⟨by decide,?_,by decide,by decide,by decide,by decide,by decide,?_,?_,by decide,by decide⟩
 ·intro x hx;have:x=[]∨x=[97]:=by simpa[m1]using hx
  rcases this with rfl |rfl<;>decide
 ·intro b hb;have:b=b1:=by simpa[m1]using hb
  subst this;exact⟨by decide,by decide,by decide,by decide,by decide,by decide,by decide,by decide,by decide⟩
 ·show lM.length≤1048576
  decide+kernel
theorem apN{n:Nat}(hn:2000000000≤n)(hs:mA n ((2,2,2,1,1,1),0)=some (m1,0))(hw:jg n (m1,r1,[])=some ([1,1],0)):j6 n ()=some true:=by
 rw[Wv,hs,aa,atH azi hn,aa];have hx1:imax (0:Int) (ap .i64 ((([(1:Int)].length:Nat):Int) -1))=0:=by rfl
 have hp:jB n (m1,r1,[1])=oL n [1]:=by
  rw[Bw,hx1];rw[show slc [(1:Int)] 0 0=some []from rfl,aa,hw,aa];show av ((0:Int)!=0) _ _=_;rw[show((0:Int)!=0)=false from rfl,cg,show slc [(1:Int)] 0 ((([(1:Int)].length:Nat):Int))=some [1]from rfl,aa];have hl6:jq n n ([1],(),(),(),[1],((([(1:Int)].length:Nat):Int)),0,m1,r1,([],()),())=some (.inr ([1],(),(),(),m1,r1,([],()),())):=by
   obtain⟨k,rfl⟩:∃k,n=k+2:=⟨n -2,by omega⟩;rw[lJ];rfl
  have aEE:dA n n ([1],(),(),(),[],[1],((([(1:Int)].length:Nat):Int)),0,m1,r1,([],()),())=some (.inr ((),[1],([],()),())):=by
   obtain⟨k,hk⟩:∃k,n=k+2:=⟨n -2,by omega⟩;rw[show dA n n=dA n (k+1+1)by rw[hk],kJ,af,if_pos (by decide),show idx [(1:Int)] 0=some 1 from rfl,aa,show slc [(1:Int)] 0 0=some []from rfl,aa,hw,aa];show av ((0:Int)!=0) _ _=_;rw[show((0:Int)!=0)=false from rfl,cg];show(idx [(1:Int),1] 1).bind _=_;rw[show idx [(1:Int),1] 1=some 1 from rfl,aa,show app 8 ([]:List Int) [1]=some [1]from rfl,aa,kJ,af,if_neg (by decide)]
  rw[hl6,aa];simp only[cY];rw[show av (decide ((r1.2.2.1:Int)<1)) (some true) (some (decide (r1.2.2.1>512)))=some false from rfl,aa,cg];rw[aEE,aa];simp only[cY]
  cases oL n [1]<;>rfl
 obtain⟨z,z1,z2,z3⟩:=YC (n:=n) (l:=[1]) (by decide) (by intro x hx;rw[List.mem_singleton]at hx;subst hx;decide) hn;have z3':vz 4294967296 z=1:=by rw[z3];rfl
 have hzl:=DY z2 (k:=1) (by rw[z3'];decide);obtain⟨u,u1,u2,u3,u4⟩:=atV (n:=n) (N:=7) z2 (by omega) hn (.inr (by rw[z3'];decide));have u3':vz 4294967296 u=128:=by rw[u3,z3'];rfl
 have ht:j5 n (m1,r1,[1],1)=some ((u,()),0):=by
  rw[F9,show av (decide ((1:Int)<0)) (some true) (some (decide ((1:Int)>8191)))=some false from rfl,aa,cg,hp,z1,aa];show av ((0:Int)!=0) _ _=_;rw[show((0:Int)!=0)=false from rfl,cg];show(tV n (1,1)).bind _=_;rw[afF (.inl rfl) (by decide) (by decide),aa,ME (by decide) hn];show(some false).bind _=_;rw[aa,cg];show(tW n ((z,()),((7:Nat):Int))).bind _=_;rw[u1];rfl
 show(j5 n (m1,r1,[1],1)).bind _=_;rw[ht,aa];obtain⟨s,s1,s2⟩:=anh (n:=n) u2 (by omega) hn;rw[u3']at s2;have s3:Mn 128 [49,50,56]:=by
  refine .inr ⟨by decide,[8,2,1],?_,by rfl,by rfl⟩;exact⟨by intro x hx;simp at hx;rcases hx with rfl |rfl |rfl<;>omega,by simp⟩
 show(av ((0:Int)==0) ((mP n (u,())).bind _) _).bind _=_;rw[show((0:Int)==0)=true from rfl,j9,s1,Mn.uniq s2 s3];rfl
theorem YU:j6 2000000000 ()=some true:=apN (aA _) arU apM
end Go.Am.Pu
