import Derived.Test.YtllhngpojglipaaGreatDoorPA
import Derived.Test.YtllhngpojglipaaGreatDoorP8
import Derived.Test.YtllhngpojglipaaGreatDoorP5
import Derived.Test.YtllhngpojglipaaGreatDoorA4
set_option linter.unusedVariables false
set_option linter.unusedSimpArgs false
open Go.IntKind renaming wrap→ae
open Nat renaming le_refl→az,le_trans→ei
open Option renaming bind_some→aa
namespace Go.Am.Pu
open Go Go.Am Go.Proofs
set_option maxRecDepth 100000
def b1:FP:=([64,64],[98,-113,20,91],[123,114,-94,93],[12,24,-23,50],[-125,-7,54,105],[64,64],8,8,8,5,3,[-82,-65],[-34,48],[124,116],8,8,4)
def m1:Mod:=((2,2,2,1,1,1),([[],[97]],[]),[20,26,-102,102],2,[64,0],[0,64],[b1],lh,[64,64],[45,111,19,-102],5)
theorem aui:b0 2000000000 (0,4)=some ([20,26,-102,102],7401132627792533940):=by kernel_rfl
theorem auj:b0 2000000000 (7401132627792533940,4)=some ([98,-113,20,91],6566661184467396264):=by kernel_rfl
theorem auk:b0 2000000000 (6566661184467396264,4)=some ([123,114,-94,93],6736625987792804572):=by kernel_rfl
theorem aul:b0 2000000000 (6736625987792804572,4)=some ([12,24,-23,50],3646985772805368400):=by kernel_rfl
theorem aum:b0 2000000000 (3646985772805368400,4)=some ([-125,-7,54,105],7571309944655988996):=by kernel_rfl
theorem aun:b0 2000000000 (7571309944655988996,2)=some ([-82,-65],13819126590027240918):=by kernel_rfl
theorem auo:b0 2000000000 (13819126590027240918,2)=some ([-34,48],3492702958818716408):=by kernel_rfl
theorem aup:b0 2000000000 (3492702958818716408,2)=some ([124,116],8360805673751372010):=by kernel_rfl
theorem auq:b0 2000000000 (8360805673751372010,4)=some ([45,111,19,-102],11101546788561990974):=by kernel_rfl
theorem asf:fc 2000000000 2=some 1:=by kernel_rfl
theorem asg:fc 2000000000 1=some 0:=by kernel_rfl
theorem ash:pv 2000000000 (64,2)=some [64,64]:=by kernel_rfl
theorem asi:vq 2000000000 (2,1)=some ([64,0],[0,64],0):=by kernel_rfl
theorem asj:jI 2000000000 (2,2,2,1,1,1)=some 0:=by kernel_rfl
theorem aur:mW 2000000000 (2,2,2,1,1,1)=some 1:=by kernel_rfl
theorem asl:vp 2000000000 2=some ([[],[97]],[]):=by kernel_rfl
structure Sm (n:Nat):Prop where
 r0:b0 n (0,4)=some ([20,26,-102,102],7401132627792533940)
 r1:b0 n (7401132627792533940,4)=some ([98,-113,20,91],6566661184467396264)
 r2:b0 n (6566661184467396264,4)=some ([123,114,-94,93],6736625987792804572)
 r3:b0 n (6736625987792804572,4)=some ([12,24,-23,50],3646985772805368400)
 r4:b0 n (3646985772805368400,4)=some ([-125,-7,54,105],7571309944655988996)
 r5:b0 n (7571309944655988996,2)=some ([-82,-65],13819126590027240918)
 r6:b0 n (13819126590027240918,2)=some ([-34,48],3492702958818716408)
 r7:b0 n (3492702958818716408,2)=some ([124,116],8360805673751372010)
 r8:b0 n (8360805673751372010,4)=some ([45,111,19,-102],11101546788561990974)
 o2:fc n 2=some 1
 o1:fc n 1=some 0
 s2:pv n (64,2)=some [64,64]
 t:vq n (2,1)=some ([64,0],[0,64],0)
 c:jI n (2,2,2,1,1,1)=some 0
 h:mW n (2,2,2,1,1,1)=some 1
 x:vp n 2=some ([[],[97]],[])
 b:qf n 2=some (lh,0)
theorem aus{n:Nat}(S:Sm n)(a:List Int)(k:Nat):ov n (k+1+1) ((),(),2,1,(),7401132627792533940,0,(2,2,2,1,1,1),(0,0,0,0,0,0,[],[],[],0,[],[],[],[],[],[],0,()),(2,2,2,1,1,1,[[],[97]],[],[20,26,-102,102],2,[64,0],[0,64],[],a,[64,64],[],5,()),())=
  some ((),(),2,(),8360805673751372010,(2,2,2,1,1,1),(0,0,0,0,0,0,[],[],[],0,[],[],[],[],[],[],0,()),(2,2,2,1,1,1,[[],[97]],[],[20,26,-102,102],2,[64,0],[0,64],[b1],a,[64,64],[],5,()),()):=by
 rw[wV,ag,if_pos (by decide)];simp only[show ae .i64 (2*2)=4 from rfl,show ae .i64 (1*2)=2 from rfl,show ae .i64 (2*1)=2 from rfl];rw[S.s2,S.o2,S.o1,S.r1];simp only[aa];rw[S.r2];simp only[aa];rw[S.r3];simp only[aa];rw[S.r4];simp only[aa];rw[S.r5];simp only[aa];rw[S.r6];simp only[aa];rw[S.r7];simp only[aa];have c:∀b:FP,app 280 [] [b]=some [b]:=fun _=>rfl;rw[c];simp only[aa];rw[wV,ag,if_neg (by decide)];rfl
theorem ajL{k n:Nat}(d:n=k+1+1)(S:Sm n):lX n ((2,2,2,1,1,1),0)=some (m1,0):=by
 rw[Sg];simp only;rw[S.c];simp only[aa];rw[ag,if_neg (by decide),S.x,S.o2,S.s2,S.h];simp only[aa];rw[S.t,S.b];simp only[aa];rw[show ae .u64 0=0 from rfl,show ae .i64 (2*2)=4 from rfl,S.r0];simp only[aa];have a:=aus S lh k;rw[←d]at a;rw[show ae .i64 (4+1)=5 from rfl,a];simp only[aa];rw[show ae .i64 (2*2)=4 from rfl,S.r8];rfl
theorem ayF:Sm 2000000000:=⟨aui,auj,auk,aul,aum,aun,auo,aup,auq,asf,asg,ash,asi,asj,aur,asl,ans⟩
theorem ap2:lX 2000000000 ((2,2,2,1,1,1),0)=some (m1,0):=ajL (k:=1999999998) (by decide) ayF
def r1:Rq:=([1],(0,1,0,65536,1,[]),1,0,0,([],[]),[])
theorem an8:iW 2000000000 (m1,r1,[])=some ([1,1],0):=by kernel_rfl
theorem awB:agf m1:=by
 refine⟨by decide,?_,by decide,by decide,by decide,by decide,by decide,?_,?_,by decide,by decide⟩
 ·intro x c;have:x=[]∨x=[97]:=by simpa[m1]using c
  rcases this with rfl |rfl<;>decide
 ·intro b a;have:b=b1:=by simpa[m1]using a
  subst this;exact⟨by decide,by decide,by decide,by decide,by decide,by decide,by decide,by decide,by decide⟩
 ·show lh.length≤1048576
  decide+kernel
theorem an9{n:Nat}(c:Hn0 n)(r:lX n ((2,2,2,1,1,1),0)=some (m1,0))(i:iW n (m1,r1,[])=some ([1,1],0)):gE n ()=some true:=by
 rw[VK,r,aa,arF awB c,aa];have g:imax (0:Int) (ae .i64 ((([(1:Int)].length:Nat):Int) -1))=0:=by rfl
 have q:jl n (m1,r1,[1])=nZ n [1]:=by
  rw[AE,g];rw[show slc [(1:Int)] 0 0=some []from rfl,aa,i,aa];show av ((0:Int)!=0) _ _=_;rw[show((0:Int)!=0)=false from rfl,bU,show slc [(1:Int)] 0 ((([(1:Int)].length:Nat):Int))=some [1]from rfl,aa];have e:jc n n ([1],(),(),(),[1],((([(1:Int)].length:Nat):Int)),0,m1,r1,([],()),())=some (.inr ([1],(),(),(),m1,r1,([],()),())):=by
   obtain⟨k,rfl⟩:∃k,n=k+2:=⟨n -2,by omega⟩;rw[ld];rfl
  have b:dt n n ([1],(),(),(),[],[1],((([(1:Int)].length:Nat):Int)),0,m1,r1,([],()),())=some (.inr ((),[1],([],()),())):=by
   obtain⟨k,p⟩:∃k,n=k+2:=⟨n -2,by omega⟩;rw[show dt n n=dt n (k+1+1)by rw[p],kg,ag,if_pos (by decide),show idx [(1:Int)] 0=some 1 from rfl,aa,show slc [(1:Int)] 0 0=some []from rfl,aa,i,aa];show av ((0:Int)!=0) _ _=_;rw[show((0:Int)!=0)=false from rfl,bU];show(idx [(1:Int),1] 1).bind _=_;rw[show idx [(1:Int),1] 1=some 1 from rfl,aa,show app 8 ([]:List Int) [1]=some [1]from rfl,aa,kg,ag,if_neg (by decide)]
  rw[e,aa];simp only[cI];rw[show av (decide ((r1.2.2.1:Int)<1)) (some true) (some (decide (r1.2.2.1>512)))=some false from rfl,aa,bU];rw[b,aa];simp only[cI]
  cases nZ n [1]<;>rfl
 obtain⟨z,H,o,I⟩:=XY (n:=n) (l:=[1]) (by decide) (by intro x d;rw[List.mem_singleton]at d;subst d;decide) c;have a:vz 4294967296 z=1:=by rw[I];rfl
 have w:=xm o (k:=1) (by rw[a];decide);obtain⟨u,D,E,F,J⟩:=arR (n:=n) (N:=7) o (by omega) c (.inr (by rw[a];decide));have h:vz 4294967296 u=128:=by rw[F,a];rfl
 have t:gD n (m1,r1,[1],1)=some ((u,()),0):=by
  rw[Fi,show av (decide ((1:Int)<0)) (some true) (some (decide ((1:Int)>8191)))=some false from rfl,aa,bU,q,H,aa];show av ((0:Int)!=0) _ _=_;rw[show((0:Int)!=0)=false from rfl,bU];show(sW n (1,1)).bind _=_;rw[aeK (.inl rfl) (by decide) (by decide),aa,LP (by decide) c];show(some false).bind _=_;rw[aa,bU];show(sX n ((z,()),((7:Nat):Int))).bind _=_;rw[D];rfl
 show(gD n (m1,r1,[1],1)).bind _=_;rw[t,aa];obtain⟨s,y,j⟩:=alN (n:=n) E (by omega) c;rw[h]at j;have B:Lz 128 [49,50,56]:=by
  refine .inr ⟨by decide,[8,2,1],?_,by rfl,by rfl⟩;exact⟨by intro x d;simp at d;rcases d with rfl |rfl |rfl<;>omega,by simp⟩
 show(av ((0:Int)==0) ((mh n (u,())).bind _) _).bind _=_;rw[show((0:Int)==0)=true from rfl,ii,y,Lz.uniq j B];rfl
theorem LU:gE 2000000000 ()=some true:=an9 (az _) ap2 an8
open Go Go.Am
abbrev Mu:Ty:=.sl (.int .i8)
abbrev aoa:Ty:=.sl (.int .i64)
abbrev TN:Ty:=.int .i64
abbrev ajM:Ty:=.pair Mu (.pair Mu (.pair Mu (.pair Mu (.pair Mu (.pair Mu (.pair TN (.pair TN (.pair TN (.pair TN (.pair TN (.pair Mu (.pair Mu (.pair Mu (.pair TN (.pair TN TN)))))))))))))))
theorem asm{α:Type}{f:α→Nat}(h:∀x,1≤f x):∀l:List α,l.length≤(l.map f).sum
 |[]=>by simp
 |x::l=>by
  have:=asm h l;have:=h x;simp;omega
theorem aoU{α:Type}{f:α→Nat}:∀{l:List α} {x:α},x∈l→f x≤(l.map f).sum
 |y::l,x,h=>by
  rcases List.mem_cons.1 h with rfl |h
  ·simp
  ·have:=aoU (f:=f) h;simp;omega
theorem rU{e:Ty}(a:∀x:e.den,1≤bt e x)(l:List e.den):l.length+1≤bt (.sl e) l:=by
 have:=asm (f:=bt e) a l;show _≤1+(l.map (bt e)).sum;omega
theorem aml{e:Ty}{l:List e.den}{x:e.den}(h:x∈l):bt e x≤bt (.sl e) l:=by
 have:=aoU (f:=bt e) h;show _≤1+(l.map (bt e)).sum;omega
theorem asn(l:List Int):l.length+1≤bt Mu l:=rU (e:=.int .i8) (fun _=>az 1) l
theorem aso(l:List Int):l.length+1≤bt aoa l:=rU (e:=.int .i64) (fun _=>az 1) l
theorem PZ{l:List Int}(h:Yp Mu l):bh l:=fun x a=>h x a
theorem aAD{b:FP}(h:Yp ajM b):OkB b:=⟨PZ h.1,PZ h.2.1,PZ h.2.2.1,PZ h.2.2.2.1,PZ h.2.2.2.2.1,PZ h.2.2.2.2.2.1,PZ h.2.2.2.2.2.2.2.2.2.2.2.1,PZ h.2.2.2.2.2.2.2.2.2.2.2.2.1,PZ h.2.2.2.2.2.2.2.2.2.2.2.2.2.1⟩
theorem awC{a0 a1 a2 a3 a4 a5 a6 a7 a8 a9 a10 a11 a12 a13 a14 a15 a16:Nat}(h:a0+(a1+(a2+(a3+(a4+(a5+(a6+(a7+(a8+(a9+(a10+(a11+(a12+(a13+(a14+(a15+(a16))))))))))))))))≤1048576):a0≤1048576∧a1≤1048576∧a2≤1048576∧a3≤1048576∧a4≤1048576∧a5≤1048576∧a11≤1048576∧a12≤1048576∧a13≤1048576:=by omega
theorem ajN{l:List Int}(h:bt Mu l≤1048576):l.length≤1000000000:=by
 have:=asn l;omega
theorem ayG{b:FP}(h:bt ajM b≤1048576):arA b:=by
 obtain⟨a,c,d,e,g,i,j,k,l⟩:=awC (a0:=bt Mu b.1) (a1:=bt Mu b.2.1) (a2:=bt Mu b.2.2.1) (a3:=bt Mu b.2.2.2.1) (a4:=bt Mu b.2.2.2.2.1) (a5:=bt Mu b.2.2.2.2.2.1) (a6:=bt TN b.2.2.2.2.2.2.1) (a7:=bt TN b.2.2.2.2.2.2.2.1) (a8:=bt TN b.2.2.2.2.2.2.2.2.1) (a9:=bt TN b.2.2.2.2.2.2.2.2.2.1) (a10:=bt TN b.2.2.2.2.2.2.2.2.2.2.1) (a11:=bt Mu b.2.2.2.2.2.2.2.2.2.2.2.1) (a12:=bt Mu b.2.2.2.2.2.2.2.2.2.2.2.2.1) (a13:=bt Mu b.2.2.2.2.2.2.2.2.2.2.2.2.2.1) (a14:=bt TN b.2.2.2.2.2.2.2.2.2.2.2.2.2.2.1) (a15:=bt TN b.2.2.2.2.2.2.2.2.2.2.2.2.2.2.2.1) (a16:=bt TN b.2.2.2.2.2.2.2.2.2.2.2.2.2.2.2.2) h;exact⟨ajN a,ajN c,ajN d,ajN e,ajN g,ajN i,ajN j,ajN k,ajN l⟩
abbrev ayH:Ty:=.pair TN (.pair TN (.pair TN (.pair TN (.pair TN TN))))
abbrev aAH:Ty:=.pair (.sl .str) (.sl (.pair TN (.pair TN TN)))
abbrev amm:Ty:=.pair ayH (.pair aAH (.pair Mu (.pair TN (.pair Mu (.pair Mu (.pair (.sl ajM) (.pair Mu (.pair Mu (.pair Mu TN)))))))))
theorem asp{a b c d e f g h i j k l:Nat}(hh:a+((b+c)+(d+(e+(f+(g+(h+(i+(j+(k+l)))))))))≤1048576):b≤1048576∧c≤1048576∧d≤1048576∧f≤1048576∧g≤1048576∧h≤1048576∧i≤1048576∧j≤1048576∧k≤1048576:=by omega
theorem ahH{l:List Int}(h:bt Mu l≤1048576):l.length≤1048576:=by
 have:=asn l;omega
theorem ayI{m:Mod}(h:bt amm m≤1048576):agf m:=by
 obtain⟨z,B,n,o,p,q,r,t,u⟩:=asp (a:=bt ayH m.1) (b:=bt (.sl .str) m.2.1.1) (c:=bt (.sl (.pair TN (.pair TN TN))) m.2.1.2) (d:=bt Mu m.2.2.1) (e:=bt TN m.2.2.2.1) (f:=bt Mu m.2.2.2.2.1) (g:=bt Mu m.2.2.2.2.2.1) (h:=bt (.sl ajM) m.2.2.2.2.2.2.1) (i:=bt Mu m.2.2.2.2.2.2.2.1) (j:=bt Mu m.2.2.2.2.2.2.2.2.1) (k:=bt Mu m.2.2.2.2.2.2.2.2.2.1) (l:=bt TN m.2.2.2.2.2.2.2.2.2.2) h;have D:m.2.1.1.length+1≤bt (.sl .str) m.2.1.1:=rU (e:=.str) (fun x=>Nat.le_add_left 1 _) m.2.1.1;have E:m.2.1.2.length+1≤bt (.sl (.pair TN (.pair TN TN))) m.2.1.2:=rU (e:=.pair TN (.pair TN TN)) (fun x=>Nat.le_add_right 1 _) m.2.1.2;have F:m.2.2.2.2.2.2.1.length+1≤bt (.sl ajM) m.2.2.2.2.2.2.1:=rU (e:=ajM) (fun x=>ei (ei (Nat.le_add_left 1 _) (asn x.1)) (Nat.le_add_right _ _)) m.2.2.2.2.2.2.1;refine⟨by omega,fun x y=> ?_,by omega,ahH n,ahH o,ahH p,by omega,fun b w=> ?_,ahH r,ahH t,ahH u⟩
 ·have:x.length+1≤bt (.sl .str) m.2.1.1:=aml (e:=.str) (l:=m.2.1.1) (x:=x) y;omega
 ·have:bt ajM b≤bt (.sl ajM) m.2.2.2.2.2.2.1:=aml (e:=ajM) (l:=m.2.2.2.2.2.2.1) (x:=b) w;exact ayG (ei this q)
structure OkM (m:Mod):Prop where
 len:agf m
 e:bh m.2.2.1
 cos:bh m.2.2.2.2.1
 sin:bh m.2.2.2.2.2.1
 b:∀b∈m.2.2.2.2.2.2.1,OkB b
 be:bh m.2.2.2.2.2.2.2.1
 g:bh m.2.2.2.2.2.2.2.2.1
 u:bh m.2.2.2.2.2.2.2.2.2.1
theorem aAI{m:Mod}(h:Yp amm m)(c:bt amm m≤1048576):OkM m:=
 ⟨ayI c,PZ h.2.2.1,PZ h.2.2.2.2.1,PZ h.2.2.2.2.2.1,fun b a=>aAD (h.2.2.2.2.2.2.1 b a),PZ h.2.2.2.2.2.2.2.1,PZ h.2.2.2.2.2.2.2.2.1,PZ h.2.2.2.2.2.2.2.2.2.1⟩
abbrev aAJ:Ty:=.pair TN (.pair TN (.pair TN (.pair TN (.pair TN (.sl (.pair TN TN))))))
abbrev aut:Ty:=.pair TN (.pair (.int .u8) (.pair (.int .u8) TN))
abbrev TGd:Ty:=.pair (.sl .bool) (.sl aut)
abbrev TRq:Ty:=.pair aoa (.pair aAJ (.pair TN (.pair TN (.pair TN (.pair TGd .str)))))
theorem auu{a b c d e f g h i j k l m:Nat}(hh:a+((b+(c+(d+(e+(f+g)))))+(h+(i+(j+((k+l)+m)))))≤1048576):a≤1048576∧g≤1048576∧k≤1048576∧l≤1048576:=by omega
theorem asq{r:Rq}(h:bt TRq r≤1048576):OkR r:=by
 obtain⟨t,u,n,o⟩:=auu (a:=bt aoa r.1) (b:=bt TN r.2.1.1) (c:=bt TN r.2.1.2.1) (d:=bt TN r.2.1.2.2.1) (e:=bt TN r.2.1.2.2.2.1) (f:=bt TN r.2.1.2.2.2.2.1) (g:=bt (.sl (.pair TN TN)) r.2.1.2.2.2.2.2) (h:=bt TN r.2.2.1) (i:=bt TN r.2.2.2.1) (j:=bt TN r.2.2.2.2.1) (k:=bt (.sl .bool) r.2.2.2.2.2.1.1) (l:=bt (.sl aut) r.2.2.2.2.2.1.2) (m:=bt .str r.2.2.2.2.2.2) h;have w:=aso r.1;have y:r.2.1.2.2.2.2.2.length+1≤bt (.sl (.pair TN TN)) r.2.1.2.2.2.2.2:=rU (e:=.pair TN TN) (fun x=>Nat.le_add_right 1 _) r.2.1.2.2.2.2.2;have p:r.2.2.2.2.2.1.1.length+1≤bt (.sl .bool) r.2.2.2.2.2.1.1:=rU (e:=.bool) (fun x=>az 1) r.2.2.2.2.2.1.1;have q:r.2.2.2.2.2.1.2.length+1≤bt (.sl aut) r.2.2.2.2.2.1.2:=rU (e:=aut) (fun x=>Nat.le_add_right 1 _) r.2.2.2.2.2.1.2;exact⟨by omega,by omega,ei (Nat.le_succ _) (ei p n),ei (Nat.le_succ _) (ei q o)⟩
theorem awD{m:Mod}(h:Yp amm m)(a:bt amm m≤1048576):MO m:=by
 have o:=aAI h a;exact⟨⟨o.len,o.e,o.b⟩,o.cos,o.sin,o.be,o.g,o.u⟩
end Go.Am.Pu
