import Derived.Test.YtllhngpojglipaaGreatDoorGT
import Derived.Test.YtllhngpojglipaaGreatDoorA4
import Derived.Test.YtllhngpojglipaaGreatDoorProg
import Derived.Test.YtllhngpojglipaaGreatDoorD
import Derived.Test.YtllhngpojglipaaGreatDoorE2
import Derived.KernelRfl
import Derived.Test.YtllhngpojglipaaGreatDoorE3
import Derived.Test.YtllhngpojglipaaGreatDoorS
import Derived.Test.YtllhngpojglipaaGreatDoorP4
import Derived.Test.YtllhngpojglipaaGreatDoorP1
import Derived.Test.YtllhngpojglipaaGreatDoorP8
import Derived.Test.YtllhngpojglipaaGreatDoorP9
set_option linter.unusedVariables false
set_option linter.unusedSimpArgs false
open Array renaming toList→ej
open Bool renaming and_eq_true→ak,not_eq_true'→aZ,not_eq_true→ew,not_true→aY,or_eq_true→aD
open Int renaming ediv_nonneg→e7,mul_comm→aa5,mul_ediv_add_emod→dN,mul_le_mul→dA,mul_nonneg→cp,pow_add→abe,pow_pos→ed,pow_succ→c9,toNat_natCast→ax
open Go.IntKind renaming bits→b9,wrap→ae
open List renaming drop_of_length_le→bA,getElem?_eq_getElem→ai,length_append→ah,length_replicate→aU,length→af,replicate→ao,set→aX,toArray→aeZ
open Nat renaming le_refl→az
open Option renaming bind_some→aa
namespace Go.Am
open Go Go.Proofs
set_option maxRecDepth 100000
abbrev D79:Type:=(List Int)×Int
open Go.Proofs.Tryz
noncomputable section
variable (n:Nat)
def Zv:NS:=⟨[(0,.data aT),(1,aF),(6,.fix (.v false [.vec 4])),(7,aF),(8,aF)],[(4,.row au)],11⟩
def Iv:LS:=⟨Zv,[(.exit 0,⟨[(6,.fix (.v false [.vec 4])),(7,aF)],[(4,.row au)],11⟩)]⟩
def DO:Cx:=aE [(91,KM n)] [] [] [(4,Iv)] [] 39 n
def wn(x:ar×Int):Option (ar×Int):=ap (DO n) f92 [aT,au] [aT,au] x
def Of:Entry:=⟨[aT,au],[aT,au],wn n⟩
def rk(k:Nat)(v:ar×Int×Unit×Int×Int×ar×Unit):Option (Unit×Int×ar×Unit):=aw (DO n) f92 Iv 4 k v
def acD:NS:=⟨[(0,.data aT),(3,.data .str)],[],5⟩
def KO:LS:=⟨acD,[(.exit 0,⟨[(3,.data .str)],[],5⟩)]⟩
def acE:NS:=⟨[(0,.data aT),(3,.data .str),(5,aF),(6,aF)],[],18⟩
def KP:LS:=⟨acE,[(.exit 2,⟨[(0,.data aT),(3,.data .str)],[],18⟩)]⟩
def zc:Cx:=aE [(92,Of n)] [] [(8,[(29,.bool)])] [(4,KO),(8,KP)] [] 43 n
def zd(x:ar):Option (List UInt8):=ap (zc n) f44 [aT] [.str] x
def R8:Entry:=⟨[aT],[.str],zd n⟩
def tq(k:Nat)(v:ar×(List UInt8)×Unit):Option ((List UInt8)×Unit):=aw (zc n) f44 KO 4 k v
def tr(k:Nat)(v:ar×(List UInt8)×Int×Int×Unit):Option (ar×(List UInt8)×Unit):=aw (zc n) f44 KP 8 k v
def acF:Cx:=aE [(37,zY n),(44,R8 n)] [] [(1,[(8,.bool)])] [] [] 19 n
def Ak(x:rY×Int×ar×Int):Option (Bool):=ap (acF n) f13 [pT,au,aT,au] [.bool] x
def Pk:Entry:=⟨[pT,au,aT,au],[.bool],Ak n⟩
end
noncomputable section
variable (n:Nat)
def Sc:Cx:=aE [(46,KR n)] [] [(1,[(4,.bool)])] [] [] 15 n
def tB(x:xw×ar):Option (Bool):=ap (Sc n) f21 [zq,aT] [.bool] x
def GS:Entry:=⟨[zq,aT],[.bool],tB n⟩
def acL:NS:=⟨[(3,aF),(4,aF)],[],16⟩
def KZ:LS:=⟨acL,[(.exit 0,⟨[(3,aF)],[],16⟩)]⟩
def GU:Cx:=aE [] [] [] [(5,KZ)] [] 25 n
def zg(x:ar):Option (Int):=ap (GU n) f135 [aT] [au] x
def Sd:Entry:=⟨[aT],[au],zg n⟩
def tC(k:Nat)(v:Int×Int×Unit):Option (Int×Unit):=aw (GU n) f135 KZ 5 k v
def XD:Cx:=aE [(135,Sd n)] [] [] [] [] 8 n
def Cm(x:ar):Option (ar×Int):=ap (XD n) f95 [aT] [aT,au] x
def XE:Entry:=⟨[aT],[aT,au],Cm n⟩
def acM:Cx:=aE [(43,Ph n),(42,KN n),(95,XE n)] [] [] [] [] 35 n
def GV(x:ar×Int):Option (ar×Bool):=ap (acM n) f52 [aT,au] [aT,.bool] x
def acN:Entry:=⟨[aT,au],[aT,.bool],GV n⟩
def Oi:Cx:=aE [(12,xG n),(15,DP n),(21,GS n),(52,acN n)] [] [(1,[(20,.bool)]),(7,[(52,.bool)])] [] [] 63 n
def oj(x:(D4×fy)×xw×ar×Int):Option (ar×Int):=ap (Oi n) f19 [gW,zq,aT,au] [aT,au] x
def DQ:Entry:=⟨[gW,zq,aT,au],[aT,au],oj n⟩
def Al:Cx:=aE [(8,vQ n),(18,vP n),(9,Gq n),(10,Gs n),(19,DQ n),(13,Pk n)] [] [] [] [] 40 n
def fU(x:(D4×fy)×xw×D79):Option (Bool):=ap (Al n) f4 [gW,zq,Y79] [.bool] x
def dw:Entry:=⟨[gW,zq,Y79],[.bool],fU n⟩
end
section
variable (n k:Nat)
set_option maxHeartbeats 4000000
theorem Z4(a0:xw)(a1:ar):yS n (a0,a1)=((ip n (a1,0)).bind fun v2=>av (!v2) (some (decide ((af a1:Int)<a0.2.2.1))) (some false)).bind fun v1=>some v1:=by kernel_rfl
end
section
variable (n k:Nat)
theorem Wb(a0:ar)(a1:Int):wn n (a0,a1)=(Bx 8 (af a0:Int)).bind fun v1=>(rk n n (a0,a1,(),0,(ae .i64 ((af a0:Int) -1)),(ao v1 0),())).bind fun v2=>(wS n v2.2.2.1).bind fun v3=>some (v3,v2.2.1):=by kernel_rfl
theorem Bb(s0:ar)(s1 s7 s8:Int)(o4:ar):rk n (k+1) (s0,s1,(),s7,s8,o4,())=av (decide (s8≥0)) ((idx s0 s8).bind fun v1=>(qt .i64 (ae .i64 ((ae .i64 (s7*65536))+v1)) s1).bind fun v2=>(ck s8 (af o4)).bind fun v3=>((o4)[v3]?).bind fun _=>(rm (ae .i64 ((ae .i64 (s7*65536))+v1)) s1).bind fun v5=>rk n k (s0,s1,(),v5,(ae .i64 (s8 -1)),(aX o4 v3 v2),())) (some ((),s7,o4,())):=by kernel_rfl
theorem aar(a0:ar):zd n a0=av ((af a0:Int)==0) (some (ej (ByteArray.data (ByteArray.mk (aeZ [(48)]))))) ((tq n n (a0,(ej (ByteArray.data (ByteArray.mk (aeZ [])))),())).bind fun v1=>some v1.1):=by kernel_rfl
theorem SL(s0:ar)(s3:List UInt8):tq n (k+1) (s0,s3,())=av (decide ((af s0:Int)>0)) ((wn n (s0,10000)).bind fun v1=>(tr n n (v1.1,s3,v1.2,0,())).bind fun v2=>tq n k v2) (some (s3,())):=by kernel_rfl
theorem CT(s0:ar)(s3:List UInt8)(s5 s6:Int):tr n (k+1) (s0,s3,s5,s6,())=(av (decide (s6<4)) (av (decide ((af s0:Int)>0)) (some true) (some (decide (s5>0)))) (some false)).bind fun v1=>av v1 ((rm s5 10).bind fun v2=>(cat (bytesOf [(ae .u8 (ae .i64 (48+v2)))]) s3).bind fun v3=>(qt .i64 s5 10).bind fun v4=>tr n k (s0,v3,v4,(ae .i64 (s6+1)),())) (some (s0,s3,())):=by kernel_rfl
theorem afE(a0:rY)(a1:Int)(a2:ar)(a3:Int):Ak n (a0,a1,a2,a3)=(av (a1==a3) ((mh n a0).bind fun v2=>(zd n a2).bind fun v3=>some (v2==v3)) (some false)).bind fun v1=>some v1:=by kernel_rfl
end
section
variable (n k:Nat)
theorem aaw(a0:xw)(a1:ar):tB n (a0,a1)=((wU n a1).bind fun v2=>av (decide (v2<0)) (some (decide ((af a1:Int)<a0.2.2.1))) (some false)).bind fun v1=>some v1:=by kernel_rfl
theorem aax(a0:ar):zg n a0=av ((af a0:Int)==0) (some 0) ((idx a0 (ae .i64 ((af a0:Int) -1))).bind fun v1=>(tC n n ((ae .i64 (16*(ae .i64 ((af a0:Int) -1)))),v1,())).bind fun v2=>some v2.1):=by kernel_rfl
theorem CZ(s3 s4:Int):tC n (k+1) (s3,s4,())=av (decide (s4>0)) ((qt .i64 s4 2).bind fun v1=>tC n k ((ae .i64 (s3+1)),v1,())) (some (s3,())):=by kernel_rfl
theorem adq(a0:ar):Cm n a0=(zg n a0).bind fun v1=>av (decide (v1>65536)) (some ([],41)) (some (a0,0)):=by kernel_rfl
theorem afF(a0:ar)(a1:Int):GV n (a0,a1)=av ((af a0:Int)==0) (some (a0,true)) (av (decide (a1>65536)) (some ([],false)) ((qt .i64 a1 16).bind fun v1=>(Bx 8 v1).bind fun v2=>(rm a1 16).bind fun v3=>(qc .i64 1 (ae .u64 v3)).bind fun v4=>(Ai n v4).bind fun v5=>(wT n (a0,v5)).bind fun v6=>(app 8 (ao v2 0) v6).bind fun v7=>(Cm n v7).bind fun v8=>some (v7,(v8.2==0)))):=by kernel_rfl
theorem Wd(a0:D4×fy)(a1:xw)(a2:ar)(a3:Int):oj n (a0,a1,a2,a3)=(av (decide (a3<0)) (some true) (some (decide (a3>8191)))).bind fun v1=>av v1 (some ([],260)) ((kQ n (a0,a1,a2)).bind fun v2=>av (v2.2 !=0) (some ([],v2.2)) ((av (decide ((ae .i64 (a1.2.1.2.2.2.2.1*(af a2:Int)))>(ae .i64 (8*a3)))) (some true) ((oi n (a1,a2)).bind fun v4=>av (!v4) ((tB n (a1,a2)).bind fun v5=>some (!v5)) (some false))).bind fun v3=>av v3 (some ([],0)) ((GV n (v2.1,(ae .i64 ((ae .i64 (8*a3)) -(ae .i64 (a1.2.1.2.2.2.2.1*(af a2:Int))))))).bind fun v6=>some (v6.1,0)))):=by kernel_rfl
theorem I4(a0:D4×fy)(a1:xw)(a2:D79):fU n (a0,a1,a2)=(gE n ()).bind fun v1=>av (!v1) (some false) ((gD n (a0,a1,a2)).bind fun v2=>(oW n a0).bind fun v3=>(rC n a1).bind fun v4=>(oj n (v3,v4,a2)).bind fun v5=>(Ak n (v2.1,v2.2,v5)).bind fun v6=>some v6):=by kernel_rfl
end
section
variable (n k:Nat)
theorem agb:aq prog 92 (Of n):=aL (X:=DO n) (cc (XL n) c0) func92
theorem ajc:aq prog 44 (R8 n):=aL (X:=zc n) (cc (agb n) c0) func44
theorem adJ:aq prog 13 (Pk n):=aL (X:=acF n) (cc (Ll n) (cc (ajc n) c0)) func13
theorem XN:aq prog 46 (KR n):=aL (X:=KQ n) c0 func46
end
section
variable (n k:Nat)
theorem Ox:aq prog 15 (DP n):=aL (X:=Oh n) (cc (XN n) c0) func15
theorem S4:aq prog 21 (GS n):=aL (X:=Sc n) (cc (XN n) c0) func21
theorem ajg:aq prog 135 (Sd n):=aL (X:=GU n) c0 func135
theorem ak3:aq prog 95 (XE n):=aL (X:=XD n) (cc (ajg n) c0) func95
theorem am3:aq prog 52 (acN n):=aL (X:=acM n) (cc (adI n) (cc (XM n) (cc (ak3 n) c0))) func52
theorem Oy:aq prog 19 (DQ n):=aL (X:=Oi n) (cc (II n) (cc (Ox n) (cc (S4 n) (cc (am3 n) c0)))) func19
theorem PL:aq prog 4 (dw n):=aL (X:=Al n) (cc (DX n) (cc (DW n) (cc (PJ n) (cc (PK n) (cc (Oy n) (cc (adJ n) c0)))))) func4
end
end Go.Am
namespace Go.Am.Pu
open Go Go.Am
theorem LB{n:Nat}{d:Int}{x:List Int}(o:1≤d∧d≤65536)(hx:ij 65536 x)(l:x.length≤1000000000):
  ∀(m k:Nat) (r:Int) (out:List Int),m≤x.length→m<k→Quo 65536 d x out r m→
  ∃g a,rk n k (x,d,(),r,(m:Int) -1,out,())=some ((),g,a,())∧Quo 65536 d x a g 0
 |0,k,r,out,i,j,h=>by
  obtain⟨k,rfl⟩:=gU k;rw[Bb,bN0];exact⟨r,out,rfl,h⟩
 |m+1,k,r,out,i,j,h=>by
  obtain⟨k,rfl⟩:=gU k;have c:m<x.length:=by omega
  have q:=hx.at c;have u:=h.rr;obtain⟨b,w,y,p⟩:=h.step (by omega) (by omega) hx c;have e:m<out.length:=by rw[h.len];exact c
  rw[Bb,bP0];rw[show((m+1:Nat):Int) -1=(m:Int)by omega,bj c];simp only[aa];have t:=e7 b (show 0≤d by omega);rw[aN (x:=r*65536),aN (x:=r*65536+x[m])];rw[zh (by omega) (by rw[bV b];omega) (by rw[bV b];omega),kT,bV b,pq b,dO e];simp only[aa];rw[ai e];simp only[aa];rw[aN (x:=(m:Int) -1)];exact LB o hx l m k _ _ (by omega) (by omega) p
theorem apO{n:Nat}{d:Int}{x:List Int}(e:1≤d∧d≤65536)(hx:Can 65536 x)(h:x.length≤1000000)(j:Hn0 n):
  ∃q,wn n (x,d)=some (q,vz 65536 x % d)∧Can 65536 q∧vz 65536 q=vz 65536 x/d∧q.length≤x.length:=by
 rw[Wb,fX (m:=x.length) rfl (by omega) (by omega)];simp only[aa];obtain⟨r,b,g,a⟩:=LB (n:=n) (d:=d) (x:=x) e hx.1 (by omega) x.length n 0 (ao x.length 0) (az _) (by omega)
  ⟨by simp,ij.rep (by omega) _,⟨by omega,by omega⟩,by rw[bA (az _),bA (by simp)];simp[vz]⟩
 rw[aN (x:=(x.length:Int) -1),g];simp only[aa];have i:=a.len;have c:=a.fin (by omega);rw[aoM (by omega) (by omega)];simp only[aa];rw[c.2];refine⟨_,rfl,qE a.dig,by rw[wy];exact c.1,?_⟩;have:=xl b;omega
theorem at5{d:Int}(a:0≤d)(b:d<10):bytesOf [ae .u8 (ae .i64 (48+d))]=[UInt8.ofNat (48+d.toNat)]:=by
 rw[aN,wu8];show[UInt8.ofNat (48+d).toNat]=_;rw[Int.toNat_add (by omega) a];rfl
theorem apP{P:List Int}{d:Int}:[UInt8.ofNat (48+d.toNat)]++Wt P=Wt (P++[d]):=by
 unfold Wt;simp
theorem arP(P:List Int):(Wt P).length=P.length:=by unfold Wt;simp
theorem OC{n:Nat}{x:List Int}:∀(m k j:Nat) (P:List Int) (r:Int),j+m=4→m<k→P.length+m≤1000000000→0≤r→r<10^m→ij 10 P→
  ∃Q,tr n k (x,Wt P,r,(j:Int),())=some (x,Wt (P++Q),())∧ij 10 Q∧vz 10 Q=r∧(x≠[]→Q.length=m)∧Q.length≤m∧(x=[]→Can 10 Q)
 |0,k,j,P,r,u,w,y,b,d,i=>by
  obtain⟨k,rfl⟩:=gU k;rw[CT,bN0];have:r=0:=by simp at d;omega
  subst this;exact⟨[],by simp[av],ij.nil,rfl,fun _=>rfl,az _,fun _=>Can.nil⟩
 |m+1,k,j,P,r,u,w,y,b,d,i=>by
  obtain⟨k,rfl⟩:=gU k;rw[CT,bP0]
  by_cases a:x=[]∧r=0
  ·obtain⟨rfl,rfl⟩:=a;exact⟨[],by simp[av],ij.nil,rfl,fun h=>absurd rfl h,Nat.zero_le _,fun _=>Can.nil⟩
  ·have e:av (decide ((x.length:Int)>0)) (some true) (some (decide (r>0)))=some true:=by
    rw[ag]
    split
    ·rfl
    ·rename_i h;rw[bx]at h;have H:x=[]:=List.length_eq_zero_iff.1 (by omega);congr 1;rw[bx];have:r≠0:=fun h=>a ⟨H,h⟩;omega
   rw[e];simp only[aa,ag,if_true];rw[kT,pq b];simp only[aa];rw[at5 (by omega) (by omega),abt (by rw[arP];simp;omega),apP];simp only[aa];have c:r/10<10^m:=by rw[c9]at d;omega
   have p:r≤9223372036854775807:=by
    have z:(10:Nat)^(m+1)≤10^4:=Nat.pow_le_pow_right (by omega) (by omega);have J:(10:Int)^(m+1)≤10^4:=by exact_mod_cast z
    have:(10:Int)^4=10000:=rfl;omega
   rw[zh (by omega) (by rw[bV b];omega) (by rw[bV b];omega),bV b];simp only[aa];rw[aN,show(j:Int)+1=((j+1:Nat):Int)by omega]
   by_cases K:P.length+1≤1000000000
   ·obtain⟨Q,E,D,q,F,g,B⟩:=OC (n:=n) (x:=x) m k (j+1) (P++[r % 10]) (r/10) (by omega) (by omega) (by simp;omega) (by omega) c (i.app (ij.cons (by omega) (by omega) ij.nil));rw[E];refine⟨r % 10::Q,by simp,ij.cons (by omega) (by omega) D,?_,fun h=>by simp[F h],by simpa using g,fun h=> ?_⟩
    ·show r % 10+10*vz 10 Q=r;rw[q];omega
    ·by_cases o:Q=[]
     ·subst o;refine⟨ij.cons (by omega) (by omega) ij.nil,fun _=> ?_⟩;have I:r/10=0:=by rw[←q];rfl
      have:r≠0:=fun t=>a ⟨h,t⟩;simp;omega
     ·exact Can.app (l:=[r % 10]) (ij.cons (by omega) (by omega) ij.nil) (B h) o
   ·omega
theorem LC{n V:Nat}(F:0<V)(y:Hn0 n):∀(k:Nat) (x P:List Int),Can 65536 x→x.length≤1000000→ij 10 P→jA (vz 65536 x)<k→
  P.length+4*jA (vz 65536 x)≤900000000→vz 10 P+10^P.length*vz 65536 x=(V:Int)→(x=[]→Can 10 P)→
  ∃Q,tq n k (x,Wt P,())=some (Wt Q,())∧Can 10 Q∧vz 10 Q=(V:Int)
 |0,x,P,_,_,_,h,_,_,_=>by omega
 |k+1,x,P,z,u,p,T,U,t,J=>by
  rw[SL];simp only[ag,bx]
  split
  ·rename_i o;have g:x≠[]:=by intro h;rw[h]at o;simp at o
   have j:=alJ (by omega) z g;obtain⟨q,K,M,e,N⟩:=apO (n:=n) (d:=10000) (x:=x) ⟨by omega,by omega⟩ z u y;rw[K];simp only[aa];obtain⟨Q,w,D,l,R,S,B⟩:=OC (n:=n) (x:=q) 4 n 0 P (vz 65536 x % 10000) (by omega) (by omega) (by omega) (by omega) (by have:(10:Int)^4=10000:=rfl;omega) p;rw[show((0:Nat):Int)=0 from rfl]at w;rw[w];simp only[aa];have L:=aho (v:=vz 65536 x) (d:=10000) j (by omega);rw[←e]at L;refine LC F y k q (P++Q) M (by omega) (p.app D) (by omega) (by rw[ah];omega) ?_ ?_
   ·by_cases c:q=[]
    ·subst c;have O:vz 65536 x/10000=0:=by rw[←e];rfl
     rw[Ea,l,←t,show vz 65536 []=0 from rfl,Int.mul_zero,Int.add_zero,show vz 65536 x % 10000=vz 65536 x by omega]
    ·rw[Ea,l,ah,R c,abe,e,←t];have E:(10:Int)^4=10000:=rfl;rw[E];have i:=dN (vz 65536 x) 10000;obtain⟨a,H⟩:∃a,a=vz 65536 x/10000:=⟨_,rfl⟩;obtain⟨b,I⟩:∃b,b=vz 65536 x % 10000:=⟨_,rfl⟩;rw[←H,←I]at i ⊢;rw[←i]
     grind
   ·intro c;have O:vz 65536 x/10000=0:=by rw[←e,c];rfl
    have r:Q≠[]:=by
     intro h;rw[h]at l;have:(0:Int)=vz 65536 x % 10000:=l;omega
    exact Can.app p (B c) r
  ·rename_i o;have g:x=[]:=List.length_eq_zero_iff.1 (by omega);refine⟨P,rfl,J g,?_⟩;rw[←t,g];simp[vz]
theorem arQ{n:Nat}{x:List Int}(hx:Can 65536 x)(c:x.length≤1000000)(j:Hn0 n):
  ∃s,zd n x=some s∧Lz (vz 65536 x) s:=by
 rw[aar];simp only[ag,beq_iff_eq]
 split
 ·rename_i h;have a:x=[]:=List.length_eq_zero_iff.1 (by omega);subst a;exact⟨_,rfl,.inl ⟨rfl,rfl⟩⟩
 ·rename_i h;have a:x≠[]:=by intro e;rw[e]at h;simp at h
  have b:=alJ (by omega) hx a;have i:jA (vz 65536 x)≤16*x.length:=Hk (by
   have:(65536:Int)^x.length=2^(16*x.length):=by rw[Int.pow_mul];rfl
   rw[←this];exact XU (by omega) hx.1)
  obtain⟨Q,d,g,k⟩:=LC (n:=n) (V:=(vz 65536 x).toNat) (by omega) j n x [] hx c ij.nil (by omega) (by simp;omega) (by simp[vz];omega) (fun h=>absurd h a);rw[show Wt []=[]from rfl]at d;rw[d];exact⟨_,rfl,.inr ⟨b,Q,g,by omega,rfl⟩⟩
theorem OD{n:Nat}:∀(m k:Nat) (c v:Int),0≤v→v<2^m→v≤1000000→m<k→0≤c→c+m≤1000000000→∃b,tC n k (c,v,())=some (b,())
 |0,k,c,v,a,d,_,e,_,_=>by
  obtain⟨k,rfl⟩:=gU k;rw[CZ,ag,if_neg (by rw[bx];simp at d;omega)];exact⟨c,rfl⟩
 |m+1,k,c,v,a,d,i,e,g,h=>by
  obtain⟨k,rfl⟩:=gU k;rw[CZ,ag]
  split
  ·rw[zh (by omega) (by rw[bV a];omega) (by rw[bV a];omega),bV a];simp only[aa];rw[aN];rw[c9]at d;exact OD m k _ _ (by omega) (by omega) (by omega) (by omega) (by omega) (by omega)
  ·exact⟨c,rfl⟩
theorem arS{n:Nat}{x:List Int}(hx:ij 65536 x)(d:x.length≤10000000)(g:Hn0 n):∃b,zg n x=some b:=by
 rw[aax,ag]
 split
 ·exact⟨0,rfl⟩
 ·rename_i h;rw[beq_iff_eq]at h;have c:x.length -1<x.length:=by omega
  have a:=hx.at c;rw[aN (x:=(x.length:Int) -1),show(x.length:Int) -1=((x.length -1:Nat):Int)by omega,bj c];simp only[aa];obtain⟨b,e⟩:=OD (n:=n) 16 n (16*((x.length -1:Nat):Int)) x[x.length -1] a.1 (by simpa using a.2) (by omega) (by omega) (by omega) (by omega);rw[aN,e];exact⟨b,rfl⟩
theorem awq{n:Nat}{x:List Int}{N:Nat}(hx:Can 65536 x)(J:x.length≤10000)(I:N≤65536)(q:Hn0 n):
  ∃z f,GV n (x,(N:Int))=some (z,f)∧Can 65536 z∧vz 65536 z=vz 65536 x*2^N∧z.length≤x.length+N/16+4:=by
 rw[afF,ag]
 by_cases i:x=[]
 ·subst i;rw[if_pos (by rfl)];exact⟨[],true,rfl,Can.nil,by simp[vz],by simp⟩
 rw[if_neg (by rw[beq_iff_eq];have:=List.length_pos_iff.2 i;omega),bN0];have j:qt .i64 (N:Int) 16=some ((N/16:Nat):Int):=by rw[zh (by omega) (by rw[bV];omega) (by rw[bV];omega),bV];congr 1
 have k:rm (N:Int) 16=some ((N % 16:Nat):Int):=by rw[kT,pq];congr 1
 rw[j,k];simp only[aa];rw[fX (m:=N/16) rfl (by omega) (by omega)];simp only[aa];have K:=rn (s:=N % 16) (by omega);have o:qc .i64 1 (ae .u64 ((N % 16:Nat):Int))=some (2^(N % 16)):=by
  rw[Eb];unfold qc;rw[gk,ax,show min (N % 16) (b9 .i64)=N % 16 by show min (N % 16) 64=_;omega,Int.one_mul,aN]
 rw[o];simp only[aa];obtain⟨y,B,D,t,L⟩:=arN (n:=n) (by omega) (v:=2^(N % 16)) (by omega) (by omega);rw[B];simp only[aa];obtain⟨z,E,F,p,M⟩:=aoN (n:=n) hx.1 D.1 (by omega) q;rw[E];simp only[aa];rw[dU (by rw[aU];omega) (by omega)];simp only[aa];have e:=alJ (by omega) hx i;have g:z≠[]:=by
  intro h;rw[h,t]at p;have:(0:Int)=vz 65536 x*2^(N % 16):=p;have:=Int.mul_pos e (show(0:Int)<2^(N % 16)by omega);omega
 have a:Can 65536 (ao (N/16) 0++z):=Can.app (ij.rep (by omega) _) F g;obtain⟨b,c⟩:=arS (n:=n) a.1 (by rw[ah,aU];omega) q;have d:∃r,Cm n (ao (N/16) 0++z)=some r:=by
  rw[adq,c];simp only[aa];rw[ag]
  split
  ·exact⟨_,rfl⟩
  ·exact⟨_,rfl⟩
 obtain⟨H,l⟩:=d;rw[l];refine⟨_,_,rfl,a,?_,by rw[ah,aU];omega⟩;rw[Ea,ajy,aU,p,t];have u:(65536:Int)^(N/16)=2^(16*(N/16)):=by rw[Int.pow_mul];rfl
 have w:(2:Int)^N=2^(16*(N/16))*2^(N % 16):=by rw[←abe];congr 1;omega
 rw[u,w]
 grind
def MP(r:Rq)(l:List Int):Bool:=decide (TT l<0∧(l.length:Int)<r.2.2.1)
theorem an7{n:Nat}{r:Rq}{l:List Int}(a:l.length≤1000000000)(b:Hn0 n):yS n (r,l)=some (MP r l):=by
 rw[Z4,qA,TU a b,aa,aa,fw,aa];unfold MP;congr 1;rw[Bool.eq_iff_iff,ak,aZ,decide_eq_false_iff_not,bx,bx];omega
theorem aeJ{n:Nat}{r:Rq}{l:List Int}(a:l.length≤1000000000)(b:Hn0 n):tB n (r,l)=some (MP r l):=by
 rw[aaw,ahG a b,aa,fw,aa];unfold MP;congr 1;rw[Bool.eq_iff_iff,ak,bx,bx,bx]
noncomputable def tpI(n:Nat)(m:Mod)(r:Rq)(said:List Int)(y:Int):Int:=
 if r.2.1.2.2.2.2.1*said.length≤8*y∧(agm r said||MP r said)=true then kr (Ho n m r said)*2^(8*y -r.2.1.2.2.2.2.1*said.length).toNat else 0
theorem ase{n:Nat}{m:Mod}{r:Rq}{said:List Int}{y:Int}(hm:MO m)(M:OkR r)(X:said.length≤1048576)(b:Hn0 n):
  (¬ (0≤y∧y≤8191∧uF m r said)∧∃e,e≠0∧gD n (m,r,said,y)=some (([],()),e)∧oj n (m,r,said,y)=some ([],e))∨
  ((0≤y∧y≤8191∧uF m r said)∧∃z E,gD n (m,r,said,y)=some ((z,()),0)∧oj n (m,r,said,y)=some (E,0)∧Can 4294967296 z∧Can 65536 E∧
   vz 4294967296 z=tpI n m r said y∧vz 65536 E=tpI n m r said y∧z.length≤100000∧E.length≤100000):=by
 rw[Fi,Wd,eC,aa,aa,ag,ag]
 by_cases c:0≤y∧y≤8191
 ·rw[if_neg (by rw[aD,bx,bx];omega),if_neg (by rw[aD,bx,bx];omega)];rcases prods (n:=n) hm M X b with⟨O,e,l,I,F⟩|⟨H,z,E,l,I,F,Q,J,R,h8⟩
  ·left;refine⟨fun h=>O h.2.2,e,l,?_,?_⟩
   ·rw[I,aa];show av (e !=0) _ _=_;rw[show(e !=0)=true by simpa using l,ii]
   ·rw[F,aa];show av (e !=0) _ _=_;rw[show(e !=0)=true by simpa using l,ii]
  ·right;refine⟨⟨c.1,c.2,H⟩,?_⟩;have hl:=H.len;have a:=H.w.p.bits;obtain⟨B,S⟩:∃B,B=r.2.1.2.2.2.2.1:=⟨_,rfl⟩;have j:=aeL hm M H b;unfold tpI;rw[l,I,aa,aa];show ∃y1 y2,av ((0:Int)!=0) _ _=_∧av ((0:Int)!=0) _ _=_∧_;rw[show((0:Int)!=0)=false from rfl,bU,bU];rw[←S]at a j ⊢;have W:=LQ a;rw[aeK a c.1 c.2,aa,LP (by omega) b,Yf (by omega) b,an7 (by omega) b,aeJ (by omega) b];simp only[aa];obtain⟨P,q⟩:∃P,P=B*(said.length:Int):=⟨_,rfl⟩;have U:0≤P:=by rw[q];exact cp (by omega) (by omega)
   have V:P≤32*512:=by rw[q];exact dA (by omega) (by omega) (by omega) (by omega)
   have K:B.toNat*said.length=P.toNat:=by
    have:((B.toNat*said.length:Nat):Int)=P:=by rw[q,Int.natCast_mul,Int.toNat_of_nonneg (by omega)]
    omega
   have D:(said.length:Int)>8*y/B↔8*y<P:=by
    rw[q,aa5 B];exact Int.ediv_lt_iff_lt_mul (show 0<B by omega)
   rw[K]at j;rw[←q,aN (x:=8*y),aN (x:=P),aN (x:=8*y -P)];have i:∀f o:Bool,av (!f) (some (!o)) (some false)=some (!(f||o)):=by decide
   rw[i];rw[eC,eC,aa,aa];have t:decide ((said.length:Int)>8*y/B)=decide (P>8*y):=decide_eq_decide.2 D;rw[t]
   by_cases d:P≤8*y∧(agm r said||MP r said)=true
   ·rw[if_pos d];have g:(decide (P>8*y)|| !(agm r said||MP r said))=false:=by
     rw[d.2,decide_eq_false (by omega)];rfl
    rw[g,bU,bU];obtain⟨N,T⟩:∃N:Nat,8*y -P=(N:Int):=⟨(8*y -P).toNat,by omega⟩;rw[T,ax];have L:=Tt j.2;rw[←J]at L;have Y:=xm F (k:=P.toNat+1) (by rw[J,c9];have:(0:Int)<2^P.toNat:=ed (by decide);omega);obtain⟨u,Z,u2,u3,u4⟩:=arR (n:=n) (N:=N) F (by omega) b (.inr (by omega));obtain⟨v,f,v1,v2,v3,v4⟩:=awq (n:=n) (N:=N) Q (by omega) (by omega) b;rw[Z,v1];refine⟨u,v,rfl,rfl,u2,v2,by rw[u3,J],by rw[v3,R],by omega,by omega⟩
   ·rw[if_neg d];have g:(decide (P>8*y)|| !(agm r said||MP r said))=true:=by
     rw[aD,bx,aZ]
     by_cases d1:P≤8*y
     ·right;rw[←ew];exact fun h=>d ⟨d1,h⟩
     ·left;omega
    rw[g,ii,ii];exact⟨[],[],rfl,rfl,Can.nil,Can.nil,rfl,rfl,by simp,by simp⟩
 ·left;refine⟨fun h=>c ⟨h.1,h.2.1⟩,260,by decide,?_,?_⟩
  ·rw[if_pos (by rw[aD,bx,bx];omega)]
  ·rw[if_pos (by rw[aD,bx,bx];omega)]
theorem TV{n:Nat}{z a:List Int}{e:Int}(c:Can 4294967296 z)(d:Can 65536 a)(g:vz 4294967296 z=vz 65536 a)(h:z.length≤1000000)(i:a.length≤1000000)(b:Hn0 n):
  Ak n ((z,()),e,a,e)=some true:=by
 rw[afE];obtain⟨s,j,k⟩:=alN (n:=n) c h b;obtain⟨t,t1,t2⟩:=arQ (n:=n) d i b;simp only[beq_self_eq_true,ii];rw[j,t1,Lz.uniq k (by rw[g];exact t2)];simp
theorem Ee{n:Nat}{m:Mod}{r:Rq}{said:List Int}{y:Int}(k:gE n ()=some true)(hm:MO m)(d:OkR r)(l:said.length≤1048576)(a:Hn0 n):fU n (m,r,said,y)=some true:=by
 rw[I4,k,aa,aY,bU];rcases ase (n:=n) (said:=said) (y:=y) hm d l a with⟨-,e,-,b,c⟩|⟨t,z,u,b,c,g,h,i,j,p,q⟩
 ·rw[b,aa,Bn hm.o.len a,aa,LR d a,aa,c,aa];simp only;rw[TV Can.nil Can.nil rfl (by simp) (by simp) a];rfl
 ·rw[b,aa,Bn hm.o.len a,aa,LR d a,aa,c,aa];simp only;rw[TV g h (i.trans j.symm) (by omega) (by omega) a];rfl
theorem asr{l:List Int}(h:bt aoa l≤1048576):l.length≤1048576:=by
 have:=aso l;omega
theorem WE(x:(jN (dw 0).ps).den)(h:Yp (jN (dw 0).ps) x)(b:bt (jN (dw 0).ps) x≤1048576):∃n,fU n x=some true:=by
 obtain⟨m,r,s,y⟩:=x;have b:bt amm m+(bt TRq r+(bt aoa s+bt TN y))≤1048576:=b;exact⟨2000000000,Ee LU (awD h.1 (by omega)) (asq (by omega)) (asr (by omega)) (az _)⟩
end Go.Am.Pu
