import Derived.Test.YtllhngpojglipaaGreatDoorGT
import Derived.Test.YtllhngpojglipaaGreatDoorA4
import Derived.Test.YtllhngpojglipaaGreatDoorProg
import Derived.Test.YtllhngpojglipaaGreatDoorD
import Derived.Test.YtllhngpojglipaaGreatDoorE2
import Derived.KernelRfl
import Derived.Test.YtllhngpojglipaaGreatDoorE3
import Derived.Test.YtllhngpojglipaaGreatDoorS
import Derived.Test.YtllhngpojglipaaGreatDoorP1
import Derived.Test.YtllhngpojglipaaGreatDoorP4
import Derived.Test.YtllhngpojglipaaGreatDoorP8
import Derived.Test.YtllhngpojglipaaGreatDoorP9
set_option linter.unusedVariables false
set_option linter.unusedSimpArgs false
open Bool renaming and_eq_true→ak,not_eq_true'→aZ,not_eq_true→ew,not_true→aY,or_eq_true→aD
open Int renaming emod_add_mul_ediv→aeX,le_of_lt→acP,mul_assoc→ae8,mul_comm→aa5,mul_le_mul_of_nonneg_left→ci,mul_le_mul_of_nonneg_right→bP,mul_le_mul→dA,mul_nonneg→cp,pow_add→abe,pow_pos→ed,pow_succ→c9,toNat_natCast→ax
open Go.IntKind renaming bits→b9,wrap→ae
open List renaming drop_eq_getElem_cons→bi,getD_eq_getElem?_getD→aB,getElem?_append_left→aP,getElem?_append_right→bc,getElem?_eq_getElem→ai,getElem?_eq_none→bd,getElem?_set_self→fl,getElem_mem→am,length_append→ah,length_replicate→aU,length_set→aO,length_singleton→bZ,length_take→aC,length→af,map_congr_left→ft,mem_cons_of_mem→aG,mem_cons_self→aH,mem_of_mem_take→cS,replicate→ao,set→aX,sum_cons→cO,take_append_drop→bM,take_of_length_le→aR
open Nat renaming le_refl→az,mul_le_mul→bD
open Option renaming bind_some→aa
namespace Go.Am
open Go Go.Proofs
set_option maxRecDepth 100000
abbrev D79:Type:=(List Int)×Int
open Go.Proofs.Tryz
noncomputable section
variable (n:Nat)
def Sc:Cx:=aE [(46,KR n)] [] [(1,[(4,.bool)])] [] [] 15 n
def tB(x:xw×ar):Option (Bool):=ap (Sc n) f21 [zq,aT] [.bool] x
def GS:Entry:=⟨[zq,aT],[.bool],tB n⟩
def acL:NS:=⟨[(3,aF),(4,aF)],[],16⟩
def KZ:LS:=⟨acL,[(.exit 0,⟨[(3,aF)],[],16⟩)]⟩
def GU:Cx:=aE [] [] [] [(5,KZ)] [] 25 n
def zg(x:ar):Option (Int):=ap (GU n) f135 [aT] [au] x
def Sd:Entry:=⟨[aT],[au],zg n⟩
def tC(k:Nat)(v:Int×Int×Unit):Option (Int×Unit):=aw (GU n) f135 KZ 5 k v
def XD:Cx:=aE [(135,Sd n)] [] [] [] [] 8 n
def Cm(x:ar):Option (ar×Int):=ap (XD n) f95 [aT] [aT,au] x
def XE:Entry:=⟨[aT],[aT,au],Cm n⟩
def acM:Cx:=aE [(43,Ph n),(42,KN n),(95,XE n)] [] [] [] [] 35 n
def GV(x:ar×Int):Option (ar×Bool):=ap (acM n) f52 [aT,au] [aT,.bool] x
def acN:Entry:=⟨[aT,au],[aT,.bool],GV n⟩
def Oi:Cx:=aE [(12,xG n),(15,DP n),(21,GS n),(52,acN n)] [] [(1,[(20,.bool)]),(7,[(52,.bool)])] [] [] 63 n
def oj(x:(D4×fy)×xw×ar×Int):Option (ar×Int):=ap (Oi n) f19 [gW,zq,aT,au] [aT,au] x
def DQ:Entry:=⟨[gW,zq,aT,au],[aT,au],oj n⟩
def K0:Cx:=aE [] [] [] [] [] 15 n
def pf(x:rY×Int):Option (Int):=ap (K0 n) f55 [pT,au] [(.int .u32)] x
def K4:Entry:=⟨[pT,au],[(.int .u32)],pf n⟩
def Cn:Cx:=aE [] [] [] [] [] 22 n
def oA(x:Int×Int×Int):Option (Int×Int):=ap (Cn n) f54 [(.int .u32),(.int .u32),(.int .u32)] [(.int .u32),(.int .u32)] x
def Co:Entry:=⟨[(.int .u32),(.int .u32),(.int .u32)],[(.int .u32),(.int .u32)],oA n⟩
def Zw:NS:=⟨[(2,.fix (.v false [.ptr 0 0])),(3,.fix (.v false [.ptr 1 0])),(4,.fix (.v false [.ptr 2 0])),(6,.fix (.v false [.vec 12])),(7,.data (.int .u32)),(19,aF),(20,aF)],[(0,.obj pT),(1,.obj pT),(2,.cells [.own (.int .u32)]),(12,.row (.int .u32))],18⟩
def Iw:LS:=⟨Zw,[(.exit 0,⟨[(4,.fix (.v false [.ptr 2 0])),(6,.fix (.v false [.vec 12]))],[(2,.cells [.own (.int .u32)]),(12,.row (.int .u32))],18⟩)]⟩
def DR:Cx:=aE [(55,K4 n),(54,Co n),(57,zt n),(56,Dw n)] [] [] [(4,Iw)] [] 43 n
def wo(x:rY×rY):Option (rY×Int):=ap (DR n) f22 [pT,pT] [pT,au] x
def Oj:Entry:=⟨[pT,pT],[pT,au],wo n⟩
def rl(k:Nat)(v:Unit×Unit×Unit×Unit×Int×Int×Int×rY×rY×(ar×Unit)×ar×Unit):Option (Unit×Unit×(ar×Unit)×ar×Unit):=aw (DR n) f22 Iw 4 k v
end
noncomputable section
variable (n:Nat)
def My:NS:=⟨[(2,.fix (.v false [.ptr 0 0])),(3,.fix (.v false [.ptr 1 0])),(5,aF)],[(0,.obj pT),(1,.obj pT)],24⟩
def xW:LS:=⟨My,[(.ret,⟨[(4,aF)],[],24⟩),(.exit 1,⟨[],[],24⟩)]⟩
def tD:Cx:=aE [] [] [] [(6,xW)] [] 54 n
def oB(x:rY×rY):Option (Int):=ap (tD n) f23 [pT,pT] [au] x
def Cp:Entry:=⟨[pT,pT],[au],oB n⟩
def gT(k:Nat)(v:Unit×Unit×Int×rY×rY×Unit):Option ((Int×Unit)⊕Unit):=aw (tD n) f23 xW 6 k v
def GW:NS:=⟨[(3,.fix (.v false [.ptr 0 0])),(4,.fix (.v false [.ptr 1 0])),(5,.fix (.v false [.ptr 2 0])),(7,.fix (.v false [.ptr 16 0])),(12,.fix (.v false [.ptr 57 0])),(89,aF),(90,aF)],[(0,.obj gW),(1,.obj zq),(2,.obj Y79),(16,.obj pT),(57,.obj pT)],63⟩
def tE:LS:=⟨GW,[(.ret,⟨[(6,dB0)],[],63⟩),(.exit 0,⟨[(7,.fix (.v false [.ptr 16 0])),(12,.fix (.v false [.ptr 57 0]))],[(16,.obj pT),(57,.obj pT)],63⟩)]⟩
def pX:Cx:=aE [(8,vQ n),(18,vP n),(9,Gq n),(10,Gs n),(19,DQ n),(20,oU n),(21,GS n),(22,Oj n),(23,Cp n)] [] [(6,[(6,.bool)]),(8,[(85,.bool)]),(16,[(119,.bool)])] [(12,tE)] [] 126 n
def fr(x:(D4×fy)×xw×D79):Option (Bool):=ap (pX n) f5 [gW,zq,Y79] [.bool] x
def dk:Entry:=⟨[gW,zq,Y79],[.bool],fr n⟩
def jF(k:Nat)(v:Unit×Unit×Unit×Unit×Unit×Int×Int×(D4×fy)×xw×D79×rY×rY×Unit):Option ((Bool×Unit)⊕(Unit×Unit×rY×rY×Unit)):=aw (pX n) f5 tE 12 k v
end
section
variable (n k:Nat)
set_option maxHeartbeats 4000000
theorem Z4(a0:xw)(a1:ar):yS n (a0,a1)=((ip n (a1,0)).bind fun v2=>av (!v2) (some (decide ((af a1:Int)<a0.2.2.1))) (some false)).bind fun v1=>some v1:=by kernel_rfl
end
section
variable (n k:Nat)
theorem aaw(a0:xw)(a1:ar):tB n (a0,a1)=((wU n a1).bind fun v2=>av (decide (v2<0)) (some (decide ((af a1:Int)<a0.2.2.1))) (some false)).bind fun v1=>some v1:=by kernel_rfl
theorem aax(a0:ar):zg n a0=av ((af a0:Int)==0) (some 0) ((idx a0 (ae .i64 ((af a0:Int) -1))).bind fun v1=>(tC n n ((ae .i64 (16*(ae .i64 ((af a0:Int) -1)))),v1,())).bind fun v2=>some v2.1):=by kernel_rfl
theorem CZ(s3 s4:Int):tC n (k+1) (s3,s4,())=av (decide (s4>0)) ((qt .i64 s4 2).bind fun v1=>tC n k ((ae .i64 (s3+1)),v1,())) (some (s3,())):=by kernel_rfl
theorem adq(a0:ar):Cm n a0=(zg n a0).bind fun v1=>av (decide (v1>65536)) (some ([],41)) (some (a0,0)):=by kernel_rfl
theorem afF(a0:ar)(a1:Int):GV n (a0,a1)=av ((af a0:Int)==0) (some (a0,true)) (av (decide (a1>65536)) (some ([],false)) ((qt .i64 a1 16).bind fun v1=>(Bx 8 v1).bind fun v2=>(rm a1 16).bind fun v3=>(qc .i64 1 (ae .u64 v3)).bind fun v4=>(Ai n v4).bind fun v5=>(wT n (a0,v5)).bind fun v6=>(app 8 (ao v2 0) v6).bind fun v7=>(Cm n v7).bind fun v8=>some (v7,(v8.2==0)))):=by kernel_rfl
theorem Wd(a0:D4×fy)(a1:xw)(a2:ar)(a3:Int):oj n (a0,a1,a2,a3)=(av (decide (a3<0)) (some true) (some (decide (a3>8191)))).bind fun v1=>av v1 (some ([],260)) ((kQ n (a0,a1,a2)).bind fun v2=>av (v2.2 !=0) (some ([],v2.2)) ((av (decide ((ae .i64 (a1.2.1.2.2.2.2.1*(af a2:Int)))>(ae .i64 (8*a3)))) (some true) ((oi n (a1,a2)).bind fun v4=>av (!v4) ((tB n (a1,a2)).bind fun v5=>some (!v5)) (some false))).bind fun v3=>av v3 (some ([],0)) ((GV n (v2.1,(ae .i64 ((ae .i64 (8*a3)) -(ae .i64 (a1.2.1.2.2.2.2.1*(af a2:Int))))))).bind fun v6=>some (v6.1,0)))):=by kernel_rfl
theorem SN(a0:rY)(a1:Int):pf n (a0,a1)=av (decide (a1<(af a0.1:Int))) ((idx a0.1 a1).bind fun v1=>some v1) (some 0):=by kernel_rfl
theorem Lc(a0 a1 a2:Int):oA n (a0,a1,a2)=(ui .u64 (ae .u64 ((ae .u64 ((ae .u64 a0)+(ae .u64 a1)))+(ae .u64 a2))) 32).bind fun v1=>some ((ae .u32 (ae .u64 ((ae .u64 ((ae .u64 a0)+(ae .u64 a1)))+(ae .u64 a2)))),(ae .u32 v1)):=by kernel_rfl
theorem We(a0 a1:rY):wo n (a0,a1)=(Bx 4 (ae .i64 ((imax (af a0.1:Int) (af a1.1:Int))+1))).bind fun v1=>(rl n n ((),(),(),(),0,(((af (ao v1 (0:Int))):Nat):Int),0,a0,a1,([],()),(ao v1 0),())).bind fun v2=>(pB n v2.2.2.2.1).bind fun v3=>(qo n v3).bind fun v4=>some v4:=by kernel_rfl
theorem Bc(s7 xH wq:Int)(o0 o1:rY)(akM o12:ar):rl n (k+1) ((),(),(),(),s7,xH,wq,o0,o1,(akM,()),o12,())=av (decide (wq<xH)) ((pf n (o0,wq)).bind fun v1=>(pf n (o1,wq)).bind fun v2=>(oA n (v1,v2,s7)).bind fun v3=>(ck wq (af o12)).bind fun v4=>((o12)[v4]?).bind fun _=>rl n k ((),(),(),(),v3.2,xH,(ae .i64 (wq+1)),o0,o1,(akM,()),(aX o12 v4 v3.1),())) (some ((),(),(akM,()),o12,())):=by kernel_rfl
end
section
variable (n k:Nat)
theorem Ld(a0 a1:rY):oB n (a0,a1)=av (decide ((af a0.1:Int)<(af a1.1:Int))) (some (-1)) (av (decide ((af a0.1:Int)>(af a1.1:Int))) (some 1) ((gT n n ((),(),(ae .i64 ((af a0.1:Int) -1)),a0,a1,())).bind fun v1=>cI v1 (fun v2=>some v2.1) (fun _=>some 0))):=by kernel_rfl
theorem tU(s5:Int)(o0 o1:rY):gT n (k+1) ((),(),s5,o0,o1,())=av (decide (s5≥0)) ((idx o0.1 s5).bind fun v1=>(idx o1.1 s5).bind fun v2=>av (decide (v1<v2)) (some (.inl ((-1),()))) ((idx o0.1 s5).bind fun v3=>(idx o1.1 s5).bind fun v4=>av (decide (v3>v4)) (some (.inl (1,()))) (gT n k ((),(),(ae .i64 (s5 -1)),o0,o1,())))) (some (.inr ())):=by kernel_rfl
theorem G4(a0:D4×fy)(a1:xw)(a2:D79):fr n (a0,a1,a2)=(gE n ()).bind fun v1=>av (!v1) (some false) ((gD n (a0,a1,a2)).bind fun v2=>av (v2.2 !=0) ((oW n a0).bind fun v3=>(rC n a1).bind fun v4=>(oj n (v3,v4,a2)).bind fun v5=>(av (v2.2==v5.2) ((iX n v2.1).bind fun v7=>some (v7==0)) (some false)).bind fun v6=>some v6) ((av (decide ((ae .i64 ((af a1.1:Int)+(af a2.1:Int)))>a0.1.2.1)) (some true) ((rC n a1).bind fun v9=>(tB n (v9,a2.1)).bind fun v10=>av (!v10) (some true) (some (decide ((ae .i64 (a1.2.1.2.2.2.2.1*(ae .i64 ((af a2.1:Int)+1))))>(ae .i64 (8*a2.2))))))).bind fun v8=>av v8 (some true) ((jF n n ((),(),(),(),(),a0.1.1,0,a0,a1,a2,v2.1,([],()),())).bind fun v11=>cI v11 (fun E7=>some E7.1) (fun Cq=>(oB n (Cq.2.2.2.1,Cq.2.2.1)).bind fun Me=>some (Me==0))))):=by kernel_rfl
theorem pQ(s89 s90:Int)(o0:D4×fy)(o1:xw)(o2:D79)(ZJ o57:rY):jF n (k+1) ((),(),(),(),(),s89,s90,o0,o1,o2,ZJ,o57,())=av (decide (s90<s89)) ((app 8 [] o2.1).bind fun v1=>(app 8 v1 [s90]).bind fun v2=>(gD n (o0,o1,v2,o2.2)).bind fun v3=>(wo n (o57,v3.1)).bind fun v4=>(av (v3.2 !=0) (some true) (some (v4.2 !=0))).bind fun v5=>av v5 (some (.inl (false,()))) (jF n k ((),(),(),(),(),s89,(ae .i64 (s90+1)),o0,o1,o2,ZJ,v4.1,()))) (some (.inr ((),(),ZJ,o57,()))):=by kernel_rfl
end
section
variable (n k:Nat)
theorem XN:aq prog 46 (KR n):=aL (X:=KQ n) c0 func46
end
section
variable (n k:Nat)
theorem Ox:aq prog 15 (DP n):=aL (X:=Oh n) (cc (XN n) c0) func15
theorem S4:aq prog 21 (GS n):=aL (X:=Sc n) (cc (XN n) c0) func21
theorem ajg:aq prog 135 (Sd n):=aL (X:=GU n) c0 func135
theorem ak3:aq prog 95 (XE n):=aL (X:=XD n) (cc (ajg n) c0) func95
theorem am3:aq prog 52 (acN n):=aL (X:=acM n) (cc (adI n) (cc (XM n) (cc (ak3 n) c0))) func52
theorem Oy:aq prog 19 (DQ n):=aL (X:=Oi n) (cc (II n) (cc (Ox n) (cc (S4 n) (cc (am3 n) c0)))) func19
theorem adL:aq prog 55 (K4 n):=aL (X:=K0 n) c0 func55
theorem S5:aq prog 54 (Co n):=aL (X:=Cn n) c0 func54
theorem agc:aq prog 22 (Oj n):=aL (X:=DR n) (cc (adL n) (cc (S5 n) (cc (Fv n) (cc (Oo n) c0)))) func22
end
section
variable (n k:Nat)
theorem S6:aq prog 23 (Cp n):=aL (X:=tD n) c0 func23
theorem MI:aq prog 5 (dk n):=aL (X:=pX n) (cc (DX n) (cc (DW n) (cc (PJ n) (cc (PK n) (cc (Oy n) (cc (tW n) (cc (S4 n) (cc (agc n) (cc (S6 n) c0))))))))) func5
end
end Go.Am
namespace Go.Am.Pu
open Go Go.Am
theorem apy{α:Type}{g g':Nat→α}{n:Nat}(h:∀i,i<n→g i=g' i):dL g n=dL g' n:=ft fun i a=>h i (List.mem_range.1 a)
theorem ij.take{B:Int}{l:List Int}(h:ij B l)(k:Nat):ij B (l.take k):=fun x i=>h x (cS i)
theorem OD{n:Nat}:∀(m k:Nat) (c v:Int),0≤v→v<2^m→v≤1000000→m<k→0≤c→c+m≤1000000000→∃b,tC n k (c,v,())=some (b,())
 |0,k,c,v,a,d,_,e,_,_=>by
  obtain⟨k,rfl⟩:=gU k;rw[CZ,ag,if_neg (by rw[bx];simp at d;omega)];exact⟨c,rfl⟩
 |m+1,k,c,v,a,d,i,e,g,h=>by
  obtain⟨k,rfl⟩:=gU k;rw[CZ,ag]
  split
  ·rw[zh (by omega) (by rw[bV a];omega) (by rw[bV a];omega),bV a];simp only[aa];rw[aN];rw[c9]at d;exact OD m k _ _ (by omega) (by omega) (by omega) (by omega) (by omega) (by omega)
  ·exact⟨c,rfl⟩
theorem arS{n:Nat}{x:List Int}(hx:ij 65536 x)(d:x.length≤10000000)(g:Hn0 n):∃b,zg n x=some b:=by
 rw[aax,ag]
 split
 ·exact⟨0,rfl⟩
 ·rename_i h;rw[beq_iff_eq]at h;have c:x.length -1<x.length:=by omega
  have a:=hx.at c;rw[aN (x:=(x.length:Int) -1),show(x.length:Int) -1=((x.length -1:Nat):Int)by omega,bj c];simp only[aa];obtain⟨b,e⟩:=OD (n:=n) 16 n (16*((x.length -1:Nat):Int)) x[x.length -1] a.1 (by simpa using a.2) (by omega) (by omega) (by omega) (by omega);rw[aN,e];exact⟨b,rfl⟩
theorem awq{n:Nat}{x:List Int}{N:Nat}(hx:Can 65536 x)(J:x.length≤10000)(I:N≤65536)(q:Hn0 n):
  ∃z f,GV n (x,(N:Int))=some (z,f)∧Can 65536 z∧vz 65536 z=vz 65536 x*2^N∧z.length≤x.length+N/16+4:=by
 rw[afF,ag]
 by_cases i:x=[]
 ·subst i;rw[if_pos (by rfl)];exact⟨[],true,rfl,Can.nil,by simp[vz],by simp⟩
 rw[if_neg (by rw[beq_iff_eq];have:=List.length_pos_iff.2 i;omega),bN0];have j:qt .i64 (N:Int) 16=some ((N/16:Nat):Int):=by rw[zh (by omega) (by rw[bV];omega) (by rw[bV];omega),bV];congr 1
 have k:rm (N:Int) 16=some ((N % 16:Nat):Int):=by rw[kT,pq];congr 1
 rw[j,k];simp only[aa];rw[fX (m:=N/16) rfl (by omega) (by omega)];simp only[aa];have K:=rn (s:=N % 16) (by omega);have o:qc .i64 1 (ae .u64 ((N % 16:Nat):Int))=some (2^(N % 16)):=by
  rw[Eb];unfold qc;rw[gk,ax,show min (N % 16) (b9 .i64)=N % 16 by show min (N % 16) 64=_;omega,Int.one_mul,aN]
 rw[o];simp only[aa];obtain⟨y,B,D,t,L⟩:=arN (n:=n) (by omega) (v:=2^(N % 16)) (by omega) (by omega);rw[B];simp only[aa];obtain⟨z,E,F,p,M⟩:=aoN (n:=n) hx.1 D.1 (by omega) q;rw[E];simp only[aa];rw[dU (by rw[aU];omega) (by omega)];simp only[aa];have e:=alJ (by omega) hx i;have g:z≠[]:=by
  intro h;rw[h,t]at p;have:(0:Int)=vz 65536 x*2^(N % 16):=p;have:=Int.mul_pos e (show(0:Int)<2^(N % 16)by omega);omega
 have a:Can 65536 (ao (N/16) 0++z):=Can.app (ij.rep (by omega) _) F g;obtain⟨b,c⟩:=arS (n:=n) a.1 (by rw[ah,aU];omega) q;have d:∃r,Cm n (ao (N/16) 0++z)=some r:=by
  rw[adq,c];simp only[aa];rw[ag]
  split
  ·exact⟨_,rfl⟩
  ·exact⟨_,rfl⟩
 obtain⟨H,l⟩:=d;rw[l];refine⟨_,_,rfl,a,?_,by rw[ah,aU];omega⟩;rw[Ea,ajy,aU,p,t];have u:(65536:Int)^(N/16)=2^(16*(N/16)):=by rw[Int.pow_mul];rfl
 have w:(2:Int)^N=2^(16*(N/16))*2^(N % 16):=by rw[←abe];congr 1;omega
 rw[u,w]
 grind
theorem alP{n:Nat}{x:List Int}{i:Nat}:pf n ((x,()),(i:Int))=some (x.getD i 0):=by
 rw[SN,ag]
 by_cases h:i<x.length
 ·rw[if_pos (by rw[bx];show(i:Int)<(x.length:Int);omega)];show(idx x (i:Int)).bind _=_;rw[bj h,aa,aB,ai h];rfl
 ·rw[if_neg (by rw[bx];show ¬ (i:Int)<(x.length:Int);omega),aB,bd (by omega)];rfl
theorem anJ{n:Nat}{a b c:Int}(d:0≤a∧a<4294967296)(e:0≤b∧b<4294967296)(g:0≤c∧c≤1):oA n (a,b,c)=some ((a+b+c) % 4294967296,(a+b+c)/4294967296):=by
 rw[Lc,Eb (x:=a),Eb (x:=b),Eb (x:=c),Eb (x:=a+b),Eb (x:=a+b+c),aoK,aa,alH,anF]
structure arT (x y out:List Int) (c:Int) (i:Nat):Prop where
 dig:ij 4294967296 out
 cr:0≤c∧c≤1
 v:vz 4294967296 (out.take i)+4294967296^i*c=vz 4294967296 (x.take i)+vz 4294967296 (y.take i)
theorem aeg{B:Int}{l:List Int}{i:Nat}:vz B (l.take (i+1))=vz B (l.take i)+B^i*l.getD i 0:=by
 by_cases h:i<l.length
 ·rw[Mp h,aB,ai h];rfl
 ·rw[aB,bd (by omega),aR (by omega),aR (by omega)];simp
theorem ij.getD{B:Int}(j:0<B){l:List Int}(h:ij B l)(i:Nat):0≤l.getD i 0∧l.getD i 0<B:=by
 rw[aB]
 by_cases c:i<l.length
 ·rw[ai c];exact h.at c
 ·rw[bd (by omega)];exact⟨Int.le_refl _,j⟩
theorem arT.step{x y out:List Int}{c:Int}{i:Nat}(h:arT x y out c i)(hx:ij 4294967296 x)(J:ij 4294967296 y)(hi:i<out.length):
  arT x y (out.set i ((x.getD i 0+y.getD i 0+c) % 4294967296)) ((x.getD i 0+y.getD i 0+c)/4294967296) (i+1):=by
 obtain⟨E,K,L⟩:=h;have a:=hx.getD (by decide) i;have b:=J.getD (by decide) i;obtain⟨p,j⟩:∃p,p=x.getD i 0:=⟨_,rfl⟩;obtain⟨q,D⟩:∃q,q=y.getD i 0:=⟨_,rfl⟩;rw[←j]at a ⊢;rw[←D]at b ⊢;refine⟨E.set (by omega) (by omega),by omega,?_⟩;have e:(out.set i ((p+q+c) % 4294967296)).getD i 0=(p+q+c) % 4294967296:=by
  rw[aB,fl hi];rfl
 rw[aeg,aeg (l:=x),aeg (l:=y),e,List.take_set,List.set_eq_of_length_le (by rw[aC];omega),←j,←D,c9];have d:(p+q+c) % 4294967296+4294967296*((p+q+c)/4294967296)=p+q+c:=aeX _ _;obtain⟨u,H⟩:∃u,u=(p+q+c) % 4294967296:=⟨_,rfl⟩;obtain⟨w,I⟩:∃w,w=(p+q+c)/4294967296:=⟨_,rfl⟩;rw[←H,←I]at d ⊢;generalize(4294967296:Int)^i=P at*;have:P*4294967296*w=P*(4294967296*w):=by rw[ae8]
 rw[this,show(4294967296:Int)*w=p+q+c -u by omega,Int.mul_sub,Int.mul_add,Int.mul_add];omega
theorem Tz{n:Nat}{x y o2:List Int}(hx:ij 4294967296 x)(g:ij 4294967296 y){N:Nat}(o:N≤1000000000):∀(m k i:Nat) (c:Int) (out:List Int),i+m=N→m<k→out.length=N→arT x y out c i→
  ∃h a,rl n k ((),(),(),(),c,(N:Int),(i:Int),(x,()),(y,()),(o2,()),out,())=some ((),(),(o2,()),a,())∧a.length=N∧arT x y a h N
 |0,k,i,c,out,j,l,d,b=>by
  obtain⟨k,rfl⟩:=gU k;rw[Bc,bN0];have:i=N:=by omega
  subst this;exact⟨c,out,rfl,d,b⟩
 |m+1,k,i,c,out,j,l,d,b=>by
  obtain⟨k,rfl⟩:=gU k;have e:i<out.length:=by omega
  rw[Bc,bP0,alP,aa,alP,aa,anJ (hx.getD (by decide) i) (g.getD (by decide) i) b.cr,aa,dO e,aa,ai e,aa,aN,show(i:Int)+1=((i+1:Nat):Int)by omega];exact Tz hx g o m k (i+1) _ _ (by omega) (by omega) (by rw[aO];exact d) (b.step hx g e)
theorem Ww{B:Int}(c:0<B){a b:Nat}(h:a≤b):B^a≤B^b:=by
 obtain⟨d,rfl⟩:∃d,b=a+d:=⟨b -a,by omega⟩;have e:=xj c a;have g:=xj c d;rw[abe];have:=ci (show(1:Int)≤B^d by omega) (show 0≤B^a by omega);omega
theorem anK{P Q R a b c:Int}(d:0<P)(j:a<P)(k:b<P)(i:R=4294967296*P)(h:Q+R*c=a+b)(g:0≤Q)(l:0≤c∧c≤1):c=0:=by
 by_cases e:c=0
 ·exact e
 ·have:c=1:=by omega
  subst this;omega
theorem at7{n:Nat}{x y:List Int}(hx:Can 4294967296 x)(e:Can 4294967296 y)(q:x.length≤1000000)(j:y.length≤1000000)(r:Hn0 n)(d:ahn (vz 4294967296 x+vz 4294967296 y)):
  ∃z,wo n ((x,()),(y,()))=some ((z,()),0)∧Can 4294967296 z∧vz 4294967296 z=vz 4294967296 x+vz 4294967296 y:=by
 obtain⟨M,p⟩:∃M:Nat,M=max x.length y.length:=⟨_,rfl⟩;have b:imax (x.length:Int) (y.length:Int)=(M:Int):=by
  unfold imax
  split<;>omega
 have i:M≤1000000:=by omega
 rw[We,b,aN,fX (m:=M+1) (by omega) (by omega) (by omega),aa,aU];obtain⟨l,a,c,o,g⟩:=Tz (n:=n) (x:=x) (y:=y) (o2:=[]) hx.1 e.1 (N:=M+1) (by omega) (M+1) n 0 0 (ao (M+1) 0) (by omega) (by omega) aU ⟨ij.rep (by decide) _,by omega,by simp[vz]⟩;rw[show((0:Nat):Int)=0 from rfl]at c;rw[c,aa];obtain⟨d1,d2,d3⟩:=g;rw[aR (by omega),aR (by omega),aR (by omega)]at d3;have g1:vz 4294967296 x<4294967296^M:=Int.lt_of_lt_of_le (XU (by decide) hx.1) (Ww (by decide) (by omega));have h:vz 4294967296 y<4294967296^M:=Int.lt_of_lt_of_le (XU (by decide) e.1) (Ww (by decide) (by omega));have k:=anK (xj (by decide) M) g1 h (by rw[c9,aa5]) d3 (vj (by decide) d1) d2;subst k;rw[Int.mul_zero,Int.add_zero]at d3;show ∃z,(pB n a).bind _=_∧_;rw[Tr (by omega) (by omega),aa,XV (qE d1) (by have:=xl a;omega),wy,d3,if_pos (by unfold ahn at d;exact d),aa];exact⟨xk a,rfl,qE d1,by rw[wy,d3]⟩
theorem arU{B:Int}(a:0<B){x y:List Int}{j:Nat}(hx:ij B x)(h:ij B y)(d:j<x.length)(e:j<y.length)(g:x.drop (j+1)=y.drop (j+1))(k:x[j]<y[j]):vz B x<vz B y:=by
 have b:vz B x=vz B (x.take j)+B^j*(x[j]+B*vz B (x.drop (j+1))):=by
  rw[←ajA d];have:=Ea (B:=B) (x.take j) (x.drop j);rw[bM,aC,Nat.min_eq_left (by omega)]at this;exact this
 have c:vz B y=vz B (y.take j)+B^j*(y[j]+B*vz B (y.drop (j+1))):=by
  rw[←ajA e];have:=Ea (B:=B) (y.take j) (y.drop j);rw[bM,aC,Nat.min_eq_left (by omega)]at this;exact this
 have t1:=XU a (hx.take j);rw[aC,Nat.min_eq_left (by omega)]at t1;have t2:=vj a (h.take j);have i:=xj a j;rw[b,c,g];have:=ci (show x[j]+B*vz B (y.drop (j+1))+1≤y[j]+B*vz B (y.drop (j+1))by omega) (show 0≤B^j by omega);rw[Int.mul_add (B^j) _ 1,Int.mul_one]at this;omega
theorem arV{B:Int}(g:1<B){x y:List Int}(hx:Can B x)(a:Can B y)(h:x.length<y.length):vz B x<vz B y:=by
 have b:=XU (by omega) hx.1;have c:=arH (by omega) a (by intro e;subst e;simp at h);have d:B^x.length≤B^(y.length -1):=Ww (by omega) (by omega);omega
theorem FH{n:Nat}{x y:List Int}(hx:ij 4294967296 x)(g:ij 4294967296 y)(o:x.length=y.length)(l:x.length≤1000000000):∀(j k:Nat),j≤x.length→j<k→x.drop j=y.drop j→
  (∃c,gT n k ((),(),(j:Int) -1,(x,()),(y,()),())=some (.inl (c,()))∧(c= -1∧vz 4294967296 x<vz 4294967296 y∨c=1∧vz 4294967296 y<vz 4294967296 x))∨
  (gT n k ((),(),(j:Int) -1,(x,()),(y,()),())=some (.inr ())∧x=y)
 |0,k,h,i,b=>by
  obtain⟨k,rfl⟩:=gU k;right;rw[tU,ag,if_neg (by simp)];exact⟨rfl,by simpa using b⟩
 |j+1,k,h,i,b=>by
  obtain⟨k,rfl⟩:=gU k;have e:j<x.length:=by omega
  have a:j<y.length:=by omega
  rw[show((j+1:Nat):Int) -1=(j:Int)by omega,tU,bP0];show(∃c,(idx x (j:Int)).bind _=_∧_)∨((idx x (j:Int)).bind _=_∧_);rw[bj e,aa];show(∃c,(idx y (j:Int)).bind _=_∧_)∨((idx y (j:Int)).bind _=_∧_);rw[bj a,aa,ag]
  by_cases c:x[j]<y[j]
  ·left;rw[if_pos (by rw[bx];exact c)];exact⟨-1,rfl,.inl ⟨rfl,arU (by decide) hx g e a b c⟩⟩
  ·rw[if_neg (by rw[bx];exact c)];simp only[aa];rw[ag]
   by_cases d:x[j]>y[j]
   ·left;rw[if_pos (by rw[bx];exact d)];exact⟨1,rfl,.inr ⟨rfl,arU (by decide) g hx a e b.symm d⟩⟩
   ·rw[if_neg (by rw[bx];exact d),aN];refine FH hx g o l j k (by omega) (by omega) ?_;rw[bi e,bi a,b,show x[j]=y[j]by omega]
theorem alQ{n:Nat}{x y:List Int}(hx:Can 4294967296 x)(d:Can 4294967296 y)(i:x.length≤1000000000)(j:Hn0 n):
  ∃c,oB n ((x,()),(y,()))=some c∧(c= -1∧vz 4294967296 x<vz 4294967296 y∨c=0∧vz 4294967296 x=vz 4294967296 y∨c=1∧vz 4294967296 y<vz 4294967296 x):=by
 rw[Ld,ag]
 by_cases e:x.length<y.length
 ·rw[if_pos (by rw[bx];show(x.length:Int)<(y.length:Int);omega)];exact⟨-1,rfl,.inl ⟨rfl,arV (by decide) hx d e⟩⟩
 ·rw[if_neg (by rw[bx];show ¬ (x.length:Int)<(y.length:Int);omega),ag]
  by_cases g:y.length<x.length
  ·rw[if_pos (by rw[bx];show(x.length:Int)>(y.length:Int);omega)];exact⟨1,rfl,.inr (.inr ⟨rfl,arV (by decide) d hx g⟩)⟩
  ·rw[if_neg (by rw[bx];show ¬ (x.length:Int)>(y.length:Int);omega)];show ∃c,(gT n n ((),(),ae .i64 ((x.length:Int) -1),(x,()),(y,()),())).bind _=_∧_;rw[aN];rcases FH (n:=n) hx.1 d.1 (by omega) i x.length n (az _) (by omega) (by rw[List.drop_length,show x.length=y.length by omega,List.drop_length])with⟨c,a,b⟩|⟨a,b⟩
   ·rw[a,aa];refine⟨c,rfl,?_⟩;rcases b with h |h
    ·exact .inl h
    ·exact .inr (.inr h)
   ·rw[a,aa];exact⟨0,rfl,.inr (.inl ⟨rfl,by rw[b]⟩)⟩
def MP(r:Rq)(l:List Int):Bool:=decide (TT l<0∧(l.length:Int)<r.2.2.1)
theorem an7{n:Nat}{r:Rq}{l:List Int}(a:l.length≤1000000000)(b:Hn0 n):yS n (r,l)=some (MP r l):=by
 rw[Z4,qA,TU a b,aa,aa,fw,aa];unfold MP;congr 1;rw[Bool.eq_iff_iff,ak,aZ,decide_eq_false_iff_not,bx,bx];omega
theorem aeJ{n:Nat}{r:Rq}{l:List Int}(a:l.length≤1000000000)(b:Hn0 n):tB n (r,l)=some (MP r l):=by
 rw[aaw,ahG a b,aa,fw,aa];unfold MP;congr 1;rw[Bool.eq_iff_iff,ak,bx,bx,bx]
noncomputable def tpI(n:Nat)(m:Mod)(r:Rq)(said:List Int)(y:Int):Int:=
 if r.2.1.2.2.2.2.1*said.length≤8*y∧(agm r said||MP r said)=true then kr (Ho n m r said)*2^(8*y -r.2.1.2.2.2.2.1*said.length).toNat else 0
theorem ase{n:Nat}{m:Mod}{r:Rq}{said:List Int}{y:Int}(hm:MO m)(M:OkR r)(X:said.length≤1048576)(b:Hn0 n):
  (¬ (0≤y∧y≤8191∧uF m r said)∧∃e,e≠0∧gD n (m,r,said,y)=some (([],()),e)∧oj n (m,r,said,y)=some ([],e))∨
  ((0≤y∧y≤8191∧uF m r said)∧∃z E,gD n (m,r,said,y)=some ((z,()),0)∧oj n (m,r,said,y)=some (E,0)∧Can 4294967296 z∧Can 65536 E∧
   vz 4294967296 z=tpI n m r said y∧vz 65536 E=tpI n m r said y∧z.length≤100000∧E.length≤100000):=by
 rw[Fi,Wd,eC,aa,aa,ag,ag]
 by_cases c:0≤y∧y≤8191
 ·rw[if_neg (by rw[aD,bx,bx];omega),if_neg (by rw[aD,bx,bx];omega)];rcases prods (n:=n) hm M X b with⟨O,e,l,I,F⟩|⟨H,z,E,l,I,F,Q,J,R,h8⟩
  ·left;refine⟨fun h=>O h.2.2,e,l,?_,?_⟩
   ·rw[I,aa];show av (e !=0) _ _=_;rw[show(e !=0)=true by simpa using l,ii]
   ·rw[F,aa];show av (e !=0) _ _=_;rw[show(e !=0)=true by simpa using l,ii]
  ·right;refine⟨⟨c.1,c.2,H⟩,?_⟩;have hl:=H.len;have a:=H.w.p.bits;obtain⟨B,S⟩:∃B,B=r.2.1.2.2.2.2.1:=⟨_,rfl⟩;have j:=aeL hm M H b;unfold tpI;rw[l,I,aa,aa];show ∃y1 y2,av ((0:Int)!=0) _ _=_∧av ((0:Int)!=0) _ _=_∧_;rw[show((0:Int)!=0)=false from rfl,bU,bU];rw[←S]at a j ⊢;have W:=LQ a;rw[aeK a c.1 c.2,aa,LP (by omega) b,Yf (by omega) b,an7 (by omega) b,aeJ (by omega) b];simp only[aa];obtain⟨P,q⟩:∃P,P=B*(said.length:Int):=⟨_,rfl⟩;have U:0≤P:=by rw[q];exact cp (by omega) (by omega)
   have V:P≤32*512:=by rw[q];exact dA (by omega) (by omega) (by omega) (by omega)
   have K:B.toNat*said.length=P.toNat:=by
    have:((B.toNat*said.length:Nat):Int)=P:=by rw[q,Int.natCast_mul,Int.toNat_of_nonneg (by omega)]
    omega
   have D:(said.length:Int)>8*y/B↔8*y<P:=by
    rw[q,aa5 B];exact Int.ediv_lt_iff_lt_mul (show 0<B by omega)
   rw[K]at j;rw[←q,aN (x:=8*y),aN (x:=P),aN (x:=8*y -P)];have i:∀f o:Bool,av (!f) (some (!o)) (some false)=some (!(f||o)):=by decide
   rw[i];rw[eC,eC,aa,aa];have t:decide ((said.length:Int)>8*y/B)=decide (P>8*y):=decide_eq_decide.2 D;rw[t]
   by_cases d:P≤8*y∧(agm r said||MP r said)=true
   ·rw[if_pos d];have g:(decide (P>8*y)|| !(agm r said||MP r said))=false:=by
     rw[d.2,decide_eq_false (by omega)];rfl
    rw[g,bU,bU];obtain⟨N,T⟩:∃N:Nat,8*y -P=(N:Int):=⟨(8*y -P).toNat,by omega⟩;rw[T,ax];have L:=Tt j.2;rw[←J]at L;have Y:=xm F (k:=P.toNat+1) (by rw[J,c9];have:(0:Int)<2^P.toNat:=ed (by decide);omega);obtain⟨u,Z,u2,u3,u4⟩:=arR (n:=n) (N:=N) F (by omega) b (.inr (by omega));obtain⟨v,f,v1,v2,v3,v4⟩:=awq (n:=n) (N:=N) Q (by omega) (by omega) b;rw[Z,v1];refine⟨u,v,rfl,rfl,u2,v2,by rw[u3,J],by rw[v3,R],by omega,by omega⟩
   ·rw[if_neg d];have g:(decide (P>8*y)|| !(agm r said||MP r said))=true:=by
     rw[aD,bx,aZ]
     by_cases d1:P≤8*y
     ·right;rw[←ew];exact fun h=>d ⟨d1,h⟩
     ·left;omega
    rw[g,ii,ii];exact⟨[],[],rfl,rfl,Can.nil,Can.nil,rfl,rfl,by simp,by simp⟩
 ·left;refine⟨fun h=>c ⟨h.1,h.2.1⟩,260,by decide,?_,?_⟩
  ·rw[if_pos (by rw[aD,bx,bx];omega)]
  ·rw[if_pos (by rw[aD,bx,bx];omega)]
theorem asr{l:List Int}(h:bt aoa l≤1048576):l.length≤1048576:=by
 have:=aso l;omega
theorem WF{α:Type}{a b:List α}{i:Nat}{d:α}(h:i<a.length):(a++b).getD i d=a.getD i d:=by
 rw[aB,aB,aP h]
theorem WG{α:Type}{a:List α}{x d:α}:(a++[x]).getD a.length d=x:=by
 rw[aB,bc (az _),Nat.sub_self];rfl
theorem ap3{n:Nat}{m:Mod}{r:Rq}{said:List Int}{t:Int}:Ho n m r (said++[t])=Ho n m r said++[(wI n m r said).getD t.toNat 0]:=by
 unfold Ho;rw[ah,bZ,mH];have h:dL (TS n m r (said++[t])) said.length=dL (TS n m r said) said.length:=apy fun i b=>by
  unfold TS;rw[List.take_append_of_le_length (by omega),WF b]
 have a:TS n m r (said++[t]) said.length=(wI n m r said).getD t.toNat 0:=by
  unfold TS;rw[List.take_left,WG]
 rw[h,a]
theorem uF.full{m:Mod}{r:Rq}{said:List Int}(h:uF m r said)(i:((r.1.length+said.length:Nat):Int)≤m.1.2.1):IW m r said:=
 ⟨h.w.v,h.w.p,h.w.g,h.w.pr,i,Bu.2 ⟨(Bu.1 h.w.t).1,h.t⟩⟩
theorem uF.snoc{m:Mod}{r:Rq}{said:List Int}(h:uF m r said)(j:((r.1.length+said.length:Nat):Int)≤m.1.2.1){t:Int}(y:0≤t∧t<m.1.1):uF m r (said++[t]):=by
 refine⟨?_,Bu.2 ⟨h.t,fun x i=> ?_⟩,h.b⟩
 ·rw[ah,bZ,Nat.add_sub_cancel,List.take_left];exact h.full j
 ·rw[List.mem_singleton]at i;rw[i];exact y
theorem ass{l:List Int}(h:TT l<0):∀i,i<l.length→l.getD i 0≠0:=by
 unfold TT at h
 split at h
 ·omega
 ·rename_i e;rw[List.findIdx?_eq_none_iff]at e;intro i a;have:=e _ (am a);rw[aB,ai a];simpa using this
theorem ap4{r:Rq}{said:List Int}{t:Int}(b:MP r said=true)(g:1≤r.2.2.1):(agm r (said++[t])||MP r (said++[t]))=true:=by
 unfold MP at b;rw[bx]at b;have e:=ass b.1;rw[aD];unfold agm MP;rw[bx,bx,ah,bZ]
 by_cases c:t=0
 ·have:TT (said++[t])=(said.length:Int):=WD (by simp) (by rw[WG,c]) (fun i a=>by rw[WF a];exact e i a);rw[this];omega
 ·have:TT (said++[t])= -1:=WC fun i a=>by
   rw[ah,bZ]at a
   by_cases d:i<said.length
   ·rw[WF d];exact e i d
   ·rw[show i=said.length by omega,WG];exact c
  rw[this];omega
theorem aob{B:Int}{k:Nat}:B*((k+1:Nat):Int)=B*(k:Int)+B:=by rw[Int.natCast_add,Int.mul_add];simp
theorem ast{n:Nat}{m:Mod}{r:Rq}{said:List Int}{t y:Int}(c:MP r said=true)(a:1≤r.2.2.1)(b:r.2.1.2.2.2.2.1*((said.length+1:Nat):Int)≤8*y):
  tpI n m r (said++[t]) y=kr (Ho n m r said)*2^(8*y -r.2.1.2.2.2.2.1*((said.length+1:Nat):Int)).toNat*(wI n m r said).getD t.toNat 0:=by
 unfold tpI;rw[ah,bZ,if_pos ⟨b,ap4 c a⟩,ap3,Wv,Int.mul_right_comm];simp[kr]
theorem asu{n:Nat}{m:Mod}{r:Rq}{said:List Int}{y:Int}(b:MP r said=true)(c:0≤r.2.1.2.2.2.2.1)(a:r.2.1.2.2.2.2.1*((said.length+1:Nat):Int)≤8*y):
  tpI n m r said y=kr (Ho n m r said)*2^(8*y -r.2.1.2.2.2.2.1*((said.length+1:Nat):Int)).toNat*2^r.2.1.2.2.2.2.1.toNat:=by
 unfold tpI;rw[aob]at a ⊢;rw[b,Bool.or_true,if_pos ⟨by omega,rfl⟩,ae8,←abe];congr 2;omega
theorem ahI:∀(l:List Int) (i:Nat),(l.take (i+1)).sum=(l.take i).sum+l.getD i 0
 |[],i=>by simp
 |a::l,0=>by simp
 |a::l,i+1=>by
  rw[List.take_succ_cons,List.take_succ_cons,cO,cO,ahI l i,List.getD_cons_succ];omega
theorem aoc:∀{l:List Int},(∀x∈l,0≤x)→0≤l.sum
 |[],_=>by simp
 |a::l,h=>by
  have c:=h a aH;have d:=aoc (l:=l) fun x b=>h x (aG _ b);rw[cO];omega
theorem Yg{l:List Int}(h:∀x∈l,0≤x)(i:Nat):0≤(l.take i).sum∧(l.take i).sum≤l.sum:=by
 have c:=aoc (l:=l.take i) fun x a=>h x (cS a);have d:=aoc (l:=l.drop i) fun x a=>h x (List.mem_of_mem_drop a);have b:(l.take i++l.drop i).sum=(l.take i).sum+(l.drop i).sum:=List.sum_append;rw[bM]at b;omega
theorem asv{v:Int}{k:Nat}(h:v≤2^k)(a:k≤65528):ahn v:=by
 have:=Tt h;unfold ahn;omega
theorem ap5{p S:Int}{a b e k:Nat}(g:0≤p)(h:p≤2^a)(c:0≤S∧S≤2^e)(i:a+b+e=k):0≤p*2^b*S∧p*2^b*S≤2^k:=by
 have d:(0:Int)≤2^b:=acP (ed (by decide));have j:0≤p*2^b:=cp g d;refine⟨cp j c.1,?_⟩;rw[←i,abe,abe];exact dA (bP h d) c.2 c.1 (cp (Int.le_trans g h) d)
theorem aeM{n:Nat}{m:Mod}{r:Rq}{said:List Int}{y S:Int}(hm:MO m)(i:OkR r)(h:Hn0 n)(g:uF m r said)(k:0≤y∧y≤8191)
  (d:r.2.1.2.2.2.2.1*((said.length+1:Nat):Int)≤8*y) (c:0≤S∧S≤2^r.2.1.2.2.2.2.1.toNat):
  kr (Ho n m r said)*2^(8*y -r.2.1.2.2.2.2.1*((said.length+1:Nat):Int)).toNat*S≤2^(8*y).toNat:=by
 have j:=LQ g.w.p.bits;have a:=aeL hm i g h;obtain⟨B,b⟩:∃B:Nat,r.2.1.2.2.2.2.1=(B:Int):=⟨r.2.1.2.2.2.2.1.toNat,by omega⟩;rw[b,ax]at a c;rw[b]at d ⊢;have e:(B:Int)*((said.length+1:Nat):Int)=((B*said.length+B:Nat):Int):=by rw[←Int.natCast_mul,Nat.mul_add,Nat.mul_one]
 rw[e]at d ⊢;exact(ap5 a.1 a.2 c (by omega)).2
theorem Yh{n:Nat}{m:Mod}{r:Rq}{said ZJ:List Int}{y K:Int}{V:Nat}(hm:MO m)(l:OkR r)(j:Hn0 n)(d:uF m r said)(B:((r.1.length+said.length:Nat):Int)≤m.1.2.1)
  (M:MP r said=true) (o:0≤y∧y≤8191) (D:r.2.1.2.2.2.2.1*((said.length+1:Nat):Int)≤8*y) (T:m.1.1=(V:Int)) (F:V≤1000000)
  (E:K=kr (Ho n m r said)*2^(8*y -r.2.1.2.2.2.2.1*((said.length+1:Nat):Int)).toNat):
  ∀(q k i:Nat) (s:List Int),i+q=V→q<k→Can 4294967296 s→vz 4294967296 s=K*((wI n m r said).take i).sum→
  ∃L,jF n k ((),(),(),(),(),m.1.1,(i:Int),m,r,(said,y),(ZJ,()),(s,()),())=some (.inr ((),(),(ZJ,()),(L,()),()))∧Can 4294967296 L∧vz 4294967296 L=K*(wI n m r said).sum
 |0,k,i,s,Q,R,p,w=>by
  obtain⟨k,rfl⟩:=gU k;obtain⟨-,-,Z,-,-⟩:=Mt hm l (d.full B) j;rw[pQ,bN0];exact⟨s,rfl,p,by rw[w,aR (by omega)]⟩
 |q+1,k,i,s,Q,R,p,w=>by
  obtain⟨k,rfl⟩:=gU k;obtain⟨-,-,Z,O,P⟩:=Mt hm l (d.full B) j;have hl:=d.len;have I:=d.snoc B (t:=(i:Int)) (by omega);have H:=d.b.1;have e:=Yg (fun x J=>(O x J).1) (i+1);have c:=aeM hm l j d o D (S:=((wI n m r said).take (i+1)).sum) ⟨e.1,by rw[←P];exact e.2⟩;have a:=Yg (fun x J=>(O x J).1) i;have g:=aeM hm l j d o D (S:=((wI n m r said).take i).sum) ⟨a.1,by rw[←P];exact a.2⟩;rw[←E]at c g;have U:=xm p (k:=(8*y).toNat+1) (by
   rw[w,c9];have:(0:Int)<2^(8*y).toNat:=ed (by decide);omega)
  rw[pQ,bP0,Mk (by show said.length≤_;omega) (by omega),aa];simp only;rw[dU (by simp only[bZ];omega) (by omega),aa];rcases ase (n:=n) (said:=said++[(i:Int)]) (y:=y) hm l (by rw[ah,bZ];omega) j with⟨h,-⟩|⟨-,z,z',t1,-,t3,-,t5,-,t7,-⟩
  ·exact absurd ⟨o.1,o.2,I⟩ h
  ·rw[t1,aa];have N:vz 4294967296 s+vz 4294967296 z=K*((wI n m r said).take (i+1)).sum:=by
    rw[w,t5,ast M H D,←E,ax,ahI,Int.mul_add]
   obtain⟨u,W,X,Y⟩:=at7 (n:=n) p t3 (by omega) (by omega) j (asv (k:=(8*y).toNat) (by rw[N];exact c) (by omega));simp only;rw[W,aa];simp only;rw[show((0:Int)!=0)=false from rfl,bU,aa,bU,aN,show(i:Int)+1=((i+1:Nat):Int)by omega];exact Yh hm l j d B M o D T F E q k (i+1) u (by omega) (by omega) X (by rw[Y,N])
theorem Bv{n:Nat}{m:Mod}{r:Rq}{said:List Int}{y:Int}(Q:gE n ()=some true)(hm:MO m)(b:OkR r)(T:said.length≤1048576)(a:Hn0 n):fr n (m,r,said,y)=some true:=by
 rw[G4,Q,aa,aY,bU];rcases ase (n:=n) (said:=said) (y:=y) hm b T a with⟨-,e,R,h,q⟩|⟨⟨j,k,g⟩,z,z',h,q,t,h4,M,h6,h7,h8⟩
 ·rw[h,aa];simp only;rw[show(e !=0)=true by simpa using R,ii,Bn hm.o.len a,aa,LR b a,aa,q,aa];simp only;rw[beq_self_eq_true,ii,Ly Can.nil (by simp),aa];rfl
 ·have hl:=g.len;have S:=b.p;have hb:=LQ g.w.p.bits;rw[h,aa];simp only;rw[show((0:Int)!=0)=false from rfl,bU,aN (x:=(r.1.length:Int)+(said.length:Int)),ag]
  by_cases c:(r.1.length:Int)+(said.length:Int)>m.1.2.1
  ·rw[if_pos (by rw[bx];exact c),aa,ii]
  ·rw[if_neg (by rw[bx];exact c),LR b a,aa,aeJ (by omega) a,aa];rcases E:MP r said with _ |_
   ·rw[Bool.not_false,ii,aa,ii]
   ·have u:((r.1.length+said.length:Nat):Int)≤m.1.2.1:=by omega
    obtain⟨B,N⟩:∃B:Nat,r.2.1.2.2.2.2.1=(B:Int):=⟨r.2.1.2.2.2.2.1.toNat,by omega⟩;have Z:r.2.1.2.2.2.2.1*((said.length+1:Nat):Int)=((B*(said.length+1):Nat):Int):=by rw[N,Int.natCast_mul]
    have e1:B*(said.length+1)≤32*513:=bD (by omega) (by omega);rw[aY,bU,aa,aN (x:=(said.length:Int)+1),show(said.length:Int)+1=((said.length+1:Nat):Int)by omega,aN (x:=r.2.1.2.2.2.2.1*((said.length+1:Nat):Int)),aN (x:=8*y)]
    by_cases d:r.2.1.2.2.2.2.1*((said.length+1:Nat):Int)>8*y
    ·rw[decide_eq_true d,ii]
    ·obtain⟨D,H,half,C,Y,V,L,o⟩:=g.w.v.1.2.2.2;have O:=o.v;have P:=o.v2;obtain⟨-,-,w3,w4,X⟩:=Mt hm b (g.full u) a;obtain⟨J,F,I,W⟩:=Yh (n:=n) (ZJ:=z) hm b a g u E ⟨j,k⟩ (by omega) O (by omega) rfl V n 0 [] (by omega) (by omega) Can.nil (by simp[vz]);rw[show((0:Nat):Int)=0 from rfl]at F;rw[decide_eq_false d,bU,F,aa];simp only[cI];have l:vz 4294967296 J=vz 4294967296 z:=by
      rw[W,M,asu E (by omega) (by omega),X]
     have i:J.length≤1000000000:=by
      rw[ajz (by decide) I t l];omega
     obtain⟨K,U,p2⟩:=alQ (n:=n) I t i a;rw[U,aa];have:K=0:=by omega
     rw[this];rfl
theorem TW(x:(jN (dk 0).ps).den)(h:Yp (jN (dk 0).ps) x)(b:bt (jN (dk 0).ps) x≤1048576):∃n,fr n x=some true:=by
 obtain⟨m,r,s,y⟩:=x;have b:bt amm m+(bt TRq r+(bt aoa s+bt TN y))≤1048576:=b;exact⟨2000000000,Bv LU (awD h.1 (by omega)) (asq (by omega)) (asr (by omega)) (az _)⟩
end Go.Am.Pu
