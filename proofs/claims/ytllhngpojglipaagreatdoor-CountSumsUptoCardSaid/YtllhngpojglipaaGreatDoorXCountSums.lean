import Derived.Test.YtllhngpojglipaaGreatDoorGT
import Derived.Test.YtllhngpojglipaaGreatDoorA4
import Derived.Test.YtllhngpojglipaaGreatDoorProg
import Derived.Test.YtllhngpojglipaaGreatDoorD
import Derived.Test.YtllhngpojglipaaGreatDoorE2
import Derived.KernelRfl
import Derived.Test.YtllhngpojglipaaGreatDoorE3
import Derived.Test.YtllhngpojglipaaGreatDoorS
import Derived.Test.YtllhngpojglipaaGreatDoorP1
import Derived.Test.YtllhngpojglipaaGreatDoorP4
import Derived.Test.YtllhngpojglipaaGreatDoorP8
import Derived.Test.YtllhngpojglipaaGreatDoorP9
import Derived.Test.YtllhngpojglipaaGreatDoorP3
import Derived.Test.YtllhngpojglipaaGreatDoorP13
set_option linter.unusedVariables false
set_option linter.unusedSimpArgs false
open Array renaming toList→ej
open Bool renaming and_eq_true→ak,not_eq_true'→aZ,not_eq_true→ew,not_true→aY,or_eq_true→aD
open Int renaming ediv_emod_unique→afu,ediv_eq_zero_of_lt→ae7,ediv_nonneg→e7,emod_add_mul_ediv→aeX,emod_lt_of_pos→dz,emod_nonneg→e9,le_of_lt→acP,mul_assoc→ae8,mul_comm→aa5,mul_le_mul_of_nonneg_left→ci,mul_le_mul_of_nonneg_right→bP,mul_le_mul→dA,mul_nonneg→cp,pow_add→abe,pow_pos→ed,pow_succ→c9,toNat_natCast→ax
open Go.IntKind renaming bits→b9,wrap→ae
open List renaming append_assoc→bo,append_nil→cG,drop_eq_getElem_cons→bi,drop_of_length_le→bA,getD_eq_getElem?_getD→aB,getElem?_append_left→aP,getElem?_append_right→bc,getElem?_eq_getElem→ai,getElem?_eq_none→bd,getElem?_set_self→fl,getElem_mem→am,length_append→ah,length_nil→dr,length_replicate→aU,length_set→aO,length_singleton→bZ,length_take→aC,length→af,map_append→eu,map_congr_left→ft,mem_cons_of_mem→aG,mem_cons_self→aH,mem_of_mem_take→cS,nil_append→bC,replicate→ao,set→aX,sum_cons→cO,take_append_drop→bM,take_length→ch,take_of_length_le→aR,take_zero→eW,toArray→aeZ
open Nat renaming add_assoc→eZ,le_refl→az,le_trans→ei,mul_le_mul→bD
open Option renaming bind_some→aa
namespace Go.Am
open Go Go.Proofs
set_option maxRecDepth 100000
abbrev G3:GK:=.bf (.data Y83)
abbrev D85:Type:=Bool×(List Int)
abbrev D86:Type:=(List Int)×D85
theorem aGz:VOK Tryz.prog 103 (.data Y83):=⟨rfl,rfl,by decide,by kernel_rfl⟩
theorem aGA:VOK Tryz.prog 160 U3:=⟨rfl,rfl,by decide,by kernel_rfl⟩
open Go.Proofs.Tryz
noncomputable section
variable (n:Nat)
def acH:NS:=⟨[(2,.fix (.v false [.ptr 0 0])),(3,.fix (.v false [.ptr 1 0])),(5,aF)],[(0,.obj Y7),(1,.obj Y7)],20⟩
def KT:LS:=⟨acH,[(.ret,⟨[(4,dB0)],[],20⟩),(.exit 0,⟨[(2,.fix (.v false [.ptr 0 0])),(3,.fix (.v false [.ptr 1 0]))],[(0,.obj Y7),(1,.obj Y7)],20⟩)]⟩
def acI:NS:=⟨[(2,.fix (.v false [.ptr 0 0])),(3,.fix (.v false [.ptr 1 0])),(6,aF)],[(0,.obj Y7),(1,.obj Y7)],21⟩
def KU:LS:=⟨acI,[(.ret,⟨[(4,dB0)],[],21⟩),(.exit 2,⟨[],[],21⟩)]⟩
def ze:Cx:=aE [] [] [(1,[(22,.bool)])] [(4,KT),(9,KU)] [] 59 n
def zf(x:(D5×(List D1))×D5×(List D1)):Option (Bool):=ap (ze n) f47 [Y7,Y7] [.bool] x
def Sa:Entry:=⟨[Y7,Y7],[.bool],zf n⟩
def Sc:Cx:=aE [(46,KR n)] [] [(1,[(4,.bool)])] [] [] 15 n
def tB(x:xw×ar):Option (Bool):=ap (Sc n) f21 [zq,aT] [.bool] x
def GS:Entry:=⟨[zq,aT],[.bool],tB n⟩
def acL:NS:=⟨[(3,aF),(4,aF)],[],16⟩
def KZ:LS:=⟨acL,[(.exit 0,⟨[(3,aF)],[],16⟩)]⟩
def GU:Cx:=aE [] [] [] [(5,KZ)] [] 25 n
def zg(x:ar):Option (Int):=ap (GU n) f135 [aT] [au] x
def Sd:Entry:=⟨[aT],[au],zg n⟩
def tC(k:Nat)(v:Int×Int×Unit):Option (Int×Unit):=aw (GU n) f135 KZ 5 k v
def XD:Cx:=aE [(135,Sd n)] [] [] [] [] 8 n
def Cm(x:ar):Option (ar×Int):=ap (XD n) f95 [aT] [aT,au] x
def XE:Entry:=⟨[aT],[aT,au],Cm n⟩
def acM:Cx:=aE [(43,Ph n),(42,KN n),(95,XE n)] [] [] [] [] 35 n
def GV(x:ar×Int):Option (ar×Bool):=ap (acM n) f52 [aT,au] [aT,.bool] x
def acN:Entry:=⟨[aT,au],[aT,.bool],GV n⟩
def Oi:Cx:=aE [(12,xG n),(15,DP n),(21,GS n),(52,acN n)] [] [(1,[(20,.bool)]),(7,[(52,.bool)])] [] [] 63 n
def oj(x:(D4×fy)×xw×ar×Int):Option (ar×Int):=ap (Oi n) f19 [gW,zq,aT,au] [aT,au] x
def DQ:Entry:=⟨[gW,zq,aT,au],[aT,au],oj n⟩
def K0:Cx:=aE [] [] [] [] [] 15 n
def pf(x:rY×Int):Option (Int):=ap (K0 n) f55 [pT,au] [(.int .u32)] x
def K4:Entry:=⟨[pT,au],[(.int .u32)],pf n⟩
def Cn:Cx:=aE [] [] [] [] [] 22 n
def oA(x:Int×Int×Int):Option (Int×Int):=ap (Cn n) f54 [(.int .u32),(.int .u32),(.int .u32)] [(.int .u32),(.int .u32)] x
def Co:Entry:=⟨[(.int .u32),(.int .u32),(.int .u32)],[(.int .u32),(.int .u32)],oA n⟩
def Zw:NS:=⟨[(2,.fix (.v false [.ptr 0 0])),(3,.fix (.v false [.ptr 1 0])),(4,.fix (.v false [.ptr 2 0])),(6,.fix (.v false [.vec 12])),(7,.data (.int .u32)),(19,aF),(20,aF)],[(0,.obj pT),(1,.obj pT),(2,.cells [.own (.int .u32)]),(12,.row (.int .u32))],18⟩
def Iw:LS:=⟨Zw,[(.exit 0,⟨[(4,.fix (.v false [.ptr 2 0])),(6,.fix (.v false [.vec 12]))],[(2,.cells [.own (.int .u32)]),(12,.row (.int .u32))],18⟩)]⟩
def DR:Cx:=aE [(55,K4 n),(54,Co n),(57,zt n),(56,Dw n)] [] [] [(4,Iw)] [] 43 n
def wo(x:rY×rY):Option (rY×Int):=ap (DR n) f22 [pT,pT] [pT,au] x
def Oj:Entry:=⟨[pT,pT],[pT,au],wo n⟩
def rl(k:Nat)(v:Unit×Unit×Unit×Unit×Int×Int×Int×rY×rY×(ar×Unit)×ar×Unit):Option (Unit×Unit×(ar×Unit)×ar×Unit):=aw (DR n) f22 Iw 4 k v
end
noncomputable section
variable (n:Nat)
def My:NS:=⟨[(2,.fix (.v false [.ptr 0 0])),(3,.fix (.v false [.ptr 1 0])),(5,aF)],[(0,.obj pT),(1,.obj pT)],24⟩
def xW:LS:=⟨My,[(.ret,⟨[(4,aF)],[],24⟩),(.exit 1,⟨[],[],24⟩)]⟩
def tD:Cx:=aE [] [] [] [(6,xW)] [] 54 n
def oB(x:rY×rY):Option (Int):=ap (tD n) f23 [pT,pT] [au] x
def Cp:Entry:=⟨[pT,pT],[au],oB n⟩
def gT(k:Nat)(v:Unit×Unit×Int×rY×rY×Unit):Option ((Int×Unit)⊕Unit):=aw (tD n) f23 xW 6 k v
def aDa:Cx:=aE [(60,akK n)] [] [] [] [] 10 n
def amU(x:Int):Option (rY×Int):=ap (aDa n) f28 [au] [pT,au] x
def awI:Entry:=⟨[au],[pT,au],amU n⟩
end
noncomputable section
variable (n:Nat)
def aA3:Cx:=aE [] [] [(1,[(2,.bool)])] [] [] 11 n
def aqr(x:xw):Option (Bool):=ap (aA3 n) f100 [zq] [.bool] x
def aA4:Entry:=⟨[zq],[.bool],aqr n⟩
def awL:NS:=⟨[(0,.data Y5),(1,.data Y5),(12,aF),(13,aF)],[],9⟩
def awM:LS:=⟨awL,[(.ret,⟨[(4,dB0)],[],9⟩),(.exit 0,⟨[],[],9⟩)]⟩
def ar6:Cx:=aE [] [] [] [(4,awM)] [] 26 n
def ayi(x:D5×D5):Option (Bool):=ap (ar6 n) f143 [Y5,Y5] [.bool] x
def asa:Entry:=⟨[Y5,Y5],[.bool],ayi n⟩
def auM:NS:=⟨[(0,.data Y6),(1,.data Y6),(12,aF),(13,aF)],[],9⟩
def auN:LS:=⟨auM,[(.ret,⟨[(4,dB0)],[],9⟩),(.exit 0,⟨[],[],9⟩)]⟩
def an6:Cx:=aE [] [] [] [(4,auN)] [] 26 n
def awE(x:(List D1)×(List D1)):Option (Bool):=ap (an6 n) f144 [Y6,Y6] [.bool] x
def aow:Entry:=⟨[Y6,Y6],[.bool],awE n⟩
def azQ:Cx:=aE [(143,asa n),(144,aow n)] [] [(1,[(4,.bool)])] [] [] 17 n
def azR(x:(D5×(List D1))×D5×(List D1)):Option (Bool):=ap (azQ n) f101 [Y7,Y7] [.bool] x
def azS:Entry:=⟨[Y7,Y7],[.bool],azR n⟩
def azT:Cx:=aE [(77,QY n),(100,aA4 n),(101,azS n),(78,F8 n),(79,vD n),(81,Nj n)] [] [(1,[(11,.bool)]),(3,[(24,.bool)]),(12,[(60,.bool)]),(14,[(69,.bool)]),(20,[(99,.bool)])] [] [] 116 n
def aq8(x:(D4×fy)×(D4×fy)×xw):Option (Int):=ap (azT n) f62 [gW,gW,zq] [au] x
def azU:Entry:=⟨[gW,gW,zq],[au],aq8 n⟩
def aAu:NS:=⟨[(1,aF),(2,.fix (.v false [.ptr 0 0])),(4,.fix (.v false [.ptr 1 0])),(6,.fix (.v false [.vec 17])),(27,aF),(28,aF)],[(0,.obj pT),(1,.cells [.own (.int .u32)]),(17,.row (.int .u32))],22⟩
def awN:LS:=⟨aAu,[(.exit 1,⟨[(4,.fix (.v false [.ptr 1 0])),(6,.fix (.v false [.vec 17]))],[(1,.cells [.own (.int .u32)]),(17,.row (.int .u32))],22⟩)]⟩
def au3:Cx:=aE [(20,oU n),(55,K4 n),(57,zt n)] [] [] [(7,awN)] [] 59 n
def ari(x:rY×Int):Option (rY×Int):=ap (au3 n) f102 [pT,au] [pT,au] x
def ayD:Entry:=⟨[pT,au],[pT,au],ari n⟩
def amp(k:Nat)(v:Int×Unit×Unit×Unit×Int×Int×rY×(ar×Unit)×ar×Unit):Option (Unit×Unit×(ar×Unit)×ar×Unit):=aw (au3 n) f102 awN 7 k v
def aw3:NS:=⟨[(0,.vt (.gp 3 0)),(1,.data aT),(5,.fix (.v false [.ptr 5 0])),(75,.data aT),(76,aF),(77,aF)],[(3,.gh true G2),(4,.gh true G3),(5,.obj pT)],57⟩
def arj:LS:=⟨aw3,[(.ret,⟨[(6,aF)],[(3,.gh true G2),(4,.gh true G3)],57⟩),(.exit 0,⟨[],[(3,.gh true G2),(4,.gh true G3)],57⟩)]⟩
def amt(R:((Option Nat)×ar×rY)→(H2×H3×Unit)→Unit→Option (Int×H2×H3×Unit)):Cx:={ tt:=tt,calls:=[(14,Dx n),(39,Ka n),(28,awI n),(102,ayD n),(84,ND n)],owns:=[(80,O80)],stats:=[(63,⟨[(.gp 3 0),(.data aT),(.data pT)],[(.data au)],[(3,G2),(4,G3)],[],R⟩)],Ue:=[(103,(.data Y83))],nc:=5,ljs:=[(5,[(44,.bool)])],loops:=[(12,arj)],gV:=[],nt:=118,fuel:=n }
def ae9(n k:Nat)(x:(Option Nat)×ar×rY)(h:H2×H3×Unit)(o:Unit):Option (Int×H2×H3×Unit):=Nat.rec (motive:=fun _=>((Option Nat)×ar×rY)→(H2×H3×Unit)→Unit→Option (Int×H2×H3×Unit)) (fun _ _ _=>none) (fun _ R=>sd (amt n R) f63 [(.gp 3 0),(.data aT),(.data pT)] [(.data au)] [(3,G2),(4,G3)] []) k x h o
def amu(x:(Option Nat)×ar×rY)(h:H2×H3×Unit)(o:Unit):Option (Int×H2×H3×Unit):=ae9 n n x h o
def atP:xt:=⟨[(.gp 3 0),(.data aT),(.data pT)],[(.data au)],[(3,G2),(4,G3)],[],amu n⟩
def afv(R:((Option Nat)×ar×rY)→(H2×H3×Unit)→Unit→Option (Int×H2×H3×Unit))(k:Nat)(v:(Option Nat)×ar×Unit×ar×Int×Int×H2×H3×rY×Unit):Option ((Int×H2×H3×Unit)⊕(H2×H3×Unit)):=aw (amt n R) f63 arj 12 k v
end
noncomputable section
variable (n:Nat)
def azV:Cx:={ tt:=tt,calls:=[(62,azU n),(50,Rs n),(28,awI n),(29,Rv n)],owns:=[],stats:=[(63,atP n)],Ue:=[(160,U3)],mks:=[(160,3)],loc:=[(3,G2),(4,G3)],nc:=5,ljs:=[(1,[(22,.bool)])],loops:=[],gV:=[],nt:=68,fuel:=n }
def amq(x:(D4×fy)×xw×Int):Option ((List D83)×Int):=ap (azV n) f31 [gW,zq,au] [Y84,au] x
def aw4:Entry:=⟨[gW,zq,au],[Y84,au],amq n⟩
def ax9:Cx:=aE [] [] [] [] [] 6 n
def apM(x:xw):Option (xw):=ap (ax9 n) f65 [zq] [zq] x
def ayc:Entry:=⟨[zq],[zq],apM n⟩
def azW:Cx:=aE [] [] [(1,[(2,.bool)])] [] [] 11 n
def amr(x:xw):Option (Bool):=ap (azW n) f103 [zq] [.bool] x
def azX:Entry:=⟨[zq],[.bool],amr n⟩
def azg:Cx:=aE [(85,NU n),(103,azX n),(47,Sa n),(86,DE n),(87,wc n),(88,Kj n)] [] [(1,[(22,.bool)]),(3,[(32,.bool)]),(11,[(58,.bool)]),(13,[(76,.bool)]),(20,[(108,.bool)])] [] [] 109 n
def asE(x:(D4×fy)×(D4×fy)×xw):Option (Int):=ap (azg n) f64 [gW,gW,zq] [au] x
def azh:Entry:=⟨[gW,gW,zq],[au],asE n⟩
def azY:NS:=⟨[(2,.data aT),(3,aF),(4,aF),(5,.fix (.v false [.ptr 0 0])),(6,.fix (.v false [.ptr 1 0])),(14,.own Y86),(15,aF)],[(0,.obj gW),(1,.obj zq)],40⟩
def awc:LS:=⟨azY,[(.exit 0,⟨[(4,aF),(14,.own Y86)],[],40⟩)]⟩
def au4(R:((D4×fy)×xw×ar×Int×Int)→Option ((List D86)×Int)):Cx:=aE [(19,DQ n),(15,DP n),(66,⟨[gW,zq,aT,au,au],[Y87,au],R⟩)] [] [(2,[(31,.bool)])] [(11,awc)] [] 86 n
def ait(n k:Nat)(x:(D4×fy)×xw×ar×Int×Int):Option ((List D86)×Int):=Nat.rec (motive:=fun _=>((D4×fy)×xw×ar×Int×Int)→Option ((List D86)×Int)) (fun _=>none) (fun _ R=>ap (au4 n R) f66 [gW,zq,aT,au,au] [Y87,au]) k x
def au5(x:(D4×fy)×xw×ar×Int×Int):Option ((List D86)×Int):=ait n n x
def ayJ:Entry:=⟨[gW,zq,aT,au,au],[Y87,au],au5 n⟩
def amo(R:((D4×fy)×xw×ar×Int×Int)→Option ((List D86)×Int))(k:Nat)(v:ar×Int×Int×Unit×Unit×(List D86)×Int×(D4×fy)×xw×Unit):Option (Int×(List D86)×Unit):=aw (au4 n R) f66 awc 11 k v
def azZ:Cx:=aE [(65,ayc n),(64,azh n),(66,ayJ n)] [] [(1,[(16,.bool)])] [] [] 36 n
def auD(x:(D4×fy)×xw×Int):Option ((List D86)×Int):=ap (azZ n) f32 [gW,zq,au] [Y87,au] x
def az0:Entry:=⟨[gW,zq,au],[Y87,au],auD n⟩
def aBc:NS:=⟨[(0,.data aT),(1,.data aT),(5,aF)],[],2⟩
def ayd:LS:=⟨aBc,[(.ret,⟨[(4,dB0)],[],2⟩),(.exit 0,⟨[],[],2⟩)]⟩
def awF:Cx:=aE [] [] [(2,[(15,.bool)])] [(2,ayd)] [] 36 n
def aox(x:ar×ar):Option (Bool):=ap (awF n) f33 [aT,aT] [.bool] x
def azj:Entry:=⟨[aT,aT],[.bool],aox n⟩
def ap6(k:Nat)(v:ar×ar×Int×Unit):Option ((Bool×Unit)⊕Unit):=aw (awF n) f33 ayd 2 k v
def aBd:NS:=⟨[(6,.fix (.v false [.ptr 2 0])),(10,.fix (.v false [.ptr 16 0])),(25,.data Y84),(26,aF),(27,aF)],[(2,.cells [.own (.int .u32)]),(16,.obj pT)],21⟩
def aye:LS:=⟨aBd,[(.exit 0,⟨[(6,.fix (.v false [.ptr 2 0])),(10,.fix (.v false [.ptr 16 0]))],[(2,.cells [.own (.int .u32)]),(16,.obj pT)],21⟩)]⟩
def aAv:NS:=⟨[(6,.fix (.v false [.ptr 2 0])),(10,.fix (.v false [.ptr 16 0])),(25,.data Y84),(26,aF),(27,aF)],[(2,.cells [.own (.int .u32)]),(16,.obj pT)],30⟩
def awG:Cx:=aE [(31,aw4 n),(22,Oj n)] [] [] [(6,aye)] [(33,aAv)] 43 n
def asF(x:(D4×fy)×xw×Int):Option (rY×Int):=ap (awG n) f34 [gW,zq,au] [pT,au] x
def azk:Entry:=⟨[gW,zq,au],[pT,au],asF n⟩
def ap7(k:Nat)(v:Unit×Unit×(List D83)×Int×Int×(ar×Unit)×rY×Unit):Option (Unit×Unit×(ar×Unit)×rY×Unit):=aw (awG n) f34 aye 6 k v
def ayW:NS:=⟨[(2,aF),(3,.fix (.v false [.ptr 0 0])),(4,.fix (.v false [.ptr 1 0])),(7,.data Y84),(11,.fix (.v false [.ptr 18 0])),(12,.fix (.v false [.ptr 19 0])),(51,.data Y84),(52,aF),(53,aF)],[(0,.obj gW),(1,.obj zq),(18,.obj pT),(19,.cells [.own (.int .u32)])],25⟩
def atQ:LS:=⟨ayW,[(.ret,⟨[(6,dB0)],[],25⟩),(.exit 0,⟨[(2,aF),(3,.fix (.v false [.ptr 0 0])),(4,.fix (.v false [.ptr 1 0])),(11,.fix (.v false [.ptr 18 0]))],[(0,.obj gW),(1,.obj zq),(18,.obj pT)],25⟩)]⟩
def ark:Cx:=aE [(8,vQ n),(31,aw4 n),(9,Gq n),(10,Gs n),(32,az0 n),(22,Oj n),(23,Cp n),(14,Dx n),(33,azj n),(28,awI n),(29,Rv n),(34,azk n),(20,oU n)] [] [(6,[(6,.bool)]),(12,[(82,.bool)]),(15,[(97,.bool)]),(20,[(121,.bool)]),(23,[(6,.bool)])] [(9,atQ)] [] 147 n
def ahJ(x:(D4×fy)×xw×Int):Option (Bool):=ap (ark n) f7 [gW,zq,au] [.bool] x
def aeW:Entry:=⟨[gW,zq,au],[.bool],ahJ n⟩
def ajQ(k:Nat)(v:Int×Unit×Unit×(List D83)×Unit×Unit×(List D83)×Int×Int×(D4×fy)×xw×rY×(ar×Unit)×Unit):Option ((Bool×Unit)⊕(Int×Unit×Unit×Unit×(D4×fy)×xw×rY×Unit)):=aw (ark n) f7 atQ 9 k v
end
section
variable (n k:Nat)
set_option maxHeartbeats 4000000
theorem Z4(a0:xw)(a1:ar):yS n (a0,a1)=((ip n (a1,0)).bind fun v2=>av (!v2) (some (decide ((af a1:Int)<a0.2.2.1))) (some false)).bind fun v1=>some v1:=by kernel_rfl
end
section
variable (n k:Nat)
theorem aaw(a0:xw)(a1:ar):tB n (a0,a1)=((wU n a1).bind fun v2=>av (decide (v2<0)) (some (decide ((af a1:Int)<a0.2.2.1))) (some false)).bind fun v1=>some v1:=by kernel_rfl
theorem aax(a0:ar):zg n a0=av ((af a0:Int)==0) (some 0) ((idx a0 (ae .i64 ((af a0:Int) -1))).bind fun v1=>(tC n n ((ae .i64 (16*(ae .i64 ((af a0:Int) -1)))),v1,())).bind fun v2=>some v2.1):=by kernel_rfl
theorem CZ(s3 s4:Int):tC n (k+1) (s3,s4,())=av (decide (s4>0)) ((qt .i64 s4 2).bind fun v1=>tC n k ((ae .i64 (s3+1)),v1,())) (some (s3,())):=by kernel_rfl
theorem adq(a0:ar):Cm n a0=(zg n a0).bind fun v1=>av (decide (v1>65536)) (some ([],41)) (some (a0,0)):=by kernel_rfl
theorem afF(a0:ar)(a1:Int):GV n (a0,a1)=av ((af a0:Int)==0) (some (a0,true)) (av (decide (a1>65536)) (some ([],false)) ((qt .i64 a1 16).bind fun v1=>(Bx 8 v1).bind fun v2=>(rm a1 16).bind fun v3=>(qc .i64 1 (ae .u64 v3)).bind fun v4=>(Ai n v4).bind fun v5=>(wT n (a0,v5)).bind fun v6=>(app 8 (ao v2 0) v6).bind fun v7=>(Cm n v7).bind fun v8=>some (v7,(v8.2==0)))):=by kernel_rfl
theorem Wd(a0:D4×fy)(a1:xw)(a2:ar)(a3:Int):oj n (a0,a1,a2,a3)=(av (decide (a3<0)) (some true) (some (decide (a3>8191)))).bind fun v1=>av v1 (some ([],260)) ((kQ n (a0,a1,a2)).bind fun v2=>av (v2.2 !=0) (some ([],v2.2)) ((av (decide ((ae .i64 (a1.2.1.2.2.2.2.1*(af a2:Int)))>(ae .i64 (8*a3)))) (some true) ((oi n (a1,a2)).bind fun v4=>av (!v4) ((tB n (a1,a2)).bind fun v5=>some (!v5)) (some false))).bind fun v3=>av v3 (some ([],0)) ((GV n (v2.1,(ae .i64 ((ae .i64 (8*a3)) -(ae .i64 (a1.2.1.2.2.2.2.1*(af a2:Int))))))).bind fun v6=>some (v6.1,0)))):=by kernel_rfl
theorem SN(a0:rY)(a1:Int):pf n (a0,a1)=av (decide (a1<(af a0.1:Int))) ((idx a0.1 a1).bind fun v1=>some v1) (some 0):=by kernel_rfl
theorem Lc(a0 a1 a2:Int):oA n (a0,a1,a2)=(ui .u64 (ae .u64 ((ae .u64 ((ae .u64 a0)+(ae .u64 a1)))+(ae .u64 a2))) 32).bind fun v1=>some ((ae .u32 (ae .u64 ((ae .u64 ((ae .u64 a0)+(ae .u64 a1)))+(ae .u64 a2)))),(ae .u32 v1)):=by kernel_rfl
theorem We(a0 a1:rY):wo n (a0,a1)=(Bx 4 (ae .i64 ((imax (af a0.1:Int) (af a1.1:Int))+1))).bind fun v1=>(rl n n ((),(),(),(),0,(((af (ao v1 (0:Int))):Nat):Int),0,a0,a1,([],()),(ao v1 0),())).bind fun v2=>(pB n v2.2.2.2.1).bind fun v3=>(qo n v3).bind fun v4=>some v4:=by kernel_rfl
theorem Bc(s7 xH wq:Int)(o0 o1:rY)(akM o12:ar):rl n (k+1) ((),(),(),(),s7,xH,wq,o0,o1,(akM,()),o12,())=av (decide (wq<xH)) ((pf n (o0,wq)).bind fun v1=>(pf n (o1,wq)).bind fun v2=>(oA n (v1,v2,s7)).bind fun v3=>(ck wq (af o12)).bind fun v4=>((o12)[v4]?).bind fun _=>rl n k ((),(),(),(),v3.2,xH,(ae .i64 (wq+1)),o0,o1,(akM,()),(aX o12 v4 v3.1),())) (some ((),(),(akM,()),o12,())):=by kernel_rfl
end
section
variable (n k:Nat)
theorem Ld(a0 a1:rY):oB n (a0,a1)=av (decide ((af a0.1:Int)<(af a1.1:Int))) (some (-1)) (av (decide ((af a0.1:Int)>(af a1.1:Int))) (some 1) ((gT n n ((),(),(ae .i64 ((af a0.1:Int) -1)),a0,a1,())).bind fun v1=>cI v1 (fun v2=>some v2.1) (fun _=>some 0))):=by kernel_rfl
theorem tU(s5:Int)(o0 o1:rY):gT n (k+1) ((),(),s5,o0,o1,())=av (decide (s5≥0)) ((idx o0.1 s5).bind fun v1=>(idx o1.1 s5).bind fun v2=>av (decide (v1<v2)) (some (.inl ((-1),()))) ((idx o0.1 s5).bind fun v3=>(idx o1.1 s5).bind fun v4=>av (decide (v3>v4)) (some (.inl (1,()))) (gT n k ((),(),(ae .i64 (s5 -1)),o0,o1,())))) (some (.inr ())):=by kernel_rfl
theorem aA6(a0:Int):amU n a0=av (decide (a0<0)) (some (([],()),40)) ((Kb n (ae .u64 a0)).bind fun v1=>some (v1,0)):=by kernel_rfl
end
section
variable (n k:Nat)
theorem aBR(a0:xw):aqr n a0=(av (a0.2.2.2.1 !=0) (some (a0.2.2.2.2.1==0)) (some false)).bind fun v1=>some v1:=by kernel_rfl
theorem aBf(a0 a1:D4×fy)(a2:xw):aq8 n (a0,a1,a2)=((yF n a0).bind fun v2=>av (!v2) (some true) ((aqr n a2).bind fun v3=>av v3 ((yF n a1).bind fun v4=>some (!v4)) (some false))).bind fun v1=>av v1 (some 210) (((aqr n a2).bind fun v6=>av v6 ((azR n (a0.2.1,a1.2.1)).bind fun v7=>some (!v7)) (some false)).bind fun v5=>av v5 (some 250) ((sx n (a2.2.1,a0.1.1)).bind fun v8=>av (v8 !=0) (some v8) ((lr n a2.2.2.2.2.2.1).bind fun v9=>av (v9.2 !=0) (some v9.2) ((av (decide (a2.2.2.1<1)) (some true) (some (decide (a2.2.2.1>512)))).bind fun v10=>av v10 (some 251) ((av (decide (a2.2.2.2.1<0)) (some true) (av (decide (a2.2.2.2.1>16)) (some true) (av (decide (a2.2.2.2.2.1<0)) (some true) (some (decide (a2.2.2.2.2.1>8)))))).bind fun v11=>av v11 (some 252) (av ((af a2.1:Int)==0) (some 212) ((vE n (a0,a2.1)).bind fun E7=>av (!E7) (some 133) ((av (decide ((ae .i64 ((ae .i64 ((af a2.1:Int)+a2.2.2.1)) -1))>a0.1.2.1)) (some true) ((aqr n a2).bind fun Me=>av Me (some (decide ((ae .i64 ((ae .i64 ((af a2.1:Int)+a2.2.2.1)) -1))>a1.1.2.1))) (some false))).bind fun Cq=>av Cq (some 212) (some 0))))))))):=by kernel_rfl
theorem az2(a0:rY)(a1:Int):ari n (a0,a1)=av (decide (a1<0)) (some (([],()),1)) ((iX n a0).bind fun v1=>av (decide (a1≥v1)) (some (([],()),0)) ((qt .i64 a1 32).bind fun v2=>(Bx 4 (ae .i64 ((af a0.1:Int) -v2))).bind fun v3=>(amp n n (a1,(),(),(),(((af (ao v3 (0:Int))):Nat):Int),0,a0,([],()),(ao v3 0),())).bind fun v4=>(pB n v4.2.2.2.1).bind fun v5=>some (v5,0))):=by kernel_rfl
theorem auz(s1 s27 s28:Int)(o0:rY)(pg o17:ar):amp n (k+1) (s1,(),(),(),s27,s28,o0,(pg,()),o17,())=av (decide (s28<s27)) ((qt .i64 s1 32).bind fun v1=>(pf n (o0,(ae .i64 ((ae .i64 (s28+v1))+1)))).bind fun v2=>(qc .u64 (ae .u64 v2) 32).bind fun v3=>(qt .i64 s1 32).bind fun v4=>(pf n (o0,(ae .i64 (s28+v4)))).bind fun v5=>(rm s1 32).bind fun v6=>(ui .u64 (r9 .or .u64 v3 (ae .u64 v5)) v6).bind fun v7=>(ck s28 (af o17)).bind fun v8=>((o17)[v8]?).bind fun _=>amp n k (s1,(),(),(),s27,(ae .i64 (s28+1)),o0,(pg,()),(aX o17 v8 (ae .u32 v7)),())) (some ((),(),(pg,()),o17,())):=by kernel_rfl
theorem awT(a0:Option Nat)(a1:ar)(a2:rY)(h3:H2)(h4:H3):ae9 n (k+1) (a0,a1,a2) (h3,h4,()) ()=(a0).bind fun v1=>(fA h3 v1).bind fun v2=>(a0).bind fun v3=>(fA h3 v3).bind fun v4=>(uG h3 v3 (v4.1,v4.2.1,v4.2.2.1,(ae .i64 (v2.2.2.2.1+1)),v4.2.2.2.2)).bind fun v5=>(a0).bind fun v6=>(fA v5 v6).bind fun v7=>av (decide (v7.2.2.2.1>4096)) (some (261,v5,h4,())) ((a0).bind fun v8=>(fA v5 v8).bind fun v9=>(n4 n (v9.2.1,a1)).bind fun v10=>(av v10 (some true) ((a0).bind fun E7=>(fA v5 E7).bind fun Cq=>some ((af a1:Int)==Cq.2.2.1))).bind fun v11=>av v11 ((a0).bind fun Me=>(fA v5 Me).bind fun ZA=>(app 8 [] a1).bind fun v16=>(gsA 56 h4 ZA.2.2.2.2 [(v16,v10,a2)]).bind fun v17=>(a0).bind fun v18=>(fA v5 v18).bind fun v19=>(uG v5 v18 (v19.1,v19.2.1,v19.2.2.1,v19.2.2.2.1,v17.2)).bind fun v20=>some (0,v20,v17.1,())) ((a0).bind fun v21=>(fA v5 v21).bind fun v22=>(a0).bind fun v23=>(fA v5 v23).bind fun v24=>(iW n (v22.1,v24.2.1,a1)).bind fun v25=>av (v25.2 !=0) (some (v25.2,v5,h4,())) ((afv n (ae9 n k) n (a0,a1,(),v25.1,(af v25.1:Int),0,v5,h4,a2,())).bind fun v26=>cI v26 (fun v27=>some v27) (fun v28=>some (0,v28))))):=by kernel_rfl
theorem ams(R:((Option Nat)×ar×rY)→(H2×H3×Unit)→Unit→Option (Int×H2×H3×Unit))(k:Nat)(s0:Option Nat)(s1 s75:ar)(s76 s77:Int)(o3:H2)(o4:H3)(o5:rY):afv n R (k+1) (s0,s1,(),s75,s76,s77,o3,o4,o5,())=av (decide (s77<s76)) ((idx s75 s77).bind fun v1=>av (v1==0) (afv n R k (s0,s1,(),s75,s76,(ae .i64 (s77+1)),o3,o4,o5,())) ((amU n v1).bind fun v2=>(s0).bind fun v3=>(fA o3 v3).bind fun v4=>(ari n (o5,v4.2.1.2.1.2.2.2.2.1)).bind fun v5=>(vM n (v5.1,v2.1)).bind fun v6=>(app 8 [] s1).bind fun v7=>(app 8 v7 [s77]).bind fun v8=>(R (s0,v8,v6.1) (o3,o4,()) ()).bind fun v9=>av (v9.1 !=0) (some (.inl v9)) (afv n R k (s0,s1,(),s75,s76,(ae .i64 (s77+1)),v9.2.1,v9.2.2.1,o5,())))) (some (.inr (o3,o4,()))):=by kernel_rfl
end
section
variable (n k:Nat)
theorem aBg(a0:D4×fy)(a1:xw)(a2:Int):amq n (a0,a1,a2)=(av (decide (a2<0)) (some true) (some (decide (a2>8191)))).bind fun v1=>av v1 (some ([],260)) ((aq8 n (a0,((0,0,0,0,0,0),([],[]),[],0,[],[],[],[],[],[],0),a1.1,a1.2.1,a1.2.2.1,0,a1.2.2.2.2)).bind fun v2=>av (v2 !=0) (some ([],v2)) ((sW n (a1.2.1.2.2.2.2.1,a2)).bind fun v3=>(amU n 1).bind fun v4=>(sX n (v4.1,(ae .i64 (8*a2)))).bind fun v5=>av (v5.2 !=0) (some ([],v5.2)) ((amu n ((Option.some 0),[],v5.1) ((eE [] (a0,(a1.1,a1.2.1,a1.2.2.1,0,a1.2.2.2.2),v3.1,0,Option.none)),[],()) ()).bind fun v6=>av (v6.1 !=0) (some ([],v6.1)) ((fA v6.2.1 0).bind fun v7=>(gsF v6.2.2.1 v7.2.2.2.2).bind fun v8=>some (v8.1,0))))):=by kernel_rfl
theorem azs(a0:xw):apM n a0=some (a0.1,a0.2.1,a0.2.2.1,0,a0.2.2.2.2.1,a0.2.2.2.2.2.1,(ej (ByteArray.data (ByteArray.mk (aeZ []))))):=by kernel_rfl
theorem aBh(a0:xw):amr n a0=(av (a0.2.2.2.1 !=0) (some (a0.2.2.2.2.1==0)) (some false)).bind fun v1=>some v1:=by kernel_rfl
theorem aAK(a0 a1:D4×fy)(a2:xw):asE n (a0,a1,a2)=((vZ n a0).bind fun v2=>av (!v2) (some true) ((amr n a2).bind fun v3=>av v3 ((vZ n a1).bind fun v4=>some (!v4)) (some false))).bind fun v1=>av v1 (some 210) (((amr n a2).bind fun v6=>av v6 ((zf n (a0.2.1,a1.2.1)).bind fun v7=>some (!v7)) (some false)).bind fun v5=>av v5 (some 250) ((qq n (a2.2.1,a0.1.1)).bind fun v8=>av (v8 !=0) (some v8) ((lz n a2.2.2.2.2.2.1).bind fun v9=>av (v9.2 !=0) (some v9.2) ((av (decide (a2.2.2.1<1)) (some true) (some (decide (a2.2.2.1>512)))).bind fun v10=>av v10 (some 251) ((av (decide (a2.2.2.2.1<0)) (some true) (av (decide (a2.2.2.2.1>16)) (some true) (av (decide (a2.2.2.2.2.1<0)) (some true) (some (decide (a2.2.2.2.2.1>8)))))).bind fun v11=>av v11 (some 252) (av ((af a2.1:Int)==0) (some 212) ((oX n (a0,a2.1)).bind fun E7=>av (!E7) (some 133) ((av (decide ((ae .i64 ((ae .i64 ((af a2.1:Int)+a2.2.2.1)) -1))>a0.1.2.1)) (some true) ((amr n a2).bind fun Me=>av Me (some (decide ((ae .i64 ((ae .i64 ((af a2.1:Int)+a2.2.2.1)) -1))>a1.1.2.1))) (some false))).bind fun Cq=>av Cq (some 212) (some 0))))))))):=by kernel_rfl
theorem azt(a0:D4×fy)(a1:xw)(a2:ar)(a3 a4:Int):ait n (k+1) (a0,a1,a2,a3,a4)=(oj n (a0,a1,a2,a3)).bind fun v1=>(av ((af v1.1:Int)==0) (some true) (some (decide (a4>4096)))).bind fun v2=>av v2 (some ([],a4)) ((oi n (a1,a2)).bind fun v3=>av v3 (some ([(a2,true,v1.1)],(ae .i64 (a4+1)))) (av (decide ((ae .i64 (a1.2.1.2.2.2.2.1*(ae .i64 ((af a2:Int)+1))))>(ae .i64 (8*a3)))) (some ([(a2,false,v1.1)],(ae .i64 (a4+1)))) ((amo n (ait n k) n (a2,a3,(ae .i64 (a4+1)),(),(),[],0,a0,a1,())).bind fun v4=>some (v4.2.1,v4.1)))):=by kernel_rfl
theorem as1(R:((D4×fy)×xw×ar×Int×Int)→Option ((List D86)×Int))(k:Nat)(s2:ar)(s3 s4:Int)(ZZ:List D86)(GX:Int)(o0:D4×fy)(o1:xw):amo n R (k+1) (s2,s3,s4,(),(),ZZ,GX,o0,o1,())=av (decide (GX<o0.1.1)) ((app 8 [] s2).bind fun v1=>(app 8 v1 [GX]).bind fun v2=>(R (o0,o1,v2,s3,s4)).bind fun v3=>(app 56 ZZ v3.1).bind fun v4=>amo n R k (s2,s3,v3.2,(),(),v4,(ae .i64 (GX+1)),o0,o1,())) (some (s4,ZZ,())):=by kernel_rfl
theorem aBi(a0:D4×fy)(a1:xw)(a2:Int):auD n (a0,a1,a2)=(av (decide (a2<0)) (some true) (some (decide (a2>8191)))).bind fun v1=>av v1 (some ([],260)) ((apM n a1).bind fun v2=>(asE n (a0,((0,0,0,0,0,0),([],[]),[],0,[],[],[],[],[],[],0),v2)).bind fun v3=>av (v3 !=0) (some ([],v3)) ((au5 n (a0,a1,[],a2,0)).bind fun v4=>av (decide (v4.2>4096)) (some ([],261)) (some (v4.1,0)))):=by kernel_rfl
theorem aAM(a0 a1:ar):aox n (a0,a1)=(ap6 n n (a0,a1,0,())).bind fun v1=>cI v1 (fun v2=>some v2.1) (fun _=>some false):=by kernel_rfl
theorem avd(s0 s1:ar)(s5:Int):ap6 n (k+1) (s0,s1,s5,())=(av (decide (s5<(af s0:Int))) (some (decide (s5<(af s1:Int)))) (some false)).bind fun v1=>av v1 ((idx s0 s5).bind fun v2=>(idx s1 s5).bind fun v3=>av (v2 !=v3) ((idx s0 s5).bind fun v4=>(idx s1 s5).bind fun v5=>some (.inl ((decide (v4<v5)),()))) (ap6 n k (s0,s1,(ae .i64 (s5+1)),()))) (some (.inr ())):=by kernel_rfl
theorem aAN(a0:D4×fy)(a1:xw)(a2:Int):asF n (a0,a1,a2)=(amq n (a0,a1,a2)).bind fun v1=>av (v1.2 !=0) (some (([],()),v1.2)) ((ap7 n n ((),(),v1.1,(af v1.1:Int),0,([],()),([],()),())).bind fun v2=>some (v2.2.2.2.1,0)):=by kernel_rfl
theorem avj(XF:List D83)(s26 s27:Int)(akM:ar)(ZJ:rY):ap7 n (k+1) ((),(),XF,s26,s27,(akM,()),ZJ,())=av (decide (s27<s26)) ((idx XF s27).bind fun v1=>(av (!v1.2.1) ((wo n (ZJ,v1.2.2)).bind fun v3=>some ((),(),XF,s26,s27,(akM,()),v3.1,())) (some ((),(),XF,s26,s27,(akM,()),ZJ,()))).bind fun v2=>ap7 n k ((),(),v2.2.2.1,v2.2.2.2.1,(ae .i64 (v2.2.2.2.2.1+1)),v2.2.2.2.2.2.1,v2.2.2.2.2.2.2.1,())) (some ((),(),(akM,()),ZJ,())):=by kernel_rfl
theorem ayO(a0:D4×fy)(a1:xw)(a2:Int):ahJ n (a0,a1,a2)=(gE n ()).bind fun v1=>av (!v1) (some false) ((amq n (a0,a1,a2)).bind fun v2=>av (v2.2 !=0) ((oW n a0).bind fun v3=>(rC n a1).bind fun v4=>(auD n (v3,v4,a2)).bind fun v5=>(av (v2.2==v5.2) (some ((af v2.1:Int)==0)) (some false)).bind fun v6=>some v6) ((ajQ n n (a2,(),(),v2.1,(),(),v2.1,(af v2.1:Int),0,a0,a1,([],()),([],()),())).bind fun v7=>cI v7 (fun v8=>some v8.1) (fun v9=>(amU n 1).bind fun v10=>(sX n (v10.1,(ae .i64 (8*v9.1)))).bind fun v11=>(av (v10.2 !=0) (some true) (av (v11.2 !=0) (some true) ((oB n (v9.2.2.2.2.2.2.1,v11.1)).bind fun Cq=>some (Cq !=0)))).bind fun E7=>av E7 (some false) ((asF n (v9.2.2.2.2.1,v9.2.2.2.2.2.1,v9.1)).bind fun Me=>(av (Me.2==0) (av (decide ((ae .i64 (8*v9.1))<(ae .i64 (v9.2.2.2.2.2.1.2.1.2.2.2.2.1*v9.2.2.2.2.2.1.2.2.1)))) (some true) ((iX n Me.1).bind fun v16=>some (v16==0))) (some false)).bind fun ZA=>some ZA)))):=by kernel_rfl
theorem arl(s2:Int)(s7 s51:List D83)(s52 s53:Int)(o0:D4×fy)(o1:xw)(o18:rY)(aEq:ar):ajQ n (k+1) (s2,(),(),s7,(),(),s51,s52,s53,o0,o1,o18,(aEq,()),())=av (decide (s53<s52)) ((idx s51 s53).bind fun v1=>(wo n (o18,v1.2.2)).bind fun v2=>(av (v2.2 !=0) (some true) ((oB n (v1.2.2,aEq,())).bind fun v4=>av (decide (v4≤0)) (some true) ((n4 n (o1,v1.1)).bind fun v5=>some (!(v1.2.1==v5))))).bind fun v3=>av v3 (some (.inl (false,()))) ((av (decide (s53>0)) ((idx s7 (ae .i64 (s53 -1))).bind fun v7=>(aox n (v7.1,v1.1)).bind fun v8=>some (!v8)) (some false)).bind fun v6=>av v6 (some (.inl (false,()))) (ajQ n k (s2,(),(),s7,(),(),s51,s52,(ae .i64 (s53+1)),o0,o1,v2.1,(aEq,()),())))) (some (.inr (s2,(),(),(),o0,o1,o18,()))):=by kernel_rfl
end
section
variable (n k:Nat)
theorem XN:aq prog 46 (KR n):=aL (X:=KQ n) c0 func46
end
section
variable (n k:Nat)
theorem Ox:aq prog 15 (DP n):=aL (X:=Oh n) (cc (XN n) c0) func15
theorem aje:aq prog 47 (Sa n):=aL (X:=ze n) c0 func47
theorem S4:aq prog 21 (GS n):=aL (X:=Sc n) (cc (XN n) c0) func21
theorem ajg:aq prog 135 (Sd n):=aL (X:=GU n) c0 func135
theorem ak3:aq prog 95 (XE n):=aL (X:=XD n) (cc (ajg n) c0) func95
theorem am3:aq prog 52 (acN n):=aL (X:=acM n) (cc (adI n) (cc (XM n) (cc (ak3 n) c0))) func52
theorem Oy:aq prog 19 (DQ n):=aL (X:=Oi n) (cc (II n) (cc (Ox n) (cc (S4 n) (cc (am3 n) c0)))) func19
theorem adL:aq prog 55 (K4 n):=aL (X:=K0 n) c0 func55
theorem S5:aq prog 54 (Co n):=aL (X:=Cn n) c0 func54
theorem agc:aq prog 22 (Oj n):=aL (X:=DR n) (cc (adL n) (cc (S5 n) (cc (Fv n) (cc (Oo n) c0)))) func22
end
section
variable (n k:Nat)
theorem S6:aq prog 23 (Cp n):=aL (X:=tD n) c0 func23
theorem ayP:aq prog 28 (awI n):=aL (X:=aDa n) (cc (arn n) c0) func28
end
section
variable (n k:Nat)
theorem aDh:aq prog 100 (aA4 n):=aL (X:=aA3 n) c0 func100
theorem ayj:aq prog 143 (asa n):=aL (X:=ar6 n) c0 func143
theorem awH:aq prog 144 (aow n):=aL (X:=an6 n) c0 func144
theorem aCQ:aq prog 101 (azS n):=aL (X:=azQ n) (cc (ayj n) (cc (awH n) c0)) func101
theorem aCR:aq prog 62 (azU n):=aL (X:=azT n) (cc (aiF n) (cc (aDh n) (cc (aCQ n) (cc (SS n) (cc (DV n) (cc (afN n) c0)))))) func62
theorem aBS:aq prog 102 (ayD n):=aL (X:=au3 n) (cc (tW n) (cc (adL n) (cc (Fv n) c0))) func102
theorem as2(n:Nat):(k:Nat)→pS prog 63 ⟨[(.gp 3 0),(.data aT),(.data pT)],[(.data (.int .i64))],[(3,G2),(4,G3)],[],ae9 n k⟩
 |0=>akv func63 (by kernel_rfl) (by kernel_rfl) (by kernel_rfl)
 |k+1=>lV (X:=amt n (ae9 n k)) (fn:=f63) mixed ⟨yz,cc (Oq n) (cc (adB n) (cc (ayP n) (cc (aBS n) (cc (afV n) (c0))))),oc amV (o0),sc (as2 n k) (s0),vc aGz (v0)⟩ func63 (by kernel_rfl) (by kernel_rfl) (by kernel_rfl)
theorem ayZ:pS prog 63 (atP n):=as2 n n
end
section
variable (n k:Nat)
theorem aAb:aq prog 31 (aw4 n):=dH (X:=azV n) (fn:=f31) mixed ⟨yz,cc (aCR n) (cc (aiQ n) (cc (ayP n) (cc (aiS n) (c0)))),o0,sc (ayZ n) (s0),vc aGA (v0)⟩ func31 (by kernel_rfl) (by kernel_rfl) (by kernel_rfl)
theorem aBl:aq prog 65 (ayc n):=aL (X:=ax9 n) c0 func65
theorem aCS:aq prog 103 (azX n):=aL (X:=azW n) c0 func103
theorem aCt:aq prog 64 (azh n):=aL (X:=azg n) (cc (af3 n) (cc (aCS n) (cc (aje n) (cc (Ov n) (cc (DZ n) (cc (adC n) c0)))))) func64
theorem ayg(n:Nat):(k:Nat)→aq prog 66 ⟨[gW,zq,aT,(.int .i64),(.int .i64)],[Y87,(.int .i64)],ait n k⟩
 |0=>akx func66 (by kernel_rfl) (by kernel_rfl) (by kernel_rfl)
 |k+1=>aL (X:=au4 n (ait n k)) (cc (Oy n) (cc (Ox n) (cc (ayg n k) c0))) func66
theorem aBT:aq prog 66 (ayJ n):=ayg n n
theorem aCT:aq prog 32 (az0 n):=aL (X:=azZ n) (cc (aBl n) (cc (aCt n) (cc (aBT n) c0))) func32
theorem aCu:aq prog 33 (azj n):=aL (X:=awF n) c0 func33
theorem aCv:aq prog 34 (azk n):=aL (X:=awG n) (cc (aAb n) (cc (agc n) c0)) func34
theorem aAc:aq prog 7 (aeW n):=aL (X:=ark n) (cc (DX n) (cc (aAb n) (cc (PJ n) (cc (PK n) (cc (aCT n) (cc (agc n) (cc (S6 n) (cc (Oq n) (cc (aCu n) (cc (ayP n) (cc (aiS n) (cc (aCv n) (cc (tW n) c0))))))))))))) func7
end
end Go.Am
namespace Go.Am.Pu
open Go Go.Am
theorem apy{α:Type}{g g':Nat→α}{n:Nat}(h:∀i,i<n→g i=g' i):dL g n=dL g' n:=ft fun i a=>h i (List.mem_range.1 a)
theorem ij.take{B:Int}{l:List Int}(h:ij B l)(k:Nat):ij B (l.take k):=fun x i=>h x (cS i)
theorem OD{n:Nat}:∀(m k:Nat) (c v:Int),0≤v→v<2^m→v≤1000000→m<k→0≤c→c+m≤1000000000→∃b,tC n k (c,v,())=some (b,())
 |0,k,c,v,a,d,_,e,_,_=>by
  obtain⟨k,rfl⟩:=gU k;rw[CZ,ag,if_neg (by rw[bx];simp at d;omega)];exact⟨c,rfl⟩
 |m+1,k,c,v,a,d,i,e,g,h=>by
  obtain⟨k,rfl⟩:=gU k;rw[CZ,ag]
  split
  ·rw[zh (by omega) (by rw[bV a];omega) (by rw[bV a];omega),bV a];simp only[aa];rw[aN];rw[c9]at d;exact OD m k _ _ (by omega) (by omega) (by omega) (by omega) (by omega) (by omega)
  ·exact⟨c,rfl⟩
theorem arS{n:Nat}{x:List Int}(hx:ij 65536 x)(d:x.length≤10000000)(g:Hn0 n):∃b,zg n x=some b:=by
 rw[aax,ag]
 split
 ·exact⟨0,rfl⟩
 ·rename_i h;rw[beq_iff_eq]at h;have c:x.length -1<x.length:=by omega
  have a:=hx.at c;rw[aN (x:=(x.length:Int) -1),show(x.length:Int) -1=((x.length -1:Nat):Int)by omega,bj c];simp only[aa];obtain⟨b,e⟩:=OD (n:=n) 16 n (16*((x.length -1:Nat):Int)) x[x.length -1] a.1 (by simpa using a.2) (by omega) (by omega) (by omega) (by omega);rw[aN,e];exact⟨b,rfl⟩
theorem awq{n:Nat}{x:List Int}{N:Nat}(hx:Can 65536 x)(J:x.length≤10000)(I:N≤65536)(q:Hn0 n):
  ∃z f,GV n (x,(N:Int))=some (z,f)∧Can 65536 z∧vz 65536 z=vz 65536 x*2^N∧z.length≤x.length+N/16+4:=by
 rw[afF,ag]
 by_cases i:x=[]
 ·subst i;rw[if_pos (by rfl)];exact⟨[],true,rfl,Can.nil,by simp[vz],by simp⟩
 rw[if_neg (by rw[beq_iff_eq];have:=List.length_pos_iff.2 i;omega),bN0];have j:qt .i64 (N:Int) 16=some ((N/16:Nat):Int):=by rw[zh (by omega) (by rw[bV];omega) (by rw[bV];omega),bV];congr 1
 have k:rm (N:Int) 16=some ((N % 16:Nat):Int):=by rw[kT,pq];congr 1
 rw[j,k];simp only[aa];rw[fX (m:=N/16) rfl (by omega) (by omega)];simp only[aa];have K:=rn (s:=N % 16) (by omega);have o:qc .i64 1 (ae .u64 ((N % 16:Nat):Int))=some (2^(N % 16)):=by
  rw[Eb];unfold qc;rw[gk,ax,show min (N % 16) (b9 .i64)=N % 16 by show min (N % 16) 64=_;omega,Int.one_mul,aN]
 rw[o];simp only[aa];obtain⟨y,B,D,t,L⟩:=arN (n:=n) (by omega) (v:=2^(N % 16)) (by omega) (by omega);rw[B];simp only[aa];obtain⟨z,E,F,p,M⟩:=aoN (n:=n) hx.1 D.1 (by omega) q;rw[E];simp only[aa];rw[dU (by rw[aU];omega) (by omega)];simp only[aa];have e:=alJ (by omega) hx i;have g:z≠[]:=by
  intro h;rw[h,t]at p;have:(0:Int)=vz 65536 x*2^(N % 16):=p;have:=Int.mul_pos e (show(0:Int)<2^(N % 16)by omega);omega
 have a:Can 65536 (ao (N/16) 0++z):=Can.app (ij.rep (by omega) _) F g;obtain⟨b,c⟩:=arS (n:=n) a.1 (by rw[ah,aU];omega) q;have d:∃r,Cm n (ao (N/16) 0++z)=some r:=by
  rw[adq,c];simp only[aa];rw[ag]
  split
  ·exact⟨_,rfl⟩
  ·exact⟨_,rfl⟩
 obtain⟨H,l⟩:=d;rw[l];refine⟨_,_,rfl,a,?_,by rw[ah,aU];omega⟩;rw[Ea,ajy,aU,p,t];have u:(65536:Int)^(N/16)=2^(16*(N/16)):=by rw[Int.pow_mul];rfl
 have w:(2:Int)^N=2^(16*(N/16))*2^(N % 16):=by rw[←abe];congr 1;omega
 rw[u,w]
 grind
theorem alP{n:Nat}{x:List Int}{i:Nat}:pf n ((x,()),(i:Int))=some (x.getD i 0):=by
 rw[SN,ag]
 by_cases h:i<x.length
 ·rw[if_pos (by rw[bx];show(i:Int)<(x.length:Int);omega)];show(idx x (i:Int)).bind _=_;rw[bj h,aa,aB,ai h];rfl
 ·rw[if_neg (by rw[bx];show ¬ (i:Int)<(x.length:Int);omega),aB,bd (by omega)];rfl
theorem anJ{n:Nat}{a b c:Int}(d:0≤a∧a<4294967296)(e:0≤b∧b<4294967296)(g:0≤c∧c≤1):oA n (a,b,c)=some ((a+b+c) % 4294967296,(a+b+c)/4294967296):=by
 rw[Lc,Eb (x:=a),Eb (x:=b),Eb (x:=c),Eb (x:=a+b),Eb (x:=a+b+c),aoK,aa,alH,anF]
structure arT (x y out:List Int) (c:Int) (i:Nat):Prop where
 dig:ij 4294967296 out
 cr:0≤c∧c≤1
 v:vz 4294967296 (out.take i)+4294967296^i*c=vz 4294967296 (x.take i)+vz 4294967296 (y.take i)
theorem aeg{B:Int}{l:List Int}{i:Nat}:vz B (l.take (i+1))=vz B (l.take i)+B^i*l.getD i 0:=by
 by_cases h:i<l.length
 ·rw[Mp h,aB,ai h];rfl
 ·rw[aB,bd (by omega),aR (by omega),aR (by omega)];simp
theorem ij.getD{B:Int}(j:0<B){l:List Int}(h:ij B l)(i:Nat):0≤l.getD i 0∧l.getD i 0<B:=by
 rw[aB]
 by_cases c:i<l.length
 ·rw[ai c];exact h.at c
 ·rw[bd (by omega)];exact⟨Int.le_refl _,j⟩
theorem arT.step{x y out:List Int}{c:Int}{i:Nat}(h:arT x y out c i)(hx:ij 4294967296 x)(J:ij 4294967296 y)(hi:i<out.length):
  arT x y (out.set i ((x.getD i 0+y.getD i 0+c) % 4294967296)) ((x.getD i 0+y.getD i 0+c)/4294967296) (i+1):=by
 obtain⟨E,K,L⟩:=h;have a:=hx.getD (by decide) i;have b:=J.getD (by decide) i;obtain⟨p,j⟩:∃p,p=x.getD i 0:=⟨_,rfl⟩;obtain⟨q,D⟩:∃q,q=y.getD i 0:=⟨_,rfl⟩;rw[←j]at a ⊢;rw[←D]at b ⊢;refine⟨E.set (by omega) (by omega),by omega,?_⟩;have e:(out.set i ((p+q+c) % 4294967296)).getD i 0=(p+q+c) % 4294967296:=by
  rw[aB,fl hi];rfl
 rw[aeg,aeg (l:=x),aeg (l:=y),e,List.take_set,List.set_eq_of_length_le (by rw[aC];omega),←j,←D,c9];have d:(p+q+c) % 4294967296+4294967296*((p+q+c)/4294967296)=p+q+c:=aeX _ _;obtain⟨u,H⟩:∃u,u=(p+q+c) % 4294967296:=⟨_,rfl⟩;obtain⟨w,I⟩:∃w,w=(p+q+c)/4294967296:=⟨_,rfl⟩;rw[←H,←I]at d ⊢;generalize(4294967296:Int)^i=P at*;have:P*4294967296*w=P*(4294967296*w):=by rw[ae8]
 rw[this,show(4294967296:Int)*w=p+q+c -u by omega,Int.mul_sub,Int.mul_add,Int.mul_add];omega
theorem Tz{n:Nat}{x y o2:List Int}(hx:ij 4294967296 x)(g:ij 4294967296 y){N:Nat}(o:N≤1000000000):∀(m k i:Nat) (c:Int) (out:List Int),i+m=N→m<k→out.length=N→arT x y out c i→
  ∃h a,rl n k ((),(),(),(),c,(N:Int),(i:Int),(x,()),(y,()),(o2,()),out,())=some ((),(),(o2,()),a,())∧a.length=N∧arT x y a h N
 |0,k,i,c,out,j,l,d,b=>by
  obtain⟨k,rfl⟩:=gU k;rw[Bc,bN0];have:i=N:=by omega
  subst this;exact⟨c,out,rfl,d,b⟩
 |m+1,k,i,c,out,j,l,d,b=>by
  obtain⟨k,rfl⟩:=gU k;have e:i<out.length:=by omega
  rw[Bc,bP0,alP,aa,alP,aa,anJ (hx.getD (by decide) i) (g.getD (by decide) i) b.cr,aa,dO e,aa,ai e,aa,aN,show(i:Int)+1=((i+1:Nat):Int)by omega];exact Tz hx g o m k (i+1) _ _ (by omega) (by omega) (by rw[aO];exact d) (b.step hx g e)
theorem Ww{B:Int}(c:0<B){a b:Nat}(h:a≤b):B^a≤B^b:=by
 obtain⟨d,rfl⟩:∃d,b=a+d:=⟨b -a,by omega⟩;have e:=xj c a;have g:=xj c d;rw[abe];have:=ci (show(1:Int)≤B^d by omega) (show 0≤B^a by omega);omega
theorem anK{P Q R a b c:Int}(d:0<P)(j:a<P)(k:b<P)(i:R=4294967296*P)(h:Q+R*c=a+b)(g:0≤Q)(l:0≤c∧c≤1):c=0:=by
 by_cases e:c=0
 ·exact e
 ·have:c=1:=by omega
  subst this;omega
theorem at7{n:Nat}{x y:List Int}(hx:Can 4294967296 x)(e:Can 4294967296 y)(q:x.length≤1000000)(j:y.length≤1000000)(r:Hn0 n)(d:ahn (vz 4294967296 x+vz 4294967296 y)):
  ∃z,wo n ((x,()),(y,()))=some ((z,()),0)∧Can 4294967296 z∧vz 4294967296 z=vz 4294967296 x+vz 4294967296 y:=by
 obtain⟨M,p⟩:∃M:Nat,M=max x.length y.length:=⟨_,rfl⟩;have b:imax (x.length:Int) (y.length:Int)=(M:Int):=by
  unfold imax
  split<;>omega
 have i:M≤1000000:=by omega
 rw[We,b,aN,fX (m:=M+1) (by omega) (by omega) (by omega),aa,aU];obtain⟨l,a,c,o,g⟩:=Tz (n:=n) (x:=x) (y:=y) (o2:=[]) hx.1 e.1 (N:=M+1) (by omega) (M+1) n 0 0 (ao (M+1) 0) (by omega) (by omega) aU ⟨ij.rep (by decide) _,by omega,by simp[vz]⟩;rw[show((0:Nat):Int)=0 from rfl]at c;rw[c,aa];obtain⟨d1,d2,d3⟩:=g;rw[aR (by omega),aR (by omega),aR (by omega)]at d3;have g1:vz 4294967296 x<4294967296^M:=Int.lt_of_lt_of_le (XU (by decide) hx.1) (Ww (by decide) (by omega));have h:vz 4294967296 y<4294967296^M:=Int.lt_of_lt_of_le (XU (by decide) e.1) (Ww (by decide) (by omega));have k:=anK (xj (by decide) M) g1 h (by rw[c9,aa5]) d3 (vj (by decide) d1) d2;subst k;rw[Int.mul_zero,Int.add_zero]at d3;show ∃z,(pB n a).bind _=_∧_;rw[Tr (by omega) (by omega),aa,XV (qE d1) (by have:=xl a;omega),wy,d3,if_pos (by unfold ahn at d;exact d),aa];exact⟨xk a,rfl,qE d1,by rw[wy,d3]⟩
theorem arU{B:Int}(a:0<B){x y:List Int}{j:Nat}(hx:ij B x)(h:ij B y)(d:j<x.length)(e:j<y.length)(g:x.drop (j+1)=y.drop (j+1))(k:x[j]<y[j]):vz B x<vz B y:=by
 have b:vz B x=vz B (x.take j)+B^j*(x[j]+B*vz B (x.drop (j+1))):=by
  rw[←ajA d];have:=Ea (B:=B) (x.take j) (x.drop j);rw[bM,aC,Nat.min_eq_left (by omega)]at this;exact this
 have c:vz B y=vz B (y.take j)+B^j*(y[j]+B*vz B (y.drop (j+1))):=by
  rw[←ajA e];have:=Ea (B:=B) (y.take j) (y.drop j);rw[bM,aC,Nat.min_eq_left (by omega)]at this;exact this
 have t1:=XU a (hx.take j);rw[aC,Nat.min_eq_left (by omega)]at t1;have t2:=vj a (h.take j);have i:=xj a j;rw[b,c,g];have:=ci (show x[j]+B*vz B (y.drop (j+1))+1≤y[j]+B*vz B (y.drop (j+1))by omega) (show 0≤B^j by omega);rw[Int.mul_add (B^j) _ 1,Int.mul_one]at this;omega
theorem arV{B:Int}(g:1<B){x y:List Int}(hx:Can B x)(a:Can B y)(h:x.length<y.length):vz B x<vz B y:=by
 have b:=XU (by omega) hx.1;have c:=arH (by omega) a (by intro e;subst e;simp at h);have d:B^x.length≤B^(y.length -1):=Ww (by omega) (by omega);omega
theorem FH{n:Nat}{x y:List Int}(hx:ij 4294967296 x)(g:ij 4294967296 y)(o:x.length=y.length)(l:x.length≤1000000000):∀(j k:Nat),j≤x.length→j<k→x.drop j=y.drop j→
  (∃c,gT n k ((),(),(j:Int) -1,(x,()),(y,()),())=some (.inl (c,()))∧(c= -1∧vz 4294967296 x<vz 4294967296 y∨c=1∧vz 4294967296 y<vz 4294967296 x))∨
  (gT n k ((),(),(j:Int) -1,(x,()),(y,()),())=some (.inr ())∧x=y)
 |0,k,h,i,b=>by
  obtain⟨k,rfl⟩:=gU k;right;rw[tU,ag,if_neg (by simp)];exact⟨rfl,by simpa using b⟩
 |j+1,k,h,i,b=>by
  obtain⟨k,rfl⟩:=gU k;have e:j<x.length:=by omega
  have a:j<y.length:=by omega
  rw[show((j+1:Nat):Int) -1=(j:Int)by omega,tU,bP0];show(∃c,(idx x (j:Int)).bind _=_∧_)∨((idx x (j:Int)).bind _=_∧_);rw[bj e,aa];show(∃c,(idx y (j:Int)).bind _=_∧_)∨((idx y (j:Int)).bind _=_∧_);rw[bj a,aa,ag]
  by_cases c:x[j]<y[j]
  ·left;rw[if_pos (by rw[bx];exact c)];exact⟨-1,rfl,.inl ⟨rfl,arU (by decide) hx g e a b c⟩⟩
  ·rw[if_neg (by rw[bx];exact c)];simp only[aa];rw[ag]
   by_cases d:x[j]>y[j]
   ·left;rw[if_pos (by rw[bx];exact d)];exact⟨1,rfl,.inr ⟨rfl,arU (by decide) g hx a e b.symm d⟩⟩
   ·rw[if_neg (by rw[bx];exact d),aN];refine FH hx g o l j k (by omega) (by omega) ?_;rw[bi e,bi a,b,show x[j]=y[j]by omega]
theorem alQ{n:Nat}{x y:List Int}(hx:Can 4294967296 x)(d:Can 4294967296 y)(i:x.length≤1000000000)(j:Hn0 n):
  ∃c,oB n ((x,()),(y,()))=some c∧(c= -1∧vz 4294967296 x<vz 4294967296 y∨c=0∧vz 4294967296 x=vz 4294967296 y∨c=1∧vz 4294967296 y<vz 4294967296 x):=by
 rw[Ld,ag]
 by_cases e:x.length<y.length
 ·rw[if_pos (by rw[bx];show(x.length:Int)<(y.length:Int);omega)];exact⟨-1,rfl,.inl ⟨rfl,arV (by decide) hx d e⟩⟩
 ·rw[if_neg (by rw[bx];show ¬ (x.length:Int)<(y.length:Int);omega),ag]
  by_cases g:y.length<x.length
  ·rw[if_pos (by rw[bx];show(x.length:Int)>(y.length:Int);omega)];exact⟨1,rfl,.inr (.inr ⟨rfl,arV (by decide) d hx g⟩)⟩
  ·rw[if_neg (by rw[bx];show ¬ (x.length:Int)>(y.length:Int);omega)];show ∃c,(gT n n ((),(),ae .i64 ((x.length:Int) -1),(x,()),(y,()),())).bind _=_∧_;rw[aN];rcases FH (n:=n) hx.1 d.1 (by omega) i x.length n (az _) (by omega) (by rw[List.drop_length,show x.length=y.length by omega,List.drop_length])with⟨c,a,b⟩|⟨a,b⟩
   ·rw[a,aa];refine⟨c,rfl,?_⟩;rcases b with h |h
    ·exact .inl h
    ·exact .inr (.inr h)
   ·rw[a,aa];exact⟨0,rfl,.inr (.inl ⟨rfl,by rw[b]⟩)⟩
def MP(r:Rq)(l:List Int):Bool:=decide (TT l<0∧(l.length:Int)<r.2.2.1)
theorem an7{n:Nat}{r:Rq}{l:List Int}(a:l.length≤1000000000)(b:Hn0 n):yS n (r,l)=some (MP r l):=by
 rw[Z4,qA,TU a b,aa,aa,fw,aa];unfold MP;congr 1;rw[Bool.eq_iff_iff,ak,aZ,decide_eq_false_iff_not,bx,bx];omega
theorem aeJ{n:Nat}{r:Rq}{l:List Int}(a:l.length≤1000000000)(b:Hn0 n):tB n (r,l)=some (MP r l):=by
 rw[aaw,ahG a b,aa,fw,aa];unfold MP;congr 1;rw[Bool.eq_iff_iff,ak,bx,bx,bx]
noncomputable def tpI(n:Nat)(m:Mod)(r:Rq)(said:List Int)(y:Int):Int:=
 if r.2.1.2.2.2.2.1*said.length≤8*y∧(agm r said||MP r said)=true then kr (Ho n m r said)*2^(8*y -r.2.1.2.2.2.2.1*said.length).toNat else 0
theorem ase{n:Nat}{m:Mod}{r:Rq}{said:List Int}{y:Int}(hm:MO m)(M:OkR r)(X:said.length≤1048576)(b:Hn0 n):
  (¬ (0≤y∧y≤8191∧uF m r said)∧∃e,e≠0∧gD n (m,r,said,y)=some (([],()),e)∧oj n (m,r,said,y)=some ([],e))∨
  ((0≤y∧y≤8191∧uF m r said)∧∃z E,gD n (m,r,said,y)=some ((z,()),0)∧oj n (m,r,said,y)=some (E,0)∧Can 4294967296 z∧Can 65536 E∧
   vz 4294967296 z=tpI n m r said y∧vz 65536 E=tpI n m r said y∧z.length≤100000∧E.length≤100000):=by
 rw[Fi,Wd,eC,aa,aa,ag,ag]
 by_cases c:0≤y∧y≤8191
 ·rw[if_neg (by rw[aD,bx,bx];omega),if_neg (by rw[aD,bx,bx];omega)];rcases prods (n:=n) hm M X b with⟨O,e,l,I,F⟩|⟨H,z,E,l,I,F,Q,J,R,h8⟩
  ·left;refine⟨fun h=>O h.2.2,e,l,?_,?_⟩
   ·rw[I,aa];show av (e !=0) _ _=_;rw[show(e !=0)=true by simpa using l,ii]
   ·rw[F,aa];show av (e !=0) _ _=_;rw[show(e !=0)=true by simpa using l,ii]
  ·right;refine⟨⟨c.1,c.2,H⟩,?_⟩;have hl:=H.len;have a:=H.w.p.bits;obtain⟨B,S⟩:∃B,B=r.2.1.2.2.2.2.1:=⟨_,rfl⟩;have j:=aeL hm M H b;unfold tpI;rw[l,I,aa,aa];show ∃y1 y2,av ((0:Int)!=0) _ _=_∧av ((0:Int)!=0) _ _=_∧_;rw[show((0:Int)!=0)=false from rfl,bU,bU];rw[←S]at a j ⊢;have W:=LQ a;rw[aeK a c.1 c.2,aa,LP (by omega) b,Yf (by omega) b,an7 (by omega) b,aeJ (by omega) b];simp only[aa];obtain⟨P,q⟩:∃P,P=B*(said.length:Int):=⟨_,rfl⟩;have U:0≤P:=by rw[q];exact cp (by omega) (by omega)
   have V:P≤32*512:=by rw[q];exact dA (by omega) (by omega) (by omega) (by omega)
   have K:B.toNat*said.length=P.toNat:=by
    have:((B.toNat*said.length:Nat):Int)=P:=by rw[q,Int.natCast_mul,Int.toNat_of_nonneg (by omega)]
    omega
   have D:(said.length:Int)>8*y/B↔8*y<P:=by
    rw[q,aa5 B];exact Int.ediv_lt_iff_lt_mul (show 0<B by omega)
   rw[K]at j;rw[←q,aN (x:=8*y),aN (x:=P),aN (x:=8*y -P)];have i:∀f o:Bool,av (!f) (some (!o)) (some false)=some (!(f||o)):=by decide
   rw[i];rw[eC,eC,aa,aa];have t:decide ((said.length:Int)>8*y/B)=decide (P>8*y):=decide_eq_decide.2 D;rw[t]
   by_cases d:P≤8*y∧(agm r said||MP r said)=true
   ·rw[if_pos d];have g:(decide (P>8*y)|| !(agm r said||MP r said))=false:=by
     rw[d.2,decide_eq_false (by omega)];rfl
    rw[g,bU,bU];obtain⟨N,T⟩:∃N:Nat,8*y -P=(N:Int):=⟨(8*y -P).toNat,by omega⟩;rw[T,ax];have L:=Tt j.2;rw[←J]at L;have Y:=xm F (k:=P.toNat+1) (by rw[J,c9];have:(0:Int)<2^P.toNat:=ed (by decide);omega);obtain⟨u,Z,u2,u3,u4⟩:=arR (n:=n) (N:=N) F (by omega) b (.inr (by omega));obtain⟨v,f,v1,v2,v3,v4⟩:=awq (n:=n) (N:=N) Q (by omega) (by omega) b;rw[Z,v1];refine⟨u,v,rfl,rfl,u2,v2,by rw[u3,J],by rw[v3,R],by omega,by omega⟩
   ·rw[if_neg d];have g:(decide (P>8*y)|| !(agm r said||MP r said))=true:=by
     rw[aD,bx,aZ]
     by_cases d1:P≤8*y
     ·right;rw[←ew];exact fun h=>d ⟨d1,h⟩
     ·left;omega
    rw[g,ii,ii];exact⟨[],[],rfl,rfl,Can.nil,Can.nil,rfl,rfl,by simp,by simp⟩
 ·left;refine⟨fun h=>c ⟨h.1,h.2.1⟩,260,by decide,?_,?_⟩
  ·rw[if_pos (by rw[aD,bx,bx];omega)]
  ·rw[if_pos (by rw[aD,bx,bx];omega)]
theorem aDE{B:Int}(a:0<B){x:List Int}(hx:ij B x){j:Nat}(h:j≤x.length):vz B x/B^j=vz B (x.drop j):=by
 have:=Ea (B:=B) (x.take j) (x.drop j);rw[bM,aC,Nat.min_eq_left h]at this;have t1:=XU a (hx.take j);rw[aC,Nat.min_eq_left h]at t1;have t2:=vj a (hx.take j);rw[this,Int.add_mul_ediv_left _ _ (by have:=xj a j;omega),ae7 t2 t1,Int.zero_add]
theorem WF{α:Type}{a b:List α}{i:Nat}{d:α}(h:i<a.length):(a++b).getD i d=a.getD i d:=by
 rw[aB,aB,aP h]
theorem WG{α:Type}{a:List α}{x d:α}:(a++[x]).getD a.length d=x:=by
 rw[aB,bc (az _),Nat.sub_self];rfl
theorem ap3{n:Nat}{m:Mod}{r:Rq}{said:List Int}{t:Int}:Ho n m r (said++[t])=Ho n m r said++[(wI n m r said).getD t.toNat 0]:=by
 unfold Ho;rw[ah,bZ,mH];have h:dL (TS n m r (said++[t])) said.length=dL (TS n m r said) said.length:=apy fun i b=>by
  unfold TS;rw[List.take_append_of_le_length (by omega),WF b]
 have a:TS n m r (said++[t]) said.length=(wI n m r said).getD t.toNat 0:=by
  unfold TS;rw[List.take_left,WG]
 rw[h,a]
theorem uF.full{m:Mod}{r:Rq}{said:List Int}(h:uF m r said)(i:((r.1.length+said.length:Nat):Int)≤m.1.2.1):IW m r said:=
 ⟨h.w.v,h.w.p,h.w.g,h.w.pr,i,Bu.2 ⟨(Bu.1 h.w.t).1,h.t⟩⟩
theorem ass{l:List Int}(h:TT l<0):∀i,i<l.length→l.getD i 0≠0:=by
 unfold TT at h
 split at h
 ·omega
 ·rename_i e;rw[List.findIdx?_eq_none_iff]at e;intro i a;have:=e _ (am a);rw[aB,ai a];simpa using this
theorem ap4{r:Rq}{said:List Int}{t:Int}(b:MP r said=true)(g:1≤r.2.2.1):(agm r (said++[t])||MP r (said++[t]))=true:=by
 unfold MP at b;rw[bx]at b;have e:=ass b.1;rw[aD];unfold agm MP;rw[bx,bx,ah,bZ]
 by_cases c:t=0
 ·have:TT (said++[t])=(said.length:Int):=WD (by simp) (by rw[WG,c]) (fun i a=>by rw[WF a];exact e i a);rw[this];omega
 ·have:TT (said++[t])= -1:=WC fun i a=>by
   rw[ah,bZ]at a
   by_cases d:i<said.length
   ·rw[WF d];exact e i d
   ·rw[show i=said.length by omega,WG];exact c
  rw[this];omega
theorem aob{B:Int}{k:Nat}:B*((k+1:Nat):Int)=B*(k:Int)+B:=by rw[Int.natCast_add,Int.mul_add];simp
theorem ast{n:Nat}{m:Mod}{r:Rq}{said:List Int}{t y:Int}(c:MP r said=true)(a:1≤r.2.2.1)(b:r.2.1.2.2.2.2.1*((said.length+1:Nat):Int)≤8*y):
  tpI n m r (said++[t]) y=kr (Ho n m r said)*2^(8*y -r.2.1.2.2.2.2.1*((said.length+1:Nat):Int)).toNat*(wI n m r said).getD t.toNat 0:=by
 unfold tpI;rw[ah,bZ,if_pos ⟨b,ap4 c a⟩,ap3,Wv,Int.mul_right_comm];simp[kr]
theorem asu{n:Nat}{m:Mod}{r:Rq}{said:List Int}{y:Int}(b:MP r said=true)(c:0≤r.2.1.2.2.2.2.1)(a:r.2.1.2.2.2.2.1*((said.length+1:Nat):Int)≤8*y):
  tpI n m r said y=kr (Ho n m r said)*2^(8*y -r.2.1.2.2.2.2.1*((said.length+1:Nat):Int)).toNat*2^r.2.1.2.2.2.2.1.toNat:=by
 unfold tpI;rw[aob]at a ⊢;rw[b,Bool.or_true,if_pos ⟨by omega,rfl⟩,ae8,←abe];congr 2;omega
theorem ahI:∀(l:List Int) (i:Nat),(l.take (i+1)).sum=(l.take i).sum+l.getD i 0
 |[],i=>by simp
 |a::l,0=>by simp
 |a::l,i+1=>by
  rw[List.take_succ_cons,List.take_succ_cons,cO,cO,ahI l i,List.getD_cons_succ];omega
theorem aoc:∀{l:List Int},(∀x∈l,0≤x)→0≤l.sum
 |[],_=>by simp
 |a::l,h=>by
  have c:=h a aH;have d:=aoc (l:=l) fun x b=>h x (aG _ b);rw[cO];omega
theorem asv{v:Int}{k:Nat}(h:v≤2^k)(a:k≤65528):ahn v:=by
 have:=Tt h;unfold ahn;omega
theorem ap5{p S:Int}{a b e k:Nat}(g:0≤p)(h:p≤2^a)(c:0≤S∧S≤2^e)(i:a+b+e=k):0≤p*2^b*S∧p*2^b*S≤2^k:=by
 have d:(0:Int)≤2^b:=acP (ed (by decide));have j:0≤p*2^b:=cp g d;refine⟨cp j c.1,?_⟩;rw[←i,abe,abe];exact dA (bP h d) c.2 c.1 (cp (Int.le_trans g h) d)
theorem aeM{n:Nat}{m:Mod}{r:Rq}{said:List Int}{y S:Int}(hm:MO m)(i:OkR r)(h:Hn0 n)(g:uF m r said)(k:0≤y∧y≤8191)
  (d:r.2.1.2.2.2.2.1*((said.length+1:Nat):Int)≤8*y) (c:0≤S∧S≤2^r.2.1.2.2.2.2.1.toNat):
  kr (Ho n m r said)*2^(8*y -r.2.1.2.2.2.2.1*((said.length+1:Nat):Int)).toNat*S≤2^(8*y).toNat:=by
 have j:=LQ g.w.p.bits;have a:=aeL hm i g h;obtain⟨B,b⟩:∃B:Nat,r.2.1.2.2.2.2.1=(B:Int):=⟨r.2.1.2.2.2.2.1.toNat,by omega⟩;rw[b,ax]at a c;rw[b]at d ⊢;have e:(B:Int)*((said.length+1:Nat):Int)=((B*said.length+B:Nat):Int):=by rw[←Int.natCast_mul,Nat.mul_add,Nat.mul_one]
 rw[e]at d ⊢;exact(ap5 a.1 a.2 c (by omega)).2
theorem aFj{n:Nat}(e:Hn0 n):∃o,amU n 1=some ((o,()),0)∧Can 4294967296 o∧vz 4294967296 o=1∧o.length≤2:=by
 obtain⟨o,a,b,c,d⟩:=arK (n:=n) (by omega) (v:=1) (by decide) (by decide);refine⟨o,?_,b,c,d⟩;rw[aA6,ag,if_neg (by decide),Eb (by decide) (by decide),a,aa]
theorem aBG{n:Nat}{N:Nat}(j:N≤65528)(b:Hn0 n):∃o z,amU n 1=some ((o,()),0)∧sX n ((o,()),(N:Int))=some ((z,()),0)∧Can 4294967296 z∧vz 4294967296 z=2^N∧z≠[]∧z.length≤100000:=by
 obtain⟨o,d,e,c,k⟩:=aFj (n:=n) b;obtain⟨z,g,i,a,l⟩:=arR (n:=n) (N:=N) e (by omega) b (.inr (by rw[c];have:jA 1≤1:=Hk (by decide);omega));rw[c,Int.one_mul]at a;refine⟨o,z,d,g,i,a,?_,by omega⟩;intro h;have:(0:Int)<2^N:=ed (by decide);rw[h]at a;rw[←a]at this;exact absurd this (by simp[vz])
def rqP(r:Rq):Rq:=(r.1,r.2.1,r.2.2.1,0,r.2.2.2.2.1,r.2.2.2.2.2.1,[])
theorem aCz{n:Nat}{r:Rq}:apM n r=some (rqP r):=by rw[azs];rfl
theorem aIk{r:Rq}(h:OkR r):OkR (rq0 r):=⟨h.p,h.b,h.g1,h.g2⟩
theorem wI0{n:Nat}{m:Mod}{r:Rq}{said:List Int}:wI n m (rq0 r) said=wI n m r said:=by
 unfold wI;rw[PE,PE,aaq,aaq];rfl
structure ayh (m:Mod) (r:Rq):Prop where
 v:LD m
 p:aek r.2.1 m.1.1
 g:aaK (gdR r)
 b:1≤r.2.2.1∧r.2.2.1≤512
 gr:0≤r.2.2.2.2.1∧r.2.2.2.2.1≤8
 pr:r.1≠[]
 t:WB m r.1
 c:(r.1.length:Int)+r.2.2.1 -1≤m.1.2.1
theorem aGR{n:Nat}{r:Rq}:aqr n (rq0 r)=some false∧amr n (rqP r)=some false:=by
 rw[aBR,aBh];exact⟨rfl,rfl⟩
theorem aF0{n:Nat}{m d:Mod}{r:Rq}(hm:MO m)(y:OkR r)(i:Hn0 n):
  ∃e,aq8 n (m,d,rq0 r)=some e∧asE n (m,d,rqP r)=some e∧(ayh m r∧e=0∨¬ ayh m r∧e≠0):=by
 have X:=y.p;obtain⟨b1,T,Z⟩:=anM hm.o i;obtain⟨b2,U,P,-⟩:=X2 hm.o i;obtain⟨us,ur⟩:=aGR (n:=n) (r:=r);rw[aBf,aAK,T,U,us,ur];simp only[aa];rcases ny Z with⟨z,rfl⟩|⟨z,rfl⟩
 case inr=>
  rcases ny P with⟨k,rfl⟩|⟨-,rfl⟩
  ·exact absurd k z
  ·exact⟨210,rfl,rfl,.inr ⟨fun h=>z h.v,by decide⟩⟩
 rcases ny P with⟨-,rfl⟩|⟨k,rfl⟩
 case inr=>exact absurd z k
 simp only[aY,bU,aa];obtain⟨q1,f1,j1⟩:=ael (n:=n) (p:=r.2.1) (t:=m.1.1) y.b i;obtain⟨q2,f2,Q⟩:=X5 (n:=n) (p:=r.2.1) (t:=m.1.1) y.b i;have E:sx n ((rq0 r).2.1,m.1.1)=some q1:=f1;have F:qq n ((rqP r).2.1,m.1.1)=some q2:=f2;rw[E,F];simp only[aa];rcases j1 with⟨w,rfl⟩|⟨w,rfl⟩
 case inr=>
  rcases Q with⟨j,rfl⟩|⟨-,rfl⟩
  ·exact absurd j w
  ·exact⟨220,rfl,rfl,.inr ⟨fun h=>w h.p,by decide⟩⟩
 rcases Q with⟨-,rfl⟩|⟨j,rfl⟩
 case inr=>exact absurd w j
 rw[show((0:Int)!=0)=false from rfl,bU,bU];obtain⟨B,g1,J⟩:=LH (n:=n) (g:=gdR r) y.g1 i;obtain⟨u2,V,k2⟩:=LG (n:=n) (g:=gdR r) y.g1 i;have Y:=J.uniq k2;have H:lr n (rq0 r).2.2.2.2.2.1=some B:=g1;have I:lz n (rqP r).2.2.2.2.2.1=some u2:=V;rw[H,I];simp only[aa];rw[←Y]
 by_cases a:B.2=0
 case neg=>
  rw[show(B.2 !=0)=true by rw[bne_iff_ne];exact a,ii,ii];exact⟨B.2,rfl,rfl,.inr ⟨fun h=>a (J.zero.2 h.g),a⟩⟩
 have W:=J.zero.1 a;rw[show(B.2 !=0)=false by rw[a];rfl,bU,bU];simp only[eC,aa];show ∃e,av (decide (r.2.2.1<1)||decide (r.2.2.1>512)) _ _=_∧av (decide (r.2.2.1<1)||decide (r.2.2.1>512)) _ _=_∧_
 by_cases M:1≤r.2.2.1∧r.2.2.1≤512
 case neg=>
  rw[show(decide (r.2.2.1<1)||decide (r.2.2.1>512))=true by rw[aD,bx,bx];omega,ii,ii];exact⟨251,rfl,rfl,.inr ⟨fun h=>M h.b,by decide⟩⟩
 rw[show(decide (r.2.2.1<1)||decide (r.2.2.1>512))=false by rw[←ew,aD,bx,bx];omega,bU,bU];show ∃e,av (decide (r.2.2.2.2.1<0)||decide (r.2.2.2.2.1>8)) _ _=_∧av (decide (r.2.2.2.2.1<0)||decide (r.2.2.2.2.1>8)) _ _=_∧_
 by_cases u:0≤r.2.2.2.2.1∧r.2.2.2.2.1≤8
 case neg=>
  rw[show(decide (r.2.2.2.2.1<0)||decide (r.2.2.2.2.1>8))=true by rw[aD,bx,bx];omega,ii,ii];exact⟨252,rfl,rfl,.inr ⟨fun h=>u h.gr,by decide⟩⟩
 rw[show(decide (r.2.2.2.2.1<0)||decide (r.2.2.2.2.1>8))=false by rw[←ew,aD,bx,bx];omega,bU,bU];show ∃e,av ((r.1.length:Int)==0) _ _=_∧av ((r.1.length:Int)==0) _ _=_∧_
 by_cases D:r.1=[]
 case pos=>
  rw[show((r.1.length:Int)==0)=true by rw[D];rfl,ii,ii];exact⟨212,rfl,rfl,.inr ⟨fun h=>h.pr D,by decide⟩⟩
 have O:=List.length_pos_iff.2 D;rw[show((r.1.length:Int)==0)=false by rw[←ew,beq_iff_eq];omega,bU,bU];obtain⟨t1,l1,R⟩:=amj (n:=n) (m:=m) (l:=r.1) (by omega) i;obtain⟨t2,l2,S⟩:=TP (n:=n) (m:=m) (l:=r.1) (by omega) i;have K:vE n (m,(rq0 r).1)=some t1:=l1;have L:oX n (m,(rqP r).1)=some t2:=l2;rw[K,L];simp only[aa]
 by_cases q:WB m r.1
 case neg=>
  rw[show t1=false by rw[←ew,R];exact q,show t2=false by rw[←ew,S];exact q];exact⟨133,rfl,rfl,.inr ⟨fun h=>q h.t,by decide⟩⟩
 rw[R.2 q,S.2 q];simp only[aY,bU];show ∃e,av (decide (ae .i64 (ae .i64 ((r.1.length:Int)+r.2.2.1) -1)>m.1.2.1)||false) _ _=_∧av (decide (ae .i64 (ae .i64 ((r.1.length:Int)+r.2.2.1) -1)>m.1.2.1)||false) _ _=_∧_;rw[Bool.or_false];rw[aN (x:=(r.1.length:Int)+r.2.2.1),aN]
 by_cases N:(r.1.length:Int)+r.2.2.1 -1≤m.1.2.1
 case neg=>
  rw[decide_eq_true (by omega),ii];exact⟨212,rfl,rfl,.inr ⟨fun h=>N h.c,by decide⟩⟩
 rw[decide_eq_false (by omega),bU];exact⟨0,rfl,rfl,.inl ⟨⟨z,w,W,M,u,D,q,N⟩,rfl⟩⟩
theorem mod_succ{Y B:Int}(c:0<B)(i:Nat)(p:0≤Y):Y % B^(i+1)=Y % B^i+B^i*(Y/B^i % B):=by
 have d:=xj c i;have h:=aeX Y (B^i);have j:=aeX (Y/B^i) B;have k:=e9 Y (show B^i≠0 by omega);have l:=dz Y d;have e:=e9 (Y/B^i) (show B≠0 by omega);have n:=dz (Y/B^i) c;have o:=cp (acP d) e;have g:=ci (show Y/B^i % B+1≤B by omega) (acP d);rw[Int.mul_add,Int.mul_one]at g;have:=(afu (a:=Y) (b:=B^(i+1)) (r:=Y % B^i+B^i*(Y/B^i % B)) (q:=Y/B^i/B) (xj c (i+1))).2 ⟨?_,by omega,by rw[c9];omega⟩
 ·exact this.2
 ·rw[c9];generalize B^i=P at*;generalize Y/P=q at*
  grind
theorem aDK{X:Int}{x:List Int}(hx:ij 4294967296 x)(l:X=vz 4294967296 x){j r:Nat}(q:r<32):
  (x.getD (j+1) 0*4294967296+x.getD j 0)/2^r % 4294967296=X/2^(32*j+r) % 4294967296:=by
 have b:∃W:Int,X/2^(32*j)=x.getD j 0+x.getD (j+1) 0*4294967296+2^64*W:=by
  have g:∀k:Nat,(2:Int)^(32*k)=4294967296^k:=fun k=>(ajB k).symm;rw[g,l]
  by_cases c:j<x.length
  ·rw[aDE (by decide) hx (by omega),ajA c]
   by_cases d:j+1<x.length
   ·rw[ajA d];refine⟨vz 4294967296 (x.drop (j+1+1)),?_⟩;rw[aB,ai c,aB,ai d];simp only[Option.getD_some];omega
   ·refine⟨0,?_⟩;rw[bA (by omega),aB,ai c,aB,bd (by omega)];simp[vz]
  ·refine⟨0,?_⟩;have n:=XU (by decide) hx;have o:(4294967296:Int)^x.length≤4294967296^j:=Ww (by decide) (by omega);rw[ae7 (vj (by decide) hx) (by omega),aB,bd (by omega),aB,bd (by omega)];rfl
 obtain⟨W,i⟩:=b;have h:(0:Int)<2^r:=ed (by decide);obtain⟨e,p⟩:∃e,32=r+e:=⟨32 -r,by omega⟩;have a:(2:Int)^64=2^r*(2^e*4294967296):=by
  rw[show(4294967296:Int)=2^32 from rfl,←abe,←abe];congr 1;omega
 rw[abe,←Int.ediv_ediv_of_nonneg (acP (ed (by decide))),i,a,ae8 (2^r),Int.add_mul_ediv_left _ _ (by omega),ae8,aa5 (2^e),ae8,Int.add_mul_emod_self_left,Int.add_comm (x.getD j 0)]
structure DnI (Y:Int) (out:List Int) (i:Nat):Prop where
 dig:ij 4294967296 out
 v:vz 4294967296 (out.take i)=Y % 4294967296^i
theorem azn{n:Nat}{x o1:List Int}{N q r L:Nat}(D:N=32*q+r)(w:r<32)(H:q≤1000)(hx:ij 4294967296 x)(B:L≤1000000):∀(m k i:Nat) (out:List Int),i+m=L→m<k→out.length=L→DnI (vz 4294967296 x/2^N) out i→
  ∃c,amp n k ((N:Int),(),(),(),(L:Int),(i:Int),(x,()),(o1,()),out,())=some ((),(),(o1,()),c,())∧c.length=L∧DnI (vz 4294967296 x/2^N) c L
 |0,k,i,out,y,z,j,h=>by
  obtain⟨k,rfl⟩:=gU k;rw[auz,bN0];have:i=L:=by omega
  subst this;exact⟨out,rfl,j,h⟩
 |m+1,k,i,out,y,z,j,h=>by
  obtain⟨k,rfl⟩:=gU k;have o:i<out.length:=by omega
  have p:qt .i64 (N:Int) 32=some (q:Int):=by rw[zh (by decide) (by rw[bV];omega) (by rw[bV];omega),bV];congr 1;omega
  have t:rm (N:Int) 32=some (r:Int):=by rw[kT (by decide),pq];congr 1;omega
  have E:=hx.getD (by decide) (i+q+1);have F:=hx.getD (by decide) (i+q);have u:qc .u64 (x.getD (i+q+1) 0) 32=some (x.getD (i+q+1) 0*4294967296):=by
   unfold qc;rw[gk];show some (ae .u64 (x.getD (i+q+1) 0*2^32))=_;rw[Eb];rfl
  have g:=anH (k:=.u64) (a:=x.getD (i+q+1) 0) (b:=x.getD (i+q) 0) (s:=32) (.inl rfl) E.1 F.1 (by show x.getD (i+q) 0<2^32;omega) (by show x.getD (i+q+1) 0*2^32+x.getD (i+q) 0<2^64;omega);rw[show(2:Int)^32=4294967296 from rfl]at g;rw[auz,bP0,p,aa,aN (x:=(i:Int)+(q:Int)),aN (x:=(i:Int)+(q:Int)+1),show(i:Int)+(q:Int)+1=((i+q+1:Nat):Int)by omega,alP,aa,Eb,u,aa,aa,aN (x:=(i:Int)+(q:Int)),show(i:Int)+(q:Int)=((i+q:Nat):Int)by omega,alP,aa,t,aa,Eb,g,Tp (by show r≤64;omega),aa,dO o,aa,ai o,aa,alH,aDK hx rfl w,aN,show(i:Int)+1=((i+1:Nat):Int)by omega];have l:=vj (by decide) hx;have d:(0:Int)<2^N:=ed (by decide);refine azn D w H hx B m k (i+1) _ (by omega) (by omega) (by rw[aO];exact j) ⟨h.dig.set (by omega) (by omega),?_⟩;have e:∀v:Int,(out.set i v).getD i 0=v:=fun v=>by rw[aB,fl o];rfl
  rw[aeg,e,List.take_set,List.set_eq_of_length_le (by rw[aC];omega),h.v,mod_succ (by decide) i (e7 l (acP d)),Int.ediv_ediv_of_nonneg (acP d),ajB,←abe,show 32*(i+q)+r=N+32*i by omega]
theorem aEA{n:Nat}{x:List Int}{N:Nat}(hx:Can 4294967296 x)(l:x.length≤100000)(k:N≤1000)(o:Hn0 n):
  ∃z,ari n ((x,()),(N:Int))=some ((z,()),0)∧Can 4294967296 z∧vz 4294967296 z=vz 4294967296 x/2^N:=by
 have b:=vj (by decide) hx.1;have a:(0:Int)<2^N:=ed (by decide);rw[az2,bN0,Ly hx (by omega),aa,ag]
 by_cases c:jA (vz 4294967296 x)≤N
 ·rw[if_pos (by rw[bx];omega)];refine⟨[],rfl,Can.nil,?_⟩;rw[ae7 b (Int.lt_of_lt_of_le abc (Ww (by decide) c))];rfl
 ·rw[if_neg (by rw[bx];omega)];have h:jA (vz 4294967296 x)≤32*x.length:=Hk (by have:=XU (by decide) hx.1;rw[ajB]at this;exact this);have d:qt .i64 (N:Int) 32=some ((N/32:Nat):Int):=by rw[zh (by decide) (by rw[bV];omega) (by rw[bV];omega),bV];congr 1
  rw[d,aa];show ∃z,(Bx 4 (ae .i64 ((x.length:Int) -((N/32:Nat):Int)))).bind _=_∧_;rw[aN,fX (m:=x.length -N/32) (by omega) (by omega) (by omega),aa,aU];obtain⟨i,e,j,d1,d2⟩:=azn (n:=n) (x:=x) (o1:=[]) (N:=N) (q:=N/32) (r:=N % 32) (L:=x.length -N/32) (by omega) (by omega) (by omega) hx.1 (by omega) (x.length -N/32) n 0 (ao (x.length -N/32) 0) (by omega) (by omega) aU ⟨ij.rep (by decide) _,by rw[eW,Int.pow_zero,Int.emod_one];rfl⟩;rw[show((0:Nat):Int)=0 from rfl]at e;rw[e,aa];simp only;rw[Tr (by omega) (by omega),aa];refine⟨_,rfl,qE d1,?_⟩;rw[aR (by omega)]at d2;rw[wy,d2];refine Int.emod_eq_of_lt (e7 b (acP a)) ?_;have g:=XU (by decide) hx.1;apply Int.ediv_lt_of_lt_mul a;rw[ajB,←abe];rw[ajB]at g;exact Int.lt_of_lt_of_le g (Ww (by decide) (by omega))
theorem aD7{f:Nat→Nat}{i j:Nat}(h:i≤j):ayL f i≤ayL f j:=by
 induction h with
 |refl=>exact az _
 |step _ a=>exact ei a (Nat.le_add_right _ _)
structure Node (m:Mod) (r:Rq) (y:Int) (said:List Int):Prop where
 t:WB m said
 fo:(agm r said||MP r said)=true
 d:r.2.1.2.2.2.2.1*(said.length:Int)≤8*y
theorem Node.len{m:Mod}{r:Rq}{y:Int}{said:List Int}(h:Node m r y said):(said.length:Int)≤r.2.2.1:=by
 have:=h.fo;rw[aD]at this;rcases this with h |h
 ·unfold agm at h;rw[bx]at h;exact h.2.1
 ·unfold MP at h;rw[bx]at h;omega
theorem Node.pc{m:Mod}{r:Rq}{y:Int}{said:List Int}(i:ayh m r)(h:Node m r y said):uF m r said:=by
 have I:=h.len;have H:=i.c;refine⟨⟨i.v,i.p,i.g,i.pr,?_,Bu.2 ⟨i.t,fun x E=>h.t x (cS E)⟩⟩,h.t,i.b⟩;have:=i.b;have j:=List.length_pos_iff.2 i.pr;rw[aC]
 by_cases c:said.length=0
 ·have D:=i.v.1.1;unfold Dd at D;omega
 ·omega
theorem Node.full{m:Mod}{r:Rq}{y:Int}{said:List Int}(j:ayh m r)(h:Node m r y said)(i:MP r said=true):((r.1.length+said.length:Nat):Int)≤m.1.2.1:=by
 have D:=j.c;unfold MP at i;rw[bx]at i;omega
theorem Node.child{m:Mod}{r:Rq}{y t:Int}{said:List Int}(D:ayh m r)(h:Node m r y said)(j:MP r said=true)(hd:r.2.1.2.2.2.2.1*((said.length+1:Nat):Int)≤8*y)(E:0≤t∧t<m.1.1):Node m r y (said++[t]):=by
 refine⟨Bu.2 ⟨h.t,fun x i=> ?_⟩,ap4 j D.b.1,by rw[ah,bZ];exact hd⟩;rw[List.mem_singleton]at i;rw[i];exact E
theorem Node.more{m:Mod}{r:Rq}{y:Int}{said:List Int}(E:ayh m r)(h:Node m r y said):((said.length:Int)=drI r y↔8*y<r.2.1.2.2.2.2.1*((said.length+1:Nat):Int))∧((said.length:Int)≠drI r y→r.2.1.2.2.2.2.1*((said.length+1:Nat):Int)≤8*y):=by
 have I:=LQ E.p.bits;have hd:=h.d;unfold drI;generalize r.2.1.2.2.2.2.1=B at*;have H:(said.length:Int)≤8*y/B:=(Int.le_ediv_iff_mul_le (by omega)).2 (by rw[aa5];exact hd);have i:((said.length+1:Nat):Int)≤8*y/B↔B*((said.length+1:Nat):Int)≤8*y:=by rw[Int.le_ediv_iff_mul_le (by omega),aa5]
 generalize B*((said.length+1:Nat):Int)=Q at*;constructor
 ·constructor
  ·intro D;have:¬ Q≤8*y:=fun j=>by have:=i.2 j;omega
   omega
  ·intro D;have:¬ ((said.length+1:Nat):Int)≤8*y/B:=fun j=>by have:=i.1 j;omega
   omega
 ·intro D;exact i.1 (by omega)
def aBW(a b:List Int):Prop:=∃p x y c d,a=p++x::c∧b=p++y::d∧x<y
theorem aBW.pre{p a b:List Int}{x y:Int}(D:p++[x]<+:a)(E:p++[y]<+:b)(h:x<y):aBW a b:=by
 obtain⟨i,rfl⟩:=D;obtain⟨j,rfl⟩:=E;exact⟨p,x,y,i,j,by simp,by simp,h⟩
structure aGS (r:Rq) (y:Int) (w:D83):Prop where
 l:w.1.length≤1024
 f:w.2.1=agm r w.1
 c:Can 4294967296 w.2.2.1
 p:0<vz 4294967296 w.2.2.1
 s:w.2.2.1.length≤100000
 e:r.2.1.2.2.2.2.1*r.2.2.1≤8*y→w.2.1=true
def awZ(a:List D83):Int:=(a.map fun w=>vz 4294967296 w.2.2.1).sum
theorem aBX{a b:List D83}:awZ (a++b)=awZ a+awZ b:=by unfold awZ;rw[eu,List.sum_append]
structure Sub (r:Rq) (y:Int) (P:D83→Prop) (Ws:List D83) (T:Int):Prop where
 ok:∀w∈Ws,aGS r y w∧P w
 v:awZ Ws=T
 a:Ws.Pairwise fun a b=>aBW a.1 b.1
theorem aF1{α:Type}{H:List (Option (List α))}{sl:Option (Nat×Nat×Nat)}{out:List α}{w:α}(d:out.length≤10000)(h:(out=[]∧sl=none)∨(∃i,sl=some (i,0,out.length)∧fA H i=some out)):
  ∃b i,gsA 56 H sl [w]=some (b,some (i,0,(out++[w]).length))∧fA b i=some (out++[w]):=by
 have a:∀(H:List (Option (List α))) (x:List α),fA (eE H x) H.length=some x:=fun H x=>by
  unfold fA eE;rw[bc (az _),Nat.sub_self];rfl
 rcases h with⟨rfl,rfl⟩|⟨i,rfl,c⟩
 ·refine⟨eE H [w],H.length,?_,a _ _⟩;unfold gsA;simp only;rw[dU (by simp) (by omega)];rfl
 ·refine⟨eE (H.set i none) (out++[w]),H.length,?_,by have:=a (H.set i none) (out++[w]);rw[aO]at this;exact this⟩;unfold gsA;have:rX H (some (i,0,out.length))=some out:=by
   unfold rX;simp only;rw[c];simp
  simp only;rw[this];simp only;rw[dU (by simp only[bZ];omega) (by omega)]
theorem aFk{n:Nat}{v:Int}(e:Hn0 n)(h:0≤v∧v≤4294967296):∃o,amU n v=some ((o,()),0)∧Can 4294967296 o∧vz 4294967296 o=v∧o.length≤2:=by
 obtain⟨o,a,b,c,d⟩:=arK (n:=n) (by omega) (v:=v) h.1 (by omega);refine⟨o,?_,b,c,d⟩;rw[aA6,bN0,Eb,a,aa]
def Res(n:Nat)(m:Mod)(r:Rq)(y:Int)(c N:Nat)(out:List D83)(P:D83→Prop)(T:Int)(x:Int×H2×H3×Unit):Prop:=
 (x.1=261∧4096<c+N)∨(x.1=0∧c+N≤4096∧∃a:List D83,a.length≤N∧St m r y x.2.1 x.2.2.1 (c+N) (out++a)∧Sub r y P a T)
structure aEB (n:Nat) (m:Mod) (r:Rq) (y:Int) (said T:List Int):Prop where
 p:0<kr (Ho n m r said)
 c:Can 4294967296 T
 v:vz 4294967296 T=tpI n m r said y
 s:T.length≤100000
theorem aD8{n:Nat}{m:Mod}{r:Rq}{y:Int}(hm:MO m)(hr:OkR r)(Z:Hn0 n)(X:ayh m r)(hy:0≤y∧y≤8191){R:((Option Nat)×(List Int)×rY)→(H2×H3×Unit)→Unit→Option (Int×H2×H3×Unit)}{f:List Int→Nat}{said T:List Int}{c0:Nat}{oK:List D83}
  (hN:Node m r y said) (hT:aEB n m r y said T) (ho:MP r said=true) (hd:r.2.1.2.2.2.2.1*((said.length+1:Nat):Int)≤8*y) (hout:oK.length≤c0)
  (hR:∀(t:Nat) (T':List Int) F E c out,t<(wI n m r said).length→Node m r y (said++[(t:Int)])→aEB n m r y (said++[(t:Int)]) T'→c≤4096→out.length≤c→St m r y F E c out→∃x,R (some 0,said++[(t:Int)],(T',())) (F,E,()) ()=some x∧Res n m r y c (f (said++[(t:Int)])) out (fun w=>said++[(t:Int)]<+:w.1) (vz 4294967296 T') x):
  ∀(q k i:Nat) (F:H2) (E:H3) (l:List D83),i+q=(wI n m r said).length→q<k→
  c0+ayL (fun t=>if(wI n m r said).getD t 0=0 then 0 else f (said++[(t:Int)])) i≤4096→l.length≤ayL (fun t=>if(wI n m r said).getD t 0=0 then 0 else f (said++[(t:Int)])) i→
  St m r y F E (c0+ayL (fun t=>if(wI n m r said).getD t 0=0 then 0 else f (said++[(t:Int)])) i) (oK++l)→
  Sub r y (fun w=>∃t:Nat,t<i∧said++[(t:Int)]<+:w.1) l (kr (Ho n m r said)*2^(8*y -r.2.1.2.2.2.2.1*((said.length+1:Nat):Int)).toNat*((wI n m r said).take i).sum)→
  ∃x,(afv n R k (some 0,said,(),wI n m r said,(((wI n m r said).length:Nat):Int),(i:Int),F,E,(T,()),())=some (.inl x)∧x.1=261∧4096<c0+ayL (fun t=>if(wI n m r said).getD t 0=0 then 0 else f (said++[(t:Int)])) (wI n m r said).length)∨
   (afv n R k (some 0,said,(),wI n m r said,(((wI n m r said).length:Nat):Int),(i:Int),F,E,(T,()),())=some (.inr x.2)∧x.1=0∧c0+ayL (fun t=>if(wI n m r said).getD t 0=0 then 0 else f (said++[(t:Int)])) (wI n m r said).length≤4096∧
    ∃l:List D83,l.length≤ayL (fun t=>if(wI n m r said).getD t 0=0 then 0 else f (said++[(t:Int)])) (wI n m r said).length∧St m r y x.2.1 x.2.2.1 (c0+ayL (fun t=>if(wI n m r said).getD t 0=0 then 0 else f (said++[(t:Int)])) (wI n m r said).length) (oK++l)∧
    Sub r y (fun w=>said<+:w.1) l (kr (Ho n m r said)*2^(8*y -r.2.1.2.2.2.2.1*((said.length+1:Nat):Int)).toNat*(wI n m r said).sum)):=by
 obtain⟨g,hg⟩:∃g:Nat→Nat,g=fun t=>if(wI n m r said).getD t 0=0 then 0 else f (said++[(t:Int)]):=⟨_,rfl⟩;obtain⟨K,hK⟩:∃K,K=kr (Ho n m r said)*2^(8*y -r.2.1.2.2.2.2.1*((said.length+1:Nat):Int)).toNat:=⟨_,rfl⟩;rw[←hg,←hK];have M:=hN.pc X;have W:=hN.full X ho;obtain⟨-,-,w3,w4,w5⟩:=Mt hm hr (M.full W) Z;have hb:=LQ X.p.bits;have hl:=M.len;have hlen:(wI n m r said).length≤512:=by
  have:=X.v.1.1;unfold Dd at this;omega
 have V:0<K:=by rw[hK];exact Int.mul_pos hT.p (ed (by decide))
 have htp:=TC X.p.bits;intro q
 induction q with
 |zero=>
  intro k i F E l e1 e2 e3 e4 e5 D;obtain⟨k,rfl⟩:=gU k;have L:i=(wI n m r said).length:=by omega
  refine⟨(0,F,E,()),.inr ⟨?_,rfl,by rw[←L];exact e3,l,by rw[←L];exact e4,by rw[←L];exact e5,?_,?_,D.a⟩⟩
  ·rw[ams,bN0]
  ·intro w O;obtain⟨Q,t,a2,U⟩:=D.ok w O;exact⟨Q,List.IsPrefix.trans (List.prefix_append _ _) U⟩
  ·rw[D.v,L,ch]
 |succ q ih=>
  intro k i F E l e1 e2 e3 e4 e5 D;obtain⟨k,rfl⟩:=gU k;have L:i<(wI n m r said).length:=by omega
  obtain⟨H,j⟩:∃H,H=(wI n m r said).getD i 0:=⟨_,rfl⟩;have P:=w4 H (by rw[j,aB,ai L];exact am L);have hgi:g i=if H=0 then 0 else f (said++[(i:Int)]):=by rw[hg,j]
  rw[ams,bP0,eU L,←j,aa,ag]
  by_cases c:H=0
  ·rw[if_pos (by rw[beq_iff_eq];exact c),aN,show(i:Int)+1=((i+1:Nat):Int)by omega];have h:ayL g (i+1)=ayL g i:=by
    show ayL g i+g i=_;rw[hgi,if_pos c,Nat.add_zero]
   refine ih k (i+1) F E l (by omega) (by omega) (by rw[h];exact e3) (by rw[h];exact e4) (by rw[h];exact e5) ⟨fun w O=> ?_,?_,D.a⟩
   ·obtain⟨Q,t,a2,U⟩:=D.ok w O;exact⟨Q,t,by omega,U⟩
   ·rw[D.v,ahI,←j,c,Int.add_zero]
  ·rw[if_neg (by rw[beq_iff_eq];exact c)];have h:ayL g (i+1)=ayL g i+f (said++[(i:Int)]):=by
    show ayL g i+g i=_;rw[hgi,if_neg c]
   obtain⟨sl,rfl,hsl⟩:=e5;obtain⟨o,o1,o2,o3,o4⟩:=aFk (n:=n) Z (v:=H) ⟨P.1,by omega⟩;obtain⟨B,hB⟩:∃B:Nat,r.2.1.2.2.2.2.1=(B:Int):=⟨r.2.1.2.2.2.2.1.toNat,by omega⟩;have hB':(rq0 r).2.1.2.2.2.2.1=(B:Int):=hB;obtain⟨z,z1,z2,z3⟩:=aEA (n:=n) (N:=B) hT.c hT.s (by omega) Z;have hTv:vz 4294967296 T=K*2^B:=by rw[hT.v,asu ho (by omega) hd,←hK,hB,ax]
   have h2B:(0:Int)<2^B:=ed (by decide);rw[hTv,Int.mul_ediv_cancel _ (by omega)]at z3;have ax4:H≤2^B:=by have:=P.2;rw[hB,ax]at this;exact this
   have hfit:=aeM hm hr Z M hy hd (S:=H) ⟨P.1,P.2⟩;have d:=aeM hm hr Z M hy hd (S:=2^r.2.1.2.2.2.2.1.toNat) ⟨by omega,Int.le_refl _⟩;rw[←hK]at hfit d;rw[hB,ax]at d;have h8:(0:Int)<2^(8*y).toNat:=ed (by decide);have hK8:K≤2^((8*y).toNat -B):=by
    have hBy:B≤(8*y).toNat:=by
     have:r.2.1.2.2.2.2.1*1≤r.2.1.2.2.2.2.1*((said.length+1:Nat):Int):=ci (by omega) (by omega);omega
    have e:(2:Int)^(8*y).toNat=2^((8*y).toNat -B)*2^B:=by rw[←abe];congr 1;omega
    rw[e]at d;exact Int.le_of_mul_le_mul_right d h2B
   have aLx:=Tt hK8;have aLy:=Tt ax4;have hzl:=xm z2 (k:=(8*y).toNat+1) (by
    rw[z3,c9];have:=ci (show(1:Int)≤2^B by omega) (acP V);omega)
   obtain⟨u,u1,u2,u3,u4⟩:=at1 (n:=n) z2 o2 (by omega) Z (by rw[z3,o3];omega);rw[z3,o3]at u3;have J:=hN.child X ho hd (t:=(i:Int)) (by omega);have hval:aEB n m r y (said++[(i:Int)]) u:=by
    refine⟨?_,u2,?_,by omega⟩
    ·rw[ap3,Wv,ax,←j];have:kr [H]=H:=by simp[kr]
     rw[this];exact Int.mul_pos hT.p (by omega)
    ·rw[u3,ast ho X.b.1 hd,←hK,ax,←j]
   have hg0:fA [some (m,rq0 r,drI r y,((c0+ayL g i:Nat):Int),sl)] 0=some (m,rq0 r,drI r y,((c0+ayL g i:Nat):Int),sl):=rfl;obtain⟨x,x1,x2⟩:=hR i u _ E (c0+ayL g i) (oK++l) L J hval e3 (by rw[ah];omega) ⟨sl,rfl,hsl⟩;rw[o1,aa,aa,hg0,aa];simp only;rw[hB',z1,aa];simp only;rw[u1,aa,Mk,aa,dU (by simp only[bZ];omega) (by omega),aa,x1,aa];obtain⟨xe,xh3,xh4,xu⟩:=x;rcases x2 with⟨Y,hgt⟩|⟨Y,hle,Ws',hW1,hW2,I⟩
   ·have Y:xe=261:=Y;subst Y;refine⟨(261,xh3,xh4,()),.inl ⟨?_,rfl,?_⟩⟩
    ·rw[show((261:Int)!=0)=true from rfl,ii]
    ·have:=aD7 (f:=g) (show i+1≤(wI n m r said).length by omega);rw[h]at this;omega
   ·have Y:xe=0:=Y;subst Y;simp only;rw[show((0:Int)!=0)=false from rfl,bU,aN,show(i:Int)+1=((i+1:Nat):Int)by omega];refine ih k (i+1) xh3 xh4 (l++Ws') (by omega) (by omega) (by rw[h];omega) (by rw[h,ah];omega) (by rw[h,←bo,←eZ];exact hW2) ⟨fun w O=> ?_,?_,?_⟩
    ·rcases List.mem_append.1 O with O |O
     ·obtain⟨Q,t,a2,U⟩:=D.ok w O;exact⟨Q,t,by omega,U⟩
     ·obtain⟨Q,a2⟩:=I.ok w O;exact⟨Q,i,by omega,a2⟩
    ·rw[aBX,D.v,I.v,u3,ahI,←j,Int.mul_add]
    ·refine List.pairwise_append.2 ⟨D.a,I.a,fun a ha b hb=> ?_⟩;obtain⟨-,t,a2,U⟩:=D.ok a ha;obtain⟨-,b2⟩:=I.ok b hb;exact aBW.pre U b2 (by omega)
theorem aF2{m:Mod}{r:Rq}{said:List Int}(h:IW m r said):IW m (rq0 r) said:=⟨h.v,h.p,h.g,h.pr,h.c,h.t⟩
theorem aEC{c:Nat}(h:c≤4097)(a:¬ c=4097):c+1=min (c+1) 4097:=by omega
theorem aBY{n:Nat}{m:Mod}{r:Rq}{y:Int}{d:Nat}{said:List Int}(h:agm r said=true∨(said.length:Int)=drI r y):cnt n m r y (d+1) said=1:=by
 rw[cnt];exact if_pos h
theorem aDo{n:Nat}{m:Mod}{r:Rq}{y:Int}{d:Nat}{said:List Int}(h:¬ (agm r said=true∨(said.length:Int)=drI r y))(a:m.1.1.toNat=(wI n m r said).length):
  cnt n m r y (d+1) said=1+ayL (fun t=>if(wI n m r said).getD t 0=0 then 0 else cnt n m r y d (said++[(t:Int)])) (wI n m r said).length:=by
 rw[cnt,if_neg h,a]
theorem aFl{n:Nat}{m:Mod}{r:Rq}{y:Int}{d:Nat}{said:List Int}:1≤cnt n m r y (d+1) said:=by
 rw[cnt]
 split
 ·exact az _
 ·exact Nat.le_add_right _ _
theorem aBZ{n:Nat}{m:Mod}{r:Rq}{y:Int}{said:List Int}(h:Node m r y said):tpI n m r said y=kr (Ho n m r said)*2^(8*y -r.2.1.2.2.2.2.1*(said.length:Int)).toNat:=by
 unfold tpI;rw[if_pos ⟨h.d,h.fo⟩]
theorem aCY{m:Mod}{r:Rq}{y:Int}{said:List Int}(h:Node m r y said)(a:agm r said=false):MP r said=true:=by
 have:=h.fo;rwa[a,Bool.false_or]at this
theorem aED{m:Mod}{r:Rq}{y:Int}{said:List Int}(e:ayh m r)(h:Node m r y said)(c:agm r said=true∨(said.length:Int)=drI r y)(j:r.2.1.2.2.2.2.1*r.2.2.1≤8*y):agm r said=true:=by
 rcases b:agm r said with _ |_
 ·exfalso;have d:=aCY h b;rw[b]at c;rcases c with a |a
  ·cases a
  ·have i:=((h.more e).1).1 a;have g:=LQ e.p.bits;unfold MP at d;rw[bx]at d;have:=ci (show((said.length+1:Nat):Int)≤r.2.2.1 by omega) (show 0≤r.2.1.2.2.2.2.1 by omega);omega
 ·rfl
theorem aEE{n:Nat}{m:Mod}{r:Rq}{y:Int}(hm:MO m)(V:OkR r)(K:Hn0 n)(o:ayh m r)(hy:0≤y∧y≤8191):∀(d k:Nat) (said T:List Int) (z:H2) (l:H3) (c:Nat) (out:List D83),
  r.2.2.1 -(said.length:Int)+1≤(d:Int)→d≤k→Node m r y said→aEB n m r y said T→c≤4096→out.length≤c→St m r y z l c out→
  ∃x,ae9 n k (some 0,said,(T,())) (z,l,()) ()=some x∧Res n m r y c (cnt n m r y d said) out (fun w=>said<+:w.1) (vz 4294967296 T) x:=by
 intro d
 induction d with
 |zero=>
  intro k said T z l c out hd _ j;have:=j.len;omega
 |succ d ih=>
  intro k said T z l c out hd hk j B hc hout W;obtain⟨k,rfl⟩:=gU k;obtain⟨sl,rfl,I⟩:=W;have F:=j.pc o;have hl:=F.len;have g:∀(a:Int) (b:Option (Nat×Nat×Nat)),fA [some (m,rq0 r,drI r y,a,b)] 0=some (m,rq0 r,drI r y,a,b):=fun _ _=>rfl;have g1:∀(a Y:Int) (b Z:Option (Nat×Nat×Nat)),uG [some (m,rq0 r,drI r y,a,b)] 0 (m,rq0 r,drI r y,Y,Z)=some [some (m,rq0 r,drI r y,Y,Z)]:=fun _ _ _ _=>rfl;have E:n4 n (rq0 r,said)=some (agm r said):=LP (r:=rq0 r) (by omega) K;rw[awT];rw[aa,g,aa,aa,g,aa];dsimp only;rw[aN,g1,aa,aa,g,aa,ag]
  by_cases c1:4096<c+1
  ·rw[if_pos (by rw[bx];show(c:Int)+1>4096;omega)];exact⟨_,rfl,.inl ⟨rfl,by have:=aFl (n:=n) (m:=m) (r:=r) (y:=y) (d:=d) (said:=said);omega⟩⟩
  ·rw[if_neg (by rw[bx];show ¬ (c:Int)+1>4096;omega),aa,g,aa,E,aa,aa,g,aa];have u:av (agm r said) (some true) (some ((said.length:Int)==drI r y))=some (decide (agm r said=true∨(said.length:Int)=drI r y)):=by
    rw[eC];congr 1;rw[Bool.eq_iff_iff,aD,beq_iff_eq,bx]
   dsimp only;rw[u,aa,ag]
   by_cases q:agm r said=true∨(said.length:Int)=drI r y
   ·have e:cnt n m r y (d+1) said=1:=aBY q;rw[if_pos (by rw[bx];exact q),aa,g,aa,Mk,aa];obtain⟨H',i,a1,a2⟩:=aF1 (H:=l) (sl:=sl) (out:=out) (w:=((said,agm r said,(T,())):D83)) (by omega) I;dsimp only;rw[a1,aa,aa,g,aa];dsimp only;rw[g1,aa];refine⟨_,rfl,.inr ⟨rfl,by rw[e];omega,[(said,agm r said,(T,()))],by rw[e];simp,⟨some (i,0,(out++[(said,agm r said,(T,()))]).length),?_,.inr ⟨i,rfl,a2⟩⟩,?_⟩⟩
    ·rw[e];rfl
    ·refine⟨fun w L=> ?_,by simp[awZ],by simp⟩;rw[List.mem_singleton]at L;subst L;refine⟨⟨by show said.length≤_;omega,rfl,B.c,?_,B.s,fun h=>aED o j q h⟩,List.prefix_refl _⟩;show 0<vz 4294967296 T;rw[B.v,aBZ j];exact Int.mul_pos B.p (ed (by decide))
   ·have P:agm r said=false:=by rw[←ew];exact fun h=>q (.inl h)
    have S:=aCY j P;have D:=(j.more o).2 fun h=>q (.inr h);have hW:=F.full (j.full o S);obtain⟨p1,-⟩:=Mt hm (aIk V) (aF2 hW) K;obtain⟨-,-,w3,w4,w5⟩:=Mt hm V hW K;rw[wI0]at p1;have e:cnt n m r y (d+1) said=1+ayL (fun t=>if(wI n m r said).getD t 0=0 then 0 else cnt n m r y d (said++[(t:Int)])) (wI n m r said).length:=aDo q (by omega);rw[if_neg (by rw[bx];exact q),aa,g,aa,aa,g,aa];dsimp only;rw[p1,aa];dsimp only;rw[show((0:Int)!=0)=false from rfl,bU];have hb1:=o.b;have Q:(wI n m r said).length<n:=by
     have:=o.v.1.1;unfold Dd at this;omega
    obtain⟨x,hx⟩:=aD8 (n:=n) (R:=ae9 n k) (f:=cnt n m r y d) (c0:=c+1) (oK:=out) hm V K o hy j B S D (by omega)
     (fun t T' z l c out _ M N O U J=>ih k (said++[(t:Int)]) T' z l c out (by rw[ah,bZ];omega) (by omega) M N O U J)
     (wI n m r said).length n 0 [some (m,rq0 r,drI r y,(c:Int)+1,sl)] l [] (by omega) Q (by show c+1+0≤4096;omega) (az _) ⟨sl,rfl,by rw[cG];exact I⟩
     ⟨fun w L=>absurd L List.not_mem_nil,by simp[awZ],List.Pairwise.nil⟩
    rw[show((0:Nat):Int)=0 from rfl]at hx;rcases hx with⟨X,x2,x3⟩|⟨X,x2,x3,Ws,x4,x5,x6⟩
    ·rw[X,aa];exact⟨x,rfl,.inl ⟨x2,by rw[e];omega⟩⟩
    ·rw[X,aa];refine⟨(0,x.2),rfl,.inr ⟨rfl,by rw[e];omega,Ws,by rw[e];omega,by rw[e,←eZ];exact x5,?_⟩⟩;rw[B.v,asu S (by have:=LQ o.p.bits;omega) D,←w5];exact x6
theorem aA8{n:Nat}{m:Mod}{r:Rq}{y:Int}{R:((D4×fy)×xw×(List Int)×Int×Int)→Option ((List D86)×Int)}{f:List Int→Nat}{said:List Int}{c0:Nat}(b:c0≤4097)(w:(wI n m r said).length≤512)(hm:((wI n m r said).length:Int)=m.1.1)(x:said.length≤1024)
  (j:∀(t c:Nat),t<(wI n m r said).length→c≤4097→∃(l:List D86) (a:Nat),R (m,r,said++[(t:Int)],y,(c:Int))=some (l,(a:Int))∧a=(if(wI n m r said).getD t 0=0 then c else min (c+f (said++[(t:Int)])) 4097)∧l.length+c≤a):
  ∀(q k i c:Nat) (l:List D86),i+q=(wI n m r said).length→q<k→c=min (c0+ayL (fun t=>if(wI n m r said).getD t 0=0 then 0 else f (said++[(t:Int)])) i) 4097→l.length+c0≤c→
  ∃(o:List D86) (a:Nat),amo n R k (said,y,(c:Int),(),(),l,(i:Int),m,r,())=some ((a:Int),o,())∧a=min (c0+ayL (fun t=>if(wI n m r said).getD t 0=0 then 0 else f (said++[(t:Int)])) (wI n m r said).length) 4097∧o.length+c0≤a
 |0,k,i,c,l,p,u,g,h=>by
  obtain⟨k,rfl⟩:=gU k;rw[as1,bN0];exact⟨l,c,rfl,by rw[g,show i=(wI n m r said).length by omega],h⟩
 |q+1,k,i,c,l,p,u,g,h=>by
  obtain⟨k,rfl⟩:=gU k;obtain⟨z,e,r1,B,D⟩:=j i c (by omega) (by omega);rw[as1,bP0,Mk,aa,dU (by simp only[bZ];omega) (by omega),aa,r1,aa];have d:e=min (c0+ayL (fun t=>if(wI n m r said).getD t 0=0 then 0 else f (said++[(t:Int)])) (i+1)) 4097:=by
   rw[B];show _=min (c0+(ayL (fun t=>if(wI n m r said).getD t 0=0 then 0 else f (said++[(t:Int)])) i+if(wI n m r said).getD i 0=0 then 0 else f (said++[(i:Int)]))) 4097
   split<;>omega
  dsimp only;rw[dU,aa,aN,show(i:Int)+1=((i+1:Nat):Int)by omega];exact aA8 b w hm x j q k (i+1) e (l++z) (by omega) (by omega) d (by rw[ah];omega)
theorem aDL{n:Nat}{m:Mod}{r:Rq}{y:Int}(hm:MO m)(M:OkR r)(F:Hn0 n)(j:ayh m r)(O:0≤y∧y≤8191):∀(d k:Nat) (said:List Int) (c:Nat),
  r.2.2.1 -(said.length:Int)+1≤(d:Int)→d≤k→Node m r y said→c≤4097→
  ∃(l:List D86) (i:Nat),ait n k (m,r,said,y,(c:Int))=some (l,(i:Int))∧i=(if kr (Ho n m r said)=0 then c else min (c+cnt n m r y d said) 4097)∧l.length+c≤i:=by
 intro d
 induction d with
 |zero=>
  intro k said c W _ g;have:=g.len;omega
 |succ d Y=>
  intro k said c W hk g H;obtain⟨k,rfl⟩:=gU k;have b:=g.pc j;have hl:=b.len;have hf:=aeL hm M b F;have S:(0:Int)<2^(8*y -r.2.1.2.2.2.2.1*(said.length:Int)).toNat:=ed (by decide);rcases ase (n:=n) (said:=said) (y:=y) hm M (by omega) F with⟨h,-⟩|⟨-,z,Q,-,t2,-,t4,-,t6,-,t8⟩
  ·exact absurd ⟨O.1,O.2,b⟩ h
  ·rw[aBZ g]at t6;have w:=aoJ (by decide) t4;rw[azt,t2,aa];simp only;rw[eC,aa,ag]
   by_cases D:kr (Ho n m r said)=0
   ·have:Q=[]:=w.1 (by rw[t6,D,Int.zero_mul]);rw[if_pos (by rw[this];rfl),if_pos D];exact⟨[],c,rfl,rfl,by simp⟩
   ·have X:0<Q.length:=List.length_pos_iff.2 fun h=>by
     have:=w.2 h;rw[t6]at this;have:=Int.mul_pos (show 0<kr (Ho n m r said)by omega) S;omega
    rw[if_neg D]
    by_cases o:c=4097
    ·rw[if_pos (by rw[aD,bx];right;omega)];exact⟨[],c,rfl,by omega,by simp⟩
    ·rw[if_neg (by rw[aD,beq_iff_eq,bx];omega),Yf (by omega) F,aa,aN (x:=(c:Int)+1),ag]
     by_cases q:agm r said=true
     ·have a:cnt n m r y (d+1) said=1:=aBY (.inl q);rw[if_pos q];exact⟨_,c+1,rfl,by rw[a];exact aEC H o,by simp;omega⟩
     ·rw[if_neg q,ag];have K:agm r said=false:=by rw[←ew];exact q
      have N:=aCY g K;have hb:=LQ j.p.bits;obtain⟨B,T⟩:∃B:Nat,r.2.1.2.2.2.2.1=(B:Int):=⟨r.2.1.2.2.2.2.1.toNat,by omega⟩;have e0:r.2.1.2.2.2.2.1*((said.length+1:Nat):Int)=((B*(said.length+1):Nat):Int):=by rw[T,Int.natCast_mul]
      have e1:B*(said.length+1)≤32*513:=bD (by omega) (by omega);rw[aN (x:=(said.length:Int)+1),show(said.length:Int)+1=((said.length+1:Nat):Int)by omega,aN (x:=r.2.1.2.2.2.2.1*((said.length+1:Nat):Int)),aN (x:=8*y)];have u:=g.more j
      by_cases E:(said.length:Int)=drI r y
      ·have a:cnt n m r y (d+1) said=1:=aBY (.inr E);rw[if_pos (by rw[bx];exact u.1.1 E)];exact⟨_,c+1,rfl,by rw[a];exact aEC H o,by simp;omega⟩
      ·have J:=u.2 E;have V:=b.full (g.full j N);obtain⟨-,-,w3,w4,w5⟩:=Mt hm M V F;have U:(wI n m r said).length≤512:=by
        have:=j.v.1.1;unfold Dd at this;omega
       have a:cnt n m r y (d+1) said=1+ayL (fun t=>if(wI n m r said).getD t 0=0 then 0 else cnt n m r y d (said++[(t:Int)])) (wI n m r said).length:=aDo (fun h=>h.elim q E) (by omega);rw[if_neg (by rw[bx];omega)];obtain⟨Z,i,P,q2,q3⟩:=aA8 (n:=n) (m:=m) (r:=r) (y:=y) (R:=ait n k) (f:=cnt n m r y d) (said:=said) (c0:=c+1) (by omega) U w3 (by omega)
        (fun t i ht I=>by
         obtain⟨l,o,r1,r2,r3⟩:=Y k (said++[(t:Int)]) i (by rw[ah,bZ];omega) (by omega) (g.child j N J (by omega)) I;refine⟨l,o,r1,?_,r3⟩;rw[r2,ap3,Wv,ax];have L:kr [(wI n m r said).getD t 0]=(wI n m r said).getD t 0:=by simp[kr]
         rw[L]
         by_cases e:(wI n m r said).getD t 0=0
         ·rw[if_pos e,if_pos (by rw[e,Int.mul_zero])]
         ·rw[if_neg e,if_neg (fun h=>(Int.mul_eq_zero.1 h).elim D e)])
        (wI n m r said).length n 0 (c+1) [] (by omega) (by omega) (by show c+1=min (c+1+0) 4097;exact aEC H o) (by simp)
       rw[show((0:Nat):Int)=0 from rfl,show((c+1:Nat):Int)=(c:Int)+1 by omega]at P;rw[P,aa];exact⟨Z,i,rfl,by rw[q2,a];omega,by omega⟩
abbrev zM:Mod:=(((0:Int),((0:Int),((0:Int),((0:Int),((0:Int),(0:Int)))))),(([],[]),([],((0:Int),([],([],([],([],([],([],(0:Int)))))))))))
theorem root{n:Nat}{m:Mod}{r:Rq}{y:Int}{T:List Int}(g:ayh m r)(j:0≤y∧y≤8191)(d:Can 4294967296 T)(h:vz 4294967296 T=2^(8*y).toNat)(e:T.length≤100000):Node m r y []∧aEB n m r y [] T∧kr (Ho n m r [])=1:=by
 have c:Node m r y []:=by
  refine⟨fun x i=>absurd i List.not_mem_nil,?_,by simp;omega⟩;rw[aD];right;unfold MP;rw[bx];have:=g.b;exact⟨by decide,by simp;omega⟩
 have a:kr (Ho n m r [])=1:=rfl;refine⟨c,⟨by rw[a];decide,d,?_,e⟩,a⟩;rw[aBZ c,a,h];simp
theorem aDM{n:Nat}{m:Mod}{r:Rq}{y:Int}(hm:MO m)(F:OkR r)(u:Hn0 n):
  (∃e,e≠0∧amq n (m,r,y)=some ([],e)∧∃l,auD n (m,r,y)=some (l,e))∨
  (0≤y∧y≤8191∧ayh m r∧∃c:List D83,amq n (m,r,y)=some (c,0)∧c.length≤4096∧Sub r y (fun w=>[]<+:w.1) c (2^(8*y).toNat)):=by
 rw[aBg,aBi,eC,aa,aa,ag,ag]
 by_cases j:0≤y∧y≤8191
 case neg=>
  left;rw[if_pos (by rw[aD,bx,bx];omega),if_pos (by rw[aD,bx,bx];omega)];exact⟨260,by decide,rfl,[],rfl⟩
 rw[if_neg (by rw[aD,bx,bx];omega),if_neg (by rw[aD,bx,bx];omega),aCz,aa];obtain⟨e,S,T,U⟩:=aF0 (n:=n) (m:=m) (d:=zM) (r:=r) hm F u;have B:aq8 n (m,zM,(r.1,(r.2.1,(r.2.2.1,((0:Int),r.2.2.2.2)))))=some e:=S;rw[B,T,aa,aa];rcases U with⟨q,rfl⟩|⟨-,O⟩
 case inr=>
  left;rw[show(e !=0)=true by rw[bne_iff_ne];exact O,ii,ii];exact⟨e,O,rfl,[],rfl⟩
 rw[show((0:Int)!=0)=false from rfl,bU,bU,aeK q.p.bits j.1 j.2,aa];obtain⟨o,z,o1,o2,z3,R,-,z6⟩:=aBG (n:=n) (N:=(8*y).toNat) (by omega) u;obtain⟨M,V,hp⟩:=root (n:=n) q j z3 R z6;have hb:=q.b;obtain⟨x,x1,x2⟩:=aEE hm F u q j 514 n [] z [some (m,rq0 r,drI r y,((0:Nat):Int),none)] [] 0 [] (by simp only[dr];omega) (by omega) M V (by omega) (by simp) ⟨none,rfl,.inl ⟨rfl,rfl⟩⟩;obtain⟨l,K,l1,l2,-⟩:=aDL hm F u q j 514 n [] 0 (by simp only[dr];omega) (by omega) M (by omega);have H:au5 n (m,r,[],y,0)=some (l,(K:Int)):=l1;have I:amu n (some 0,[],(z,())) (eE [] (m,(r.1,(r.2.1,(r.2.2.1,((0:Int),r.2.2.2.2)))),8*y/r.2.1.2.2.2.2.1,((0:Int),none)),[],()) ()=some x:=x1;rw[if_neg (by rw[hp];decide)]at l2;rw[o1,aa];dsimp only;rw[aN (x:=8*y),show 8*y=(((8*y).toNat:Nat):Int)by omega,o2,aa];dsimp only;rw[show((0:Int)!=0)=false from rfl,bU,show(((8*y).toNat:Nat):Int)=8*y by omega,I,aa,H,aa];obtain⟨Q,J,k,xu⟩:=x;rcases x2 with⟨h,Y⟩|⟨h,Z,c,W,E,t⟩
 ·have h:Q=261:=h;subst h;left;refine⟨261,by decide,?_,[],?_⟩
  ·rw[show((261:Int)!=0)=true from rfl,ii]
  ·rw[ag,if_pos (by rw[bx];show(K:Int)>4096;omega)]
 ·have h:Q=0:=h;subst h;right;refine⟨j.1,j.2,q,c,?_,by omega,by rw[R]at t;exact t⟩;obtain⟨P,D,L⟩:=E;have D:J=_:=D;subst D;rw[show((0:Int)!=0)=false from rfl,bU];have X:∀(a:Int),fA [some (m,rq0 r,drI r y,a,P)] 0=some (m,rq0 r,drI r y,a,P):=fun _=>rfl;dsimp only;rw[X,aa];dsimp only;rw[bC]at L;rcases L with⟨rfl,rfl⟩|⟨i,rfl,g⟩
  ·rfl
  ·have g:fA k i=some c:=g;have:gsF k (some (i,0,c.length))=some (c,k.set i none):=by
    unfold gsF rX;dsimp only;rw[g];simp
   rw[this,aa]
theorem aDp{n:Nat}{a b:List Int}(h:aBW a b)(B:a.length≤1000000)(D:b.length≤1000000)(E:Hn0 n):aox n (a,b)=some true:=by
 obtain⟨p,x,y,c,d,rfl,rfl,l⟩:=h;have u:(p++x::c).length=p.length+c.length+1:=by simp;omega
 have w:(p++y::d).length=p.length+d.length+1:=by simp;omega
 have o:∀(q k j:Nat),j+q=p.length→q<k→ap6 n k (p++x::c,p++y::d,(j:Int),())=some (.inl (true,())):=by
  intro q
  induction q with
  |zero=>
   intro k j r t;obtain⟨k,rfl⟩:=gU k;have e:j=p.length:=by omega
   have g:idx (p++x::c) (j:Int)=some x:=by rw[bj (by omega)];simp[e]
   have i:idx (p++y::d) (j:Int)=some y:=by rw[bj (by omega)];simp[e]
   rw[avd,fw,aa,g,i];rw[show(decide ((j:Int)<(((p++x::c).length:Nat):Int))&&decide ((j:Int)<(((p++y::d).length:Nat):Int)))=true by rw[ak,bx,bx];omega,ii,aa,aa,show(x !=y)=true by rw[bne_iff_ne];omega,ii,aa,aa,decide_eq_true l]
  |succ q z=>
   intro k j r t;obtain⟨k,rfl⟩:=gU k;have e:j<p.length:=by omega
   have g:idx (p++x::c) (j:Int)=some p[j]:=by rw[bj (by omega),List.getElem_append_left e]
   have i:idx (p++y::d) (j:Int)=some p[j]:=by rw[bj (by omega),List.getElem_append_left e]
   rw[avd,fw,aa,g,i];rw[show(decide ((j:Int)<(((p++x::c).length:Nat):Int))&&decide ((j:Int)<(((p++y::d).length:Nat):Int)))=true by rw[ak,bx,bx];omega,ii,aa,aa,bne_self_eq_false,bU,aN,show(j:Int)+1=((j+1:Nat):Int)by omega];exact z k (j+1) (by omega) (by omega)
 rw[aAM];have:=o p.length n 0 (by omega) (by omega);rw[show((0:Nat):Int)=0 from rfl]at this;rw[this];rfl
theorem aDT{l:List D83}(h:∀w∈l,0<vz 4294967296 w.2.2.1):0≤awZ l:=aoc fun x b=>by
 obtain⟨w,a,rfl⟩:=List.mem_map.1 b;have:=h w a;omega
theorem ayV{l:List D83}(h:∀w∈l,0<vz 4294967296 w.2.2.1)(i:Nat):0≤awZ (l.take i)∧awZ (l.take i)≤awZ l:=by
 have e:=aDT (l:=l.take i) fun w c=>h w (cS c);have g:=aDT (l:=l.drop i) fun w c=>h w (List.mem_of_mem_drop c);have d:=aBX (a:=l.take i) (b:=l.drop i);rw[bM]at d;omega
theorem aCJ{l:List D83}{i:Nat}(h:i<l.length):awZ (l.take (i+1))=awZ (l.take i)+vz 4294967296 l[i].2.2.1:=by
 rw[List.take_succ_eq_append_getElem h,aBX];simp[awZ]
theorem aBH{z:List Int}{y:Int}(a:0≤y∧y≤8191)(hz:Can 4294967296 z)(h:vz 4294967296 z≤2^(8*y).toNat):z.length≤100000:=by
 have:=xm hz (k:=(8*y).toNat+1) (by rw[c9];have:(0:Int)<2^(8*y).toNat:=ed (by decide);omega);omega
theorem aCK{n:Nat}{m:Mod}{r:Rq}{y:Int}{d:List D83}(o:Hn0 n)(J:0≤y∧y≤8191)(Q:d.length≤4096)(h:Sub r y (fun w=>[]<+:w.1) d (2^(8*y).toNat)):∀(q k i:Nat) (s:List Int),i+q=d.length→q<k→Can 4294967296 s→vz 4294967296 s=awZ (d.take i)→
  ∃F,ajQ n k (y,(),(),d,(),(),d,(d.length:Int),(i:Int),m,r,(s,()),([],()),())=some (.inr (y,(),(),(),m,r,(F,()),()))∧Can 4294967296 F∧vz 4294967296 F=awZ d
 |0,k,i,s,M,N,z,j=>by
  obtain⟨k,rfl⟩:=gU k;rw[arl,bN0];exact⟨s,rfl,z,by rw[j,aR (by omega)]⟩
 |q+1,k,i,s,M,N,z,j=>by
  obtain⟨k,rfl⟩:=gU k;have B:i<d.length:=by omega
  have b:=(h.ok _ (am B)).1;have g:∀w∈d,0<vz 4294967296 w.2.2.1:=fun w S=>(h.ok w S).1.p;have I:=ayV g i;have x:=ayV g (i+1);rw[h.v]at I x;have t:=aCJ B;have R:=aBH J z (by rw[j];exact I.2);obtain⟨u,U,V,W⟩:=at7 (n:=n) z b.c (by omega) (by have:=b.s;omega) o (asv (k:=(8*y).toNat) (by rw[j,←t];exact x.2) (by omega));obtain⟨c,K,L⟩:=alQ (n:=n) b.c Can.nil (by have:=b.s;omega) o;have Z:=b.p;have T:vz 4294967296 ([]:List Int)=0:=rfl;rw[T]at L;have P:c=1:=by omega
  subst P;rw[arl,bP0,bj B,aa];have H:wo n ((s,()),d[i].2.2)=some ((u,()),0):=U;have D:oB n (d[i].2.2,([],()))=some 1:=K;rw[H,aa];dsimp only;rw[show((0:Int)!=0)=false from rfl,bU,D,aa,show decide ((1:Int)≤0)=false from rfl,bU,LP (by have:=b.l;omega) o,aa,←b.f,beq_self_eq_true,aY,aa,bU];have e:(av (decide ((i:Int)>0)) ((idx d (ae .i64 ((i:Int) -1))).bind fun X=>(aox n (X.1,d[i].1)).bind fun Y=>some (!Y)) (some false))=some false:=by
   rw[ag]
   by_cases c:i=0
   ·rw[if_neg (by rw[bx];omega)]
   ·have E:i -1<d.length:=by omega
    have O:=(List.pairwise_iff_getElem.1 h.a) (i -1) i E B (by omega);have l1:=(h.ok _ (am E)).1.l;have l2:=b.l;rw[if_pos (by rw[bx];omega),aN,show(i:Int) -1=((i -1:Nat):Int)by omega,bj E,aa,aDp O (by omega) (by omega) o];rfl
  rw[e,aa,bU,aN,show(i:Int)+1=((i+1:Nat):Int)by omega];exact aCK o J Q h q k (i+1) u (by omega) (by omega) V (by rw[W,j,t])
theorem azu{n:Nat}{r:Rq}{y:Int}{a:List D83}{o2:List Int}(x:Hn0 n)(B:0≤y∧y≤8191)(E:a.length≤4096)(g:Sub r y (fun w=>[]<+:w.1) a (2^(8*y).toNat)):∀(q k i:Nat) (s:List Int),i+q=a.length→q<k→Can 4294967296 s→vz 4294967296 s≤awZ (a.take i)→((∀w∈a,w.2.1=true)→s=[])→
  ∃l,ap7 n k ((),(),a,(a.length:Int),(i:Int),(o2,()),(s,()),())=some ((),(),(o2,()),(l,()),())∧Can 4294967296 l∧vz 4294967296 l≤awZ a∧((∀w∈a,w.2.1=true)→l=[])
 |0,k,i,s,F,H,e,o,t=>by
  obtain⟨k,rfl⟩:=gU k;rw[avj,bN0];refine⟨s,rfl,e,?_,t⟩;rw[aR (by omega)]at o;exact o
 |q+1,k,i,s,F,H,e,o,t=>by
  obtain⟨k,rfl⟩:=gU k;have j:i<a.length:=by omega
  have b:=(g.ok _ (am j)).1;have d:∀w∈a,0<vz 4294967296 w.2.2.1:=fun w M=>(g.ok w M).1.p;have L:=ayV d i;have z:=ayV d (i+1);rw[g.v]at L z;have J:=aCJ j;have P:=b.p;have K:=aBH B e (by omega);rw[avj,bP0,bj j,aa];rcases I:a[i].2.1 with _ |_
  ·obtain⟨u,N,O,Q⟩:=at7 (n:=n) e b.c (by omega) (by have:=b.s;omega) x (asv (k:=(8*y).toNat) (by omega) (by omega));have D:wo n ((s,()),a[i].2.2)=some ((u,()),0):=N;rw[Bool.not_false,ii,D,aa,aa];dsimp only;rw[aN,show(i:Int)+1=((i+1:Nat):Int)by omega];refine azu x B E g q k (i+1) u (by omega) (by omega) O (by omega) fun h=> ?_;have:=h _ (am j);rw[I]at this
   cases this
  ·rw[aY,bU,aa];dsimp only;rw[aN,show(i:Int)+1=((i+1:Nat):Int)by omega];exact azu x B E g q k (i+1) s (by omega) (by omega) e (by omega) t
theorem axe{n:Nat}{m:Mod}{r:Rq}{y:Int}(O:gE n ()=some true)(hm:MO m)(B:OkR r)(d:Hn0 n):ahJ n (m,r,y)=some true:=by
 rw[ayO,O,aa,aY,bU];rcases aDM (n:=n) (y:=y) hm B d with⟨e,R,g,l,K⟩|⟨k,q,D,t,g,u,h⟩
 ·rw[g,aa];dsimp only;rw[show(e !=0)=true by rw[bne_iff_ne];exact R,ii,Bn hm.o.len d,aa,LR B d,aa,K,aa];dsimp only;rw[beq_self_eq_true,ii];rfl
 ·have i:0≤y∧y≤8191:=⟨k,q⟩;obtain⟨s',F,H,q3⟩:=aCK (n:=n) (m:=m) d i u h t.length n 0 [] (by omega) (by omega) Can.nil (by simp[vz,awZ]);obtain⟨I,E,X,Y,Z⟩:=azu (n:=n) (o2:=[]) d i u h t.length n 0 [] (by omega) (by omega) Can.nil (by simp[vz,awZ]) (fun _=>rfl);rw[show((0:Nat):Int)=0 from rfl]at F E;rw[g,aa];dsimp only;rw[show((0:Int)!=0)=false from rfl,bU,F,aa];dsimp only[cI];obtain⟨o,z,W,o2,z3,z4,-,z6⟩:=aBG (n:=n) (N:=(8*y).toNat) (by omega) d;rw[h.v]at q3 Y;have S:=aBH i H (by omega);have V:=aBH i X (by omega);obtain⟨c,J,c2⟩:=alQ (n:=n) H z3 (by omega) d;have Q:c=0:=by omega
  subst Q;rw[W,aa];dsimp only;rw[aN (x:=8*y),show 8*y=(((8*y).toNat:Nat):Int)by omega,o2,aa];dsimp only;rw[show((0:Int)!=0)=false from rfl,bU,bU,J,aa,show((0:Int)!=0)=false from rfl,aa,bU,show(((8*y).toNat:Nat):Int)=8*y by omega];have a:asF n (m,r,y)=some ((I,()),0):=by
   rw[aAN,g,aa];dsimp only;rw[show((0:Int)!=0)=false from rfl,bU,E,aa]
  have P:=LQ D.p.bits;have j:=D.b;have M:r.2.1.2.2.2.2.1*r.2.2.1≤32*512:=dA P.2 j.2 (by omega) (by omega);have L:0≤r.2.1.2.2.2.2.1*r.2.2.1:=cp (by omega) (by omega);rw[a,aa];dsimp only;rw[show((0:Int)==0)=true from rfl,ii,aN (x:=r.2.1.2.2.2.2.1*r.2.2.1),ag]
  by_cases c:8*y<r.2.1.2.2.2.2.1*r.2.2.1
  ·rw[if_pos (by rw[bx];exact c)];rfl
  ·have U:I=[]:=Z fun w T=>(h.ok w T).1.e (by omega);subst U;rw[if_neg (by rw[bx];exact c),Ly Can.nil (by simp),aa,aa];rfl
theorem aBp(x:(jN (aeW 0).ps).den)(h:Yp (jN (aeW 0).ps) x)(b:bt (jN (aeW 0).ps) x≤1048576):∃n,ahJ n x=some true:=by
 obtain⟨m,r,y⟩:=x;have b:bt amm m+(bt TRq r+bt TN y)≤1048576:=b;exact⟨2000000000,axe LU (awD h.1 (by omega)) (asq (by omega)) (az _)⟩
end Go.Am.Pu
