import Derived.Test.YtllhngpojglipaaGreatDoorGT
import Derived.Test.YtllhngpojglipaaGreatDoorA4
import Derived.Test.YtllhngpojglipaaGreatDoorProg
import Derived.Test.YtllhngpojglipaaGreatDoorD
import Derived.Test.YtllhngpojglipaaGreatDoorE2
import Derived.KernelRfl
import Derived.Test.YtllhngpojglipaaGreatDoorE3
import Derived.Test.YtllhngpojglipaaGreatDoorS
import Derived.Test.YtllhngpojglipaaGreatDoorP4
import Derived.Test.YtllhngpojglipaaGreatDoorP1
import Derived.Test.YtllhngpojglipaaGreatDoorP8
import Derived.Test.YtllhngpojglipaaGreatDoorP9
import Derived.Test.YtllhngpojglipaaGreatDoorP3
set_option linter.unusedVariables false
set_option linter.unusedSimpArgs false
open Array renaming toList→ej
open Bool renaming and_eq_true→ak,false_eq_true→cn,not_eq_true'→aZ,not_eq_true→ew,not_true→aY,or_eq_true→aD
open Int renaming ediv_emod_unique→afu,ediv_eq_zero_of_lt→ae7,ediv_nonneg→e7,emod_add_mul_ediv→aeX,emod_lt_of_pos→dz,emod_nonneg→e9,le_of_lt→acP,mul_assoc→ae8,mul_comm→aa5,mul_ediv_add_emod→dN,mul_le_mul_of_nonneg_left→ci,mul_le_mul_of_nonneg_right→bP,mul_le_mul→dA,mul_nonneg→cp,pow_add→abe,pow_pos→ed,pow_succ→c9,toNat_natCast→ax
open Go.IntKind renaming bits→b9,signed→fH,wrap→ae
open List renaming dropLast_concat_getLast→bL,drop_eq_getElem_cons→bi,drop_of_length_le→bA,getD_eq_getElem?_getD→aB,getElem?_eq_getElem→ai,getElem?_eq_none→bd,getElem?_set_self→fl,length_append→ah,length_replicate→aU,length_set→aO,length_singleton→bZ,length_take→aC,length→af,mem_cons_self→aH,mem_of_mem_take→cS,replicate→ao,set→aX,take_append_drop→bM,take_of_length_le→aR,toArray→aeZ
open Nat renaming le_refl→az,mul_le_mul→bD
open Option renaming bind_some→aa
namespace Go.Am
open Go Go.Proofs
set_option maxRecDepth 100000
abbrev D79:Type:=(List Int)×Int
abbrev D81:Type:=(List Int)×(List Int)
open Go.Proofs.Tryz
noncomputable section
variable (n:Nat)
def Zv:NS:=⟨[(0,.data aT),(1,aF),(6,.fix (.v false [.vec 4])),(7,aF),(8,aF)],[(4,.row au)],11⟩
def Iv:LS:=⟨Zv,[(.exit 0,⟨[(6,.fix (.v false [.vec 4])),(7,aF)],[(4,.row au)],11⟩)]⟩
def DO:Cx:=aE [(91,KM n)] [] [] [(4,Iv)] [] 39 n
def wn(x:ar×Int):Option (ar×Int):=ap (DO n) f92 [aT,au] [aT,au] x
def Of:Entry:=⟨[aT,au],[aT,au],wn n⟩
def rk(k:Nat)(v:ar×Int×Unit×Int×Int×ar×Unit):Option (Unit×Int×ar×Unit):=aw (DO n) f92 Iv 4 k v
def acD:NS:=⟨[(0,.data aT),(3,.data .str)],[],5⟩
def KO:LS:=⟨acD,[(.exit 0,⟨[(3,.data .str)],[],5⟩)]⟩
def acE:NS:=⟨[(0,.data aT),(3,.data .str),(5,aF),(6,aF)],[],18⟩
def KP:LS:=⟨acE,[(.exit 2,⟨[(0,.data aT),(3,.data .str)],[],18⟩)]⟩
def zc:Cx:=aE [(92,Of n)] [] [(8,[(29,.bool)])] [(4,KO),(8,KP)] [] 43 n
def zd(x:ar):Option (List UInt8):=ap (zc n) f44 [aT] [.str] x
def R8:Entry:=⟨[aT],[.str],zd n⟩
def tq(k:Nat)(v:ar×(List UInt8)×Unit):Option ((List UInt8)×Unit):=aw (zc n) f44 KO 4 k v
def tr(k:Nat)(v:ar×(List UInt8)×Int×Int×Unit):Option (ar×(List UInt8)×Unit):=aw (zc n) f44 KP 8 k v
end
noncomputable section
variable (n:Nat)
def Sc:Cx:=aE [(46,KR n)] [] [(1,[(4,.bool)])] [] [] 15 n
def tB(x:xw×ar):Option (Bool):=ap (Sc n) f21 [zq,aT] [.bool] x
def GS:Entry:=⟨[zq,aT],[.bool],tB n⟩
def acL:NS:=⟨[(3,aF),(4,aF)],[],16⟩
def KZ:LS:=⟨acL,[(.exit 0,⟨[(3,aF)],[],16⟩)]⟩
def GU:Cx:=aE [] [] [] [(5,KZ)] [] 25 n
def zg(x:ar):Option (Int):=ap (GU n) f135 [aT] [au] x
def Sd:Entry:=⟨[aT],[au],zg n⟩
def tC(k:Nat)(v:Int×Int×Unit):Option (Int×Unit):=aw (GU n) f135 KZ 5 k v
def XD:Cx:=aE [(135,Sd n)] [] [] [] [] 8 n
def Cm(x:ar):Option (ar×Int):=ap (XD n) f95 [aT] [aT,au] x
def XE:Entry:=⟨[aT],[aT,au],Cm n⟩
def acM:Cx:=aE [(43,Ph n),(42,KN n),(95,XE n)] [] [] [] [] 35 n
def GV(x:ar×Int):Option (ar×Bool):=ap (acM n) f52 [aT,au] [aT,.bool] x
def acN:Entry:=⟨[aT,au],[aT,.bool],GV n⟩
def Oi:Cx:=aE [(12,xG n),(15,DP n),(21,GS n),(52,acN n)] [] [(1,[(20,.bool)]),(7,[(52,.bool)])] [] [] 63 n
def oj(x:(D4×fy)×xw×ar×Int):Option (ar×Int):=ap (Oi n) f19 [gW,zq,aT,au] [aT,au] x
def K0:Cx:=aE [] [] [] [] [] 15 n
def pf(x:rY×Int):Option (Int):=ap (K0 n) f55 [pT,au] [(.int .u32)] x
def K4:Entry:=⟨[pT,au],[(.int .u32)],pf n⟩
end
noncomputable section
variable (n:Nat)
def My:NS:=⟨[(2,.fix (.v false [.ptr 0 0])),(3,.fix (.v false [.ptr 1 0])),(5,aF)],[(0,.obj pT),(1,.obj pT)],24⟩
def xW:LS:=⟨My,[(.ret,⟨[(4,aF)],[],24⟩),(.exit 1,⟨[],[],24⟩)]⟩
def tD:Cx:=aE [] [] [] [(6,xW)] [] 54 n
def oB(x:rY×rY):Option (Int):=ap (tD n) f23 [pT,pT] [au] x
def Cp:Entry:=⟨[pT,pT],[au],oB n⟩
def gT(k:Nat)(v:Unit×Unit×Int×rY×rY×Unit):Option ((Int×Unit)⊕Unit):=aw (tD n) f23 xW 6 k v
def aDa:Cx:=aE [(60,akK n)] [] [] [] [] 10 n
def amU(x:Int):Option (rY×Int):=ap (aDa n) f28 [au] [pT,au] x
def awI:Entry:=⟨[au],[pT,au],amU n⟩
def ay1:Cx:=aE [] [] [(1,[(14,.bool)])] [] [] 26 n
def asy(x:rY×Int):Option (Int):=ap (ay1 n) f141 [pT,au] [au] x
def ay2:Entry:=⟨[pT,au],[au],asy n⟩
def azF:NS:=⟨[(1,.data (.int .u32)),(3,.fix (.v false [.ptr 0 0])),(6,.fix (.v false [.ptr 1 0])),(7,.fix (.v false [.vec 6])),(8,.data (.int .u64)),(19,.data Y75),(20,aF),(21,aF)],[(0,.obj pT),(1,.cells [.own (.int .u32)]),(6,.row (.int .u32))],15⟩
def avn:LS:=⟨azF,[(.exit 0,⟨[(3,.fix (.v false [.ptr 0 0])),(6,.fix (.v false [.ptr 1 0])),(7,.fix (.v false [.vec 6])),(8,.data (.int .u64))],[(0,.obj pT),(1,.cells [.own (.int .u32)]),(6,.row (.int .u32))],15⟩)]⟩
def as8:Cx:=aE [(57,zt n)] [] [] [(4,avn)] [] 50 n
def apm(x:rY×Int×Int):Option (rY):=ap (as8 n) f187 [pT,(.int .u32),(.int .u32)] [pT] x
def axf:Entry:=⟨[pT,(.int .u32),(.int .u32)],[pT],apm n⟩
def al2(k:Nat)(v:Int×Unit×Unit×Unit×Int×ar×Int×Int×rY×(ar×Unit)×ar×Unit):Option (Unit×Unit×Unit×Int×rY×(ar×Unit)×ar×Unit):=aw (as8 n) f187 avn 4 k v
def avo:Cx:=aE [(187,axf n)] [] [] [] [] 8 n
def aqz(x:rY×Int):Option (rY):=ap (avo n) f140 [pT,(.int .u32)] [pT] x
def avp:Entry:=⟨[pT,(.int .u32)],[pT],aqz n⟩
def avq:Cx:=aE [] [] [] [] [] 25 n
def amn(x:Int×Int×Int):Option (Int×Int):=ap (avq n) f188 [(.int .u32),(.int .u32),(.int .u32)] [(.int .u32),(.int .u32)] x
def avv:Entry:=⟨[(.int .u32),(.int .u32),(.int .u32)],[(.int .u32),(.int .u32)],amn n⟩
def aA9:NS:=⟨[(2,.fix (.v false [.ptr 0 0])),(3,.fix (.v false [.ptr 1 0])),(4,.fix (.v false [.ptr 2 0])),(6,.fix (.v false [.vec 11])),(7,.data (.int .u32)),(19,aF),(20,aF)],[(0,.obj pT),(1,.obj pT),(2,.cells [.own (.int .u32)]),(11,.row (.int .u32))],17⟩
def axj:LS:=⟨aA9,[(.exit 0,⟨[(4,.fix (.v false [.ptr 2 0])),(6,.fix (.v false [.vec 11]))],[(2,.cells [.own (.int .u32)]),(11,.row (.int .u32))],17⟩)]⟩
def awe:Cx:=aE [(23,Cp n),(55,K4 n),(188,avv n),(57,zt n)] [] [] [(6,axj)] [] 40 n
def asz(x:rY×rY):Option (rY×Int):=ap (awe n) f142 [pT,pT] [pT,au] x
def ay3:Entry:=⟨[pT,pT],[pT,au],asz n⟩
def apr(k:Nat)(v:Unit×Unit×Unit×Unit×Int×Int×Int×rY×rY×(ar×Unit)×ar×Unit):Option (Unit×Unit×(ar×Unit)×ar×Unit):=aw (awe n) f142 axj 6 k v
def aBa:NS:=⟨[(2,.fix (.v false [.ptr 0 0])),(3,.fix (.v false [.ptr 1 0])),(4,.fix (.v false [.ptr 2 0])),(5,.fix (.v false [.ptr 3 0])),(9,.fix (.v false [.vec 16])),(10,.fix (.v false [.ptr 19 0])),(11,aF)],[(0,.obj pT),(1,.obj pT),(2,.cells [.own (.int .u32)]),(3,.cells [.own (.int .u32)]),(16,.row (.int .u32)),(19,.obj pT)],25⟩
def axk:LS:=⟨aBa,[(.exit 0,⟨[(4,.fix (.v false [.ptr 2 0])),(5,.fix (.v false [.ptr 3 0])),(9,.fix (.v false [.vec 16])),(10,.fix (.v false [.ptr 19 0]))],[(2,.cells [.own (.int .u32)]),(3,.cells [.own (.int .u32)]),(16,.row (.int .u32)),(19,.obj pT)],25⟩)]⟩
def aAt:NS:=⟨[(2,.fix (.v false [.ptr 0 0])),(3,.fix (.v false [.ptr 1 0])),(4,.fix (.v false [.ptr 2 0])),(5,.fix (.v false [.ptr 3 0])),(9,.fix (.v false [.vec 16])),(10,.fix (.v false [.ptr 19 0])),(11,aF)],[(0,.obj pT),(1,.obj pT),(2,.cells [.own (.int .u32)]),(3,.cells [.own (.int .u32)]),(16,.row (.int .u32)),(19,.obj pT)],40⟩
def awh:Cx:=aE [(75,Rw n),(60,akK n),(20,oU n),(141,ay2 n),(140,avp n),(23,Cp n),(142,ay3 n),(57,zt n)] [] [] [(9,axk)] [(56,aAt)] 76 n
def ajS(x:rY×rY):Option (rY×rY×Int):=ap (awh n) f99 [pT,pT] [pT,pT,au] x
def awu:Entry:=⟨[pT,pT],[pT,pT,au],ajS n⟩
def aps(k:Nat)(v:Unit×Unit×Unit×Unit×Unit×Unit×Int×rY×rY×(ar×Unit)×(ar×Unit)×ar×rY×Unit):Option (Unit×Unit×Unit×Unit×(ar×Unit)×(ar×Unit)×ar×rY×Unit):=aw (awh n) f99 axk 9 k v
def aBb:NS:=⟨[(2,.fix (.v false [.ptr 0 0])),(3,.fix (.v false [.ptr 1 0])),(4,.fix (.v false [.ptr 2 0]))],[(0,.obj pT),(1,.obj pT),(2,.cells [.own (.int .u32)])],3⟩
def ax3:LS:=⟨aBb,[(.exit 0,⟨[(2,.fix (.v false [.ptr 0 0])),(4,.fix (.v false [.ptr 2 0]))],[(0,.obj pT),(2,.cells [.own (.int .u32)])],3⟩)]⟩
def awA:Cx:=aE [(99,awu n)] [] [] [(1,ax3)] [] 22 n
def asA(x:rY×rY):Option (rY):=ap (awA n) f98 [pT,pT] [pT] x
def ay4:Entry:=⟨[pT,pT],[pT],asA n⟩
def ajD(k:Nat)(v:Unit×Unit×Unit×rY×rY×(ar×Unit)×Unit):Option (Unit×Unit×rY×(ar×Unit)×Unit):=aw (awA n) f98 ax3 1 k v
def azG:Cx:=aE [(98,ay4 n),(99,awu n)] [] [] [] [] 31 n
def aw1(x:rY×rY):Option (rY×rY):=ap (azG n) f61 [pT,pT] [Y80] x
def azK:Entry:=⟨[pT,pT],[Y80],aw1 n⟩
def ayl:Cx:=aE [(61,azK n)] [] [] [] [] 14 n
def ajR(x:rY×rY):Option ((rY×rY)×Int):=ap (ayl n) f30 [pT,pT] [Y80,au] x
def auH:Entry:=⟨[pT,pT],[Y80,au],ajR n⟩
def ay5:Cx:=aE [(11,xD n),(28,awI n),(29,Rv n),(30,auH n)] [] [] [] [] 48 n
def amW(x:(D4×fy)×xw×ar):Option ((rY×rY)×Int):=ap (ay5 n) f24 [gW,zq,aT] [Y80,au] x
def ay6:Entry:=⟨[gW,zq,aT],[Y80,au],amW n⟩
def aCi:NS:=⟨[(0,.data aT),(1,.data aT),(5,.own au),(6,aF),(7,aF)],[],5⟩
def ay7:LS:=⟨aCi,[(.exit 0,⟨[(5,.own au)],[],5⟩)]⟩
def aym:Cx:=aE [(90,acC n)] [] [(4,[(23,.bool)])] [(4,ay7)] [] 43 n
def aqh(x:ar×ar):Option ar:=ap (aym n) f136 [aT,aT] [aT] x
def aAY:Entry:=⟨[aT,aT],[aT],aqh n⟩
def asB(k:Nat)(v:ar×ar×ar×Int×Int×Unit):Option (ar×Unit):=aw (aym n) f136 ay7 4 k v
def aAZ:Cx:=aE [] [] [(1,[(13,.bool)])] [] [] 24 n
def avw(x:ar×Int):Option (Int):=ap (aAZ n) f137 [aT,au] [au] x
def aA0:Entry:=⟨[aT,au],[au],avw n⟩
def azL:NS:=⟨[(0,.data aT),(1,.data aT),(5,aF)],[],10⟩
def avy:LS:=⟨azL,[(.ret,⟨[(4,aF)],[],10⟩),(.exit 0,⟨[],[],10⟩)]⟩
def atN:Cx:=aE [] [] [] [(6,avy)] [] 41 n
def apG(x:ar×ar):Option (Int):=ap (atN n) f138 [aT,aT] [au] x
def ax8:Entry:=⟨[aT,aT],[au],apG n⟩
def ajO(k:Nat)(v:ar×ar×Int×Unit):Option ((Int×Unit)⊕Unit):=aw (atN n) f138 avy 6 k v
end
noncomputable section
variable (n:Nat)
def aCj:NS:=⟨[(0,.data aT),(1,.data aT),(5,.own au),(6,aF),(11,aF),(12,aF)],[],7⟩
def ay8:LS:=⟨aCj,[(.exit 0,⟨[(5,.own au)],[],7⟩)]⟩
def ayo:Cx:={ tt:=tt,calls:=[(90,acC n),(91,KM n)],owns:=[],lcs:=[(26,[(6,au),(8,au)],4)],loops:=[(4,ay8)],gV:=[],nt:=36,fuel:=n }
def avz(x:ar×ar):Option ar:=ap (ayo n) f139 [aT,aT] [aT] x
def aA1:Entry:=⟨[aT,aT],[aT],avz n⟩
def asC(k:Nat)(v:ar×ar×ar×Int×Int×Int×Unit):Option (ar×Unit):=aw (ayo n) f139 ay8 4 k v
def aCk:NS:=⟨[(0,.data aT),(1,.data aT),(6,.fix (.v false [.vec 4])),(7,.data aT),(8,aF)],[(4,.row au)],13⟩
def ay9:LS:=⟨aCk,[(.exit 0,⟨[(6,.fix (.v false [.vec 4])),(7,.data aT)],[(4,.row au)],13⟩)]⟩
def aBI:NS:=⟨[(0,.data aT),(1,.data aT),(6,.fix (.v false [.vec 4])),(7,.data aT),(8,aF)],[(4,.row au)],23⟩
def aBJ:NS:=⟨[(0,.data aT),(1,.data aT),(6,.fix (.v false [.vec 4])),(7,.data aT),(8,aF)],[(4,.row au)],27⟩
def ays:Cx:=aE [(136,aAY n),(137,aA0 n),(138,ax8 n),(139,aA1 n),(91,KM n)] [] [] [(3,ay9)] [(27,aBI),(34,aBJ)] 52 n
def aqi(x:ar×ar):Option (ar×ar):=ap (ays n) f97 [aT,aT] [aT,aT] x
def ayt:Entry:=⟨[aT,aT],[aT,aT],aqi n⟩
def asD(k:Nat)(v:ar×ar×Unit×ar×Int×ar×Unit):Option (Unit×ar×ar×Unit):=aw (ays n) f97 ay9 3 k v
def aCl:NS:=⟨[(0,.data aT),(1,.data aT)],[],1⟩
def aza:LS:=⟨aCl,[(.exit 0,⟨[(0,.data aT)],[],1⟩)]⟩
def ayw:Cx:=aE [(97,ayt n)] [] [] [(1,aza)] [] 19 n
def avA(x:ar×ar):Option ar:=ap (ayw n) f96 [aT,aT] [aT] x
def aA2:Entry:=⟨[aT,aT],[aT],avA n⟩
def akA(k:Nat)(v:ar×ar×Unit):Option (ar×Unit):=aw (ayw n) f96 aza 1 k v
def azO:Cx:=aE [(96,aA2 n),(97,ayt n)] [] [] [] [] 28 n
def auC(x:ar×ar):Option (D81):=ap (azO n) f58 [aT,aT] [Y81] x
def azP:Entry:=⟨[aT,aT],[Y81],auC n⟩
def aze:Cx:=aE [(12,xG n),(52,acN n),(58,azP n)] [] [] [] [] 39 n
def ano(x:(D4×fy)×xw×ar):Option (D81×Int):=ap (aze n) f25 [gW,zq,aT] [Y81,au] x
def azf:Entry:=⟨[gW,zq,aT],[Y81,au],ano n⟩
def avB:Cx:=aE [(60,akK n)] [] [] [] [] 15 n
def aqA(x:rY×rY):Option (rY×rY):=ap (avB n) f59 [Y80] [pT,pT] x
def av9:Entry:=⟨[Y80],[pT,pT],aqA n⟩
def awJ:Cx:=aE [(59,av9 n),(37,zY n)] [] [] [] [] 16 n
def agS(x:rY×rY):Option (List UInt8):=ap (awJ n) f26 [Y80] [.str] x
def awK:Entry:=⟨[Y80],[.str],agS n⟩
def awa:Cx:=aE [(44,R8 n)] [] [] [] [] 11 n
def agZ(x:D81):Option (List UInt8):=ap (awa n) f27 [Y81] [.str] x
def awb:Entry:=⟨[Y81],[.str],agZ n⟩
def atO:Cx:=aE [(8,vQ n),(24,ay6 n),(9,Gq n),(10,Gs n),(25,azf n),(26,awK n),(27,awb n),(14,Dx n),(18,vP n),(28,awI n),(29,Rv n),(30,auH n)] [] [(5,[(47,.bool)]),(7,[(79,.bool)]),(13,[(6,.bool)])] [] [] 125 n
def agR(x:(D4×fy)×xw×D79):Option (Bool):=ap (atO n) f6 [gW,zq,Y79] [.bool] x
def acR:Entry:=⟨[gW,zq,Y79],[.bool],agR n⟩
end
section
variable (n k:Nat)
set_option maxHeartbeats 4000000
theorem Z4(a0:xw)(a1:ar):yS n (a0,a1)=((ip n (a1,0)).bind fun v2=>av (!v2) (some (decide ((af a1:Int)<a0.2.2.1))) (some false)).bind fun v1=>some v1:=by kernel_rfl
end
section
variable (n k:Nat)
theorem Wb(a0:ar)(a1:Int):wn n (a0,a1)=(Bx 8 (af a0:Int)).bind fun v1=>(rk n n (a0,a1,(),0,(ae .i64 ((af a0:Int) -1)),(ao v1 0),())).bind fun v2=>(wS n v2.2.2.1).bind fun v3=>some (v3,v2.2.1):=by kernel_rfl
theorem Bb(s0:ar)(s1 s7 s8:Int)(o4:ar):rk n (k+1) (s0,s1,(),s7,s8,o4,())=av (decide (s8≥0)) ((idx s0 s8).bind fun v1=>(qt .i64 (ae .i64 ((ae .i64 (s7*65536))+v1)) s1).bind fun v2=>(ck s8 (af o4)).bind fun v3=>((o4)[v3]?).bind fun _=>(rm (ae .i64 ((ae .i64 (s7*65536))+v1)) s1).bind fun v5=>rk n k (s0,s1,(),v5,(ae .i64 (s8 -1)),(aX o4 v3 v2),())) (some ((),s7,o4,())):=by kernel_rfl
theorem aar(a0:ar):zd n a0=av ((af a0:Int)==0) (some (ej (ByteArray.data (ByteArray.mk (aeZ [(48)]))))) ((tq n n (a0,(ej (ByteArray.data (ByteArray.mk (aeZ [])))),())).bind fun v1=>some v1.1):=by kernel_rfl
theorem SL(s0:ar)(s3:List UInt8):tq n (k+1) (s0,s3,())=av (decide ((af s0:Int)>0)) ((wn n (s0,10000)).bind fun v1=>(tr n n (v1.1,s3,v1.2,0,())).bind fun v2=>tq n k v2) (some (s3,())):=by kernel_rfl
theorem CT(s0:ar)(s3:List UInt8)(s5 s6:Int):tr n (k+1) (s0,s3,s5,s6,())=(av (decide (s6<4)) (av (decide ((af s0:Int)>0)) (some true) (some (decide (s5>0)))) (some false)).bind fun v1=>av v1 ((rm s5 10).bind fun v2=>(cat (bytesOf [(ae .u8 (ae .i64 (48+v2)))]) s3).bind fun v3=>(qt .i64 s5 10).bind fun v4=>tr n k (s0,v3,v4,(ae .i64 (s6+1)),())) (some (s0,s3,())):=by kernel_rfl
end
section
variable (n k:Nat)
theorem aaw(a0:xw)(a1:ar):tB n (a0,a1)=((wU n a1).bind fun v2=>av (decide (v2<0)) (some (decide ((af a1:Int)<a0.2.2.1))) (some false)).bind fun v1=>some v1:=by kernel_rfl
theorem aax(a0:ar):zg n a0=av ((af a0:Int)==0) (some 0) ((idx a0 (ae .i64 ((af a0:Int) -1))).bind fun v1=>(tC n n ((ae .i64 (16*(ae .i64 ((af a0:Int) -1)))),v1,())).bind fun v2=>some v2.1):=by kernel_rfl
theorem CZ(s3 s4:Int):tC n (k+1) (s3,s4,())=av (decide (s4>0)) ((qt .i64 s4 2).bind fun v1=>tC n k ((ae .i64 (s3+1)),v1,())) (some (s3,())):=by kernel_rfl
theorem adq(a0:ar):Cm n a0=(zg n a0).bind fun v1=>av (decide (v1>65536)) (some ([],41)) (some (a0,0)):=by kernel_rfl
theorem afF(a0:ar)(a1:Int):GV n (a0,a1)=av ((af a0:Int)==0) (some (a0,true)) (av (decide (a1>65536)) (some ([],false)) ((qt .i64 a1 16).bind fun v1=>(Bx 8 v1).bind fun v2=>(rm a1 16).bind fun v3=>(qc .i64 1 (ae .u64 v3)).bind fun v4=>(Ai n v4).bind fun v5=>(wT n (a0,v5)).bind fun v6=>(app 8 (ao v2 0) v6).bind fun v7=>(Cm n v7).bind fun v8=>some (v7,(v8.2==0)))):=by kernel_rfl
theorem Wd(a0:D4×fy)(a1:xw)(a2:ar)(a3:Int):oj n (a0,a1,a2,a3)=(av (decide (a3<0)) (some true) (some (decide (a3>8191)))).bind fun v1=>av v1 (some ([],260)) ((kQ n (a0,a1,a2)).bind fun v2=>av (v2.2 !=0) (some ([],v2.2)) ((av (decide ((ae .i64 (a1.2.1.2.2.2.2.1*(af a2:Int)))>(ae .i64 (8*a3)))) (some true) ((oi n (a1,a2)).bind fun v4=>av (!v4) ((tB n (a1,a2)).bind fun v5=>some (!v5)) (some false))).bind fun v3=>av v3 (some ([],0)) ((GV n (v2.1,(ae .i64 ((ae .i64 (8*a3)) -(ae .i64 (a1.2.1.2.2.2.2.1*(af a2:Int))))))).bind fun v6=>some (v6.1,0)))):=by kernel_rfl
theorem SN(a0:rY)(a1:Int):pf n (a0,a1)=av (decide (a1<(af a0.1:Int))) ((idx a0.1 a1).bind fun v1=>some v1) (some 0):=by kernel_rfl
end
section
variable (n k:Nat)
theorem Ld(a0 a1:rY):oB n (a0,a1)=av (decide ((af a0.1:Int)<(af a1.1:Int))) (some (-1)) (av (decide ((af a0.1:Int)>(af a1.1:Int))) (some 1) ((gT n n ((),(),(ae .i64 ((af a0.1:Int) -1)),a0,a1,())).bind fun v1=>cI v1 (fun v2=>some v2.1) (fun _=>some 0))):=by kernel_rfl
theorem tU(s5:Int)(o0 o1:rY):gT n (k+1) ((),(),s5,o0,o1,())=av (decide (s5≥0)) ((idx o0.1 s5).bind fun v1=>(idx o1.1 s5).bind fun v2=>av (decide (v1<v2)) (some (.inl ((-1),()))) ((idx o0.1 s5).bind fun v3=>(idx o1.1 s5).bind fun v4=>av (decide (v3>v4)) (some (.inl (1,()))) (gT n k ((),(),(ae .i64 (s5 -1)),o0,o1,())))) (some (.inr ())):=by kernel_rfl
theorem aA6(a0:Int):amU n a0=av (decide (a0<0)) (some (([],()),40)) ((Kb n (ae .u64 a0)).bind fun v1=>some (v1,0)):=by kernel_rfl
theorem aAw(a0:rY)(a1:Int):asy n (a0,a1)=(av (decide (a1<0)) (some true) ((qt .i64 a1 32).bind fun v2=>some (decide (v2≥(af a0.1:Int))))).bind fun v1=>av v1 (some 0) ((qt .i64 a1 32).bind fun v3=>(idx a0.1 v3).bind fun v4=>(rm a1 32).bind fun v5=>(ui .u32 v4 v5).bind fun v6=>some (ae .i64 (r9 .and .u32 v6 1))):=by kernel_rfl
theorem azp(a0:rY)(a1 a2:Int):apm n (a0,a1,a2)=(Bx 4 (ae .i64 ((af a0.1:Int)+1))).bind fun v1=>(al2 n n (a1,(),(),(),(ae .u64 a2),a0.1,(af a0.1:Int),0,a0,([],()),(ao v1 0),())).bind fun v2=>(ck (af v2.2.2.2.2.1.1:Int) (af v2.2.2.2.2.2.2.1)).bind fun v3=>((v2.2.2.2.2.2.2.1)[v3]?).bind fun _=>(pB n (aX v2.2.2.2.2.2.2.1 v3 (ae .u32 v2.2.2.2.1))).bind fun v5=>some v5:=by kernel_rfl
theorem asH(s1 s8:Int)(xH:ar)(wq qb:Int)(o0:rY)(pg o6:ar):al2 n (k+1) (s1,(),(),(),s8,xH,wq,qb,o0,(pg,()),o6,())=av (decide (qb<wq)) ((idx xH qb).bind fun v1=>(ck qb (af o6)).bind fun v2=>((o6)[v2]?).bind fun _=>(ui .u64 (ae .u64 (s8+(ae .u64 ((ae .u64 v1)*(ae .u64 s1))))) 32).bind fun v4=>al2 n k (s1,(),(),(),v4,xH,wq,(ae .i64 (qb+1)),o0,(pg,()),(aX o6 v2 (ae .u32 (ae .u64 (s8+(ae .u64 ((ae .u64 v1)*(ae .u64 s1))))))),())) (some ((),(),(),s8,o0,(pg,()),o6,())):=by kernel_rfl
theorem ayK(a0:rY)(a1:Int):aqz n (a0,a1)=(apm n (a0,2,a1)).bind fun v1=>some v1:=by kernel_rfl
theorem ayM(a0 a1 a2:Int):amn n (a0,a1,a2)=(ui .u32 (r9 .or .u32 (r9 .and .u32 (r9 .xor .u32 (ite ((fH .u32)=true) (-1) (IntKind.max .u32)) a0) a1) (r9 .and .u32 (r9 .xor .u32 (ite ((fH .u32)=true) (-1) (IntKind.max .u32)) (r9 .xor .u32 a0 a1)) (ae .u32 ((ae .u32 (a0 -a1)) -a2)))) 31).bind fun v1=>some ((ae .u32 ((ae .u32 (a0 -a1)) -a2)),v1):=by kernel_rfl
theorem aAx(a0 a1:rY):asz n (a0,a1)=(oB n (a0,a1)).bind fun v1=>av (decide (v1<0)) (some (([],()),40)) ((Bx 4 (af a0.1:Int)).bind fun v2=>(apr n n ((),(),(),(),0,(((af (ao v2 (0:Int))):Nat):Int),0,a0,a1,([],()),(ao v2 0),())).bind fun v3=>(pB n v3.2.2.2.1).bind fun v4=>some (v4,0)):=by kernel_rfl
theorem au8(s7 xH wq:Int)(o0 o1:rY)(akM o11:ar):apr n (k+1) ((),(),(),(),s7,xH,wq,o0,o1,(akM,()),o11,())=av (decide (wq<xH)) ((pf n (o0,wq)).bind fun v1=>(pf n (o1,wq)).bind fun v2=>(amn n (v1,v2,s7)).bind fun v3=>(ck wq (af o11)).bind fun v4=>((o11)[v4]?).bind fun _=>apr n k ((),(),(),(),v3.2,xH,(ae .i64 (wq+1)),o0,o1,(akM,()),(aX o11 v4 v3.1),())) (some ((),(),(akM,()),o11,())):=by kernel_rfl
theorem aAy(a0 a1:rY):ajS n (a0,a1)=av ((af a1.1:Int)==0) (some (([],()),([],()),42)) (av ((af a1.1:Int)==1) ((idx a1.1 0).bind fun v1=>(yT n (a0,v1)).bind fun v2=>(Kb n (ae .u64 v2.2)).bind fun v3=>some (v2.1,v3,0)) ((Bx 4 (af a0.1:Int)).bind fun v4=>(iX n a0).bind fun v5=>(aps n n ((),(),(),(),(),(),(ae .i64 (v5 -1)),a0,a1,([],()),([],()),(ao v4 0),([],()),())).bind fun v6=>(pB n v6.2.2.2.2.2.2.1).bind fun v7=>some (v7,v6.2.2.2.2.2.2.2.1,0))):=by kernel_rfl
theorem avc(ik:Int)(o0 o1:rY)(akM aE5 ZJ:ar)(Vz:rY):aps n (k+1) ((),(),(),(),(),(),ik,o0,o1,(akM,()),(aE5,()),ZJ,Vz,())=av (decide (ik≥0)) ((asy n (o0,ik)).bind fun v1=>(aqz n (Vz,(ae .u32 v1))).bind fun v2=>(oB n (v2,o1)).bind fun v3=>(av (decide (v3≥0)) ((asz n (v2,o1)).bind fun v5=>(qt .i64 ik 32).bind fun v6=>(ck v6 (af ZJ)).bind fun v7=>((ZJ)[v7]?).bind fun v8=>(rm ik 32).bind fun v9=>(qc .u32 1 v9).bind fun v10=>(ck v6 (af ZJ)).bind fun v11=>((ZJ)[v11]?).bind fun _=>some ((),(),(),(),(),(),ik,o0,o1,(akM,()),(aE5,()),(aX ZJ v11 (r9 .or .u32 v8 v10)),v5.1,())) (some ((),(),(),(),(),(),ik,o0,o1,(akM,()),(aE5,()),ZJ,v2,()))).bind fun v4=>aps n k ((),(),(),(),(),(),(ae .i64 (v4.2.2.2.2.2.2.1 -1)),v4.2.2.2.2.2.2.2)) (some ((),(),(),(),(akM,()),(aE5,()),ZJ,Vz,())):=by kernel_rfl
theorem aAE(a0 a1:rY):asA n (a0,a1)=(ajD n n ((),(),(),a0,a1,([],()),())).bind fun v1=>some v1.2.2.1:=by kernel_rfl
theorem aqf(o0 o1:rY)(akM:ar):ajD n (k+1) ((),(),(),o0,o1,(akM,()),())=av (decide ((af o1.1:Int)>0)) ((ajS n (o0,o1)).bind fun v1=>ajD n k ((),(),(),o1,v1.2.1,(akM,()),())) (some ((),(),o0,(akM,()),())):=by kernel_rfl
theorem ayf(a0 a1:rY):aw1 n (a0,a1)=av ((af a0.1:Int)==0) (some (([],()),[],())) ((asA n (a0,a1)).bind fun v1=>(ajS n (a0,v1)).bind fun v2=>(ajS n (a1,v1)).bind fun v3=>some (v2.1,v3.1)):=by kernel_rfl
theorem awd(a0 a1:rY):ajR n (a0,a1)=av ((af a1.1:Int)==0) (some ((([],()),[],()),42)) ((aw1 n (a0,a1)).bind fun v1=>some (v1,0)):=by kernel_rfl
theorem aAF(a0:D4×fy)(a1:xw)(a2:ar):amW n (a0,a1,a2)=(jl n (a0,a1,a2)).bind fun v1=>av (v1.2 !=0) (some ((([],()),[],()),v1.2)) ((amU n 1).bind fun v2=>(sX n (v2.1,(ae .i64 (a1.2.1.2.2.2.2.1*(af a2:Int))))).bind fun v3=>av (v3.2 !=0) (some ((([],()),[],()),v3.2)) ((ajR n (v1.1,v3.1)).bind fun v4=>some v4)):=by kernel_rfl
theorem aBM(a0 a1:ar):aqh n (a0,a1)=(asB n n (a0,a1,[],0,0,())).bind fun v1=>some v1.1:=by kernel_rfl
theorem awO(s0 s1 s5:ar)(s6 s7:Int):asB n (k+1) (s0,s1,s5,s6,s7,())=(av (decide (s7<(af s0:Int))) (some true) (av (decide (s7<(af s1:Int))) (some true) (some (decide (s6>0))))).bind fun v1=>av v1 ((GN n (s0,s7)).bind fun v2=>(GN n (s1,s7)).bind fun v3=>(rm (ae .i64 ((ae .i64 (v2+v3))+s6)) 65536).bind fun v4=>(app 8 s5 [v4]).bind fun v5=>(qt .i64 (ae .i64 ((ae .i64 (v2+v3))+s6)) 65536).bind fun v6=>asB n k (s0,s1,v5,v6,(ae .i64 (s7+1)),())) (some (s5,())):=by kernel_rfl
theorem aBN(a0:ar)(a1:Int):avw n (a0,a1)=(av (decide (a1<0)) (some true) ((qt .i64 a1 16).bind fun v2=>some (decide (v2≥(af a0:Int))))).bind fun v1=>av v1 (some 0) ((qt .i64 a1 16).bind fun v3=>(idx a0 v3).bind fun v4=>(rm a1 16).bind fun v5=>(ui .i64 v4 (ae .u64 v5)).bind fun v6=>some (r9 .and .i64 v6 1)):=by kernel_rfl
theorem azq(a0 a1:ar):apG n (a0,a1)=av ((af a0:Int)!=(af a1:Int)) (av (decide ((af a0:Int)<(af a1:Int))) (some (-1)) (some 1)) ((ajO n n (a0,a1,(ae .i64 ((af a0:Int) -1)),())).bind fun v1=>cI v1 (fun v2=>some v2.1) (fun _=>some 0)):=by kernel_rfl
theorem asL(s0 s1:ar)(s5:Int):ajO n (k+1) (s0,s1,s5,())=av (decide (s5≥0)) ((idx s0 s5).bind fun v1=>(idx s1 s5).bind fun v2=>av (decide (v1<v2)) (some (.inl ((-1),()))) ((idx s0 s5).bind fun v3=>(idx s1 s5).bind fun v4=>av (decide (v3>v4)) (some (.inl (1,()))) (ajO n k (s0,s1,(ae .i64 (s5 -1)),())))) (some (.inr ())):=by kernel_rfl
end
section
variable (n k:Nat)
theorem aBO(a0 a1:ar):avz n (a0,a1)=(asC n n (a0,a1,[],0,(af a0:Int),0,())).bind fun v1=>(wS n v1.1).bind fun v2=>some v2:=by kernel_rfl
theorem awP(s0 s1 s5:ar)(s6 ik lM:Int):asC n (k+1) (s0,s1,s5,s6,ik,lM,())=av (decide (lM<ik)) ((idx s0 lM).bind fun v1=>(GN n (s1,lM)).bind fun v2=>(av (decide ((ae .i64 ((ae .i64 (v1 -v2)) -s6))<0)) (some (1,(ae .i64 ((ae .i64 ((ae .i64 (v1 -v2)) -s6))+65536)))) (some (0,(ae .i64 ((ae .i64 (v1 -v2)) -s6))))).bind fun v3=>(app 8 s5 [v3.2]).bind fun v4=>asC n k (s0,s1,v4,v3.1,ik,(ae .i64 (lM+1)),())) (some (s5,())):=by kernel_rfl
theorem aBP(a0 a1:ar):aqi n (a0,a1)=(Bx 8 (af a0:Int)).bind fun v1=>(asD n n (a0,a1,(),[],(ae .i64 ((ae .i64 (16*(af a0:Int))) -1)),(ao v1 0),())).bind fun v2=>(wS n v2.2.2.1).bind fun v3=>some (v3,v2.2.1):=by kernel_rfl
theorem awR(s0 s1 s7:ar)(s8:Int)(o4:ar):asD n (k+1) (s0,s1,(),s7,s8,o4,())=av (decide (s8≥0)) ((aqh n (s7,s7)).bind fun v1=>(avw n (s0,s8)).bind fun v2=>(av (v2==1) ((aqh n (v1,[1])).bind fun v4=>some (s0,s1,(),v4,s8,o4,())) (some (s0,s1,(),v1,s8,o4,()))).bind fun v3=>(apG n (v3.2.2.2.1,v3.2.1)).bind fun v5=>(av (decide (v5≥0)) ((avz n (v3.2.2.2.1,v3.2.1)).bind fun v7=>(qt .i64 v3.2.2.2.2.1 16).bind fun v8=>(ck v8 (af v3.2.2.2.2.2.1)).bind fun v9=>((v3.2.2.2.2.2.1)[v9]?).bind fun v10=>(rm v3.2.2.2.2.1 16).bind fun v11=>(qc .i64 1 (ae .u64 v11)).bind fun E7=>(ck v8 (af v3.2.2.2.2.2.1)).bind fun Cq=>((v3.2.2.2.2.2.1)[Cq]?).bind fun _=>some (v3.1,v3.2.1,(),v7,v3.2.2.2.2.1,(aX v3.2.2.2.2.2.1 Cq (ae .i64 (v10+E7))),())) (some v3)).bind fun v6=>asD n k (v6.1,v6.2.1,(),v6.2.2.2.1,(ae .i64 (v6.2.2.2.2.1 -1)),v6.2.2.2.2.2)) (some ((),s7,o4,())):=by kernel_rfl
theorem aBQ(a0 a1:ar):avA n (a0,a1)=(akA n n (a0,a1,())).bind fun v1=>some v1.1:=by kernel_rfl
theorem asx(s0 s1:ar):akA n (k+1) (s0,s1,())=av (decide ((af s1:Int)>0)) ((aqi n (s0,s1)).bind fun v1=>akA n k (s1,v1.2,())) (some (s0,())):=by kernel_rfl
theorem aBe(a0 a1:ar):auC n (a0,a1)=(avA n (a0,a1)).bind fun v1=>(aqi n (a0,v1)).bind fun v2=>(aqi n (a1,v1)).bind fun v3=>some (v2.1,v3.1):=by kernel_rfl
theorem aAG(a0:D4×fy)(a1:xw)(a2:ar):ano n (a0,a1,a2)=(kQ n (a0,a1,a2)).bind fun v1=>av (v1.2 !=0) (some (([],[1]),v1.2)) ((GV n ([1],(ae .i64 (a1.2.1.2.2.2.2.1*(af a2:Int))))).bind fun v2=>(auC n (v1.1,v2.1)).bind fun v3=>some (v3,0)):=by kernel_rfl
theorem asW(a0:rY×rY):aqA n a0=av ((af a0.1.1:Int)==0) ((Kb n 1).bind fun v1=>some (([],()),v1)) (some a0):=by kernel_rfl
theorem auy(a0:rY×rY):agS n a0=(aqA n a0).bind fun v1=>(mh n v1.1).bind fun v2=>(cat v2 (ej (ByteArray.data (ByteArray.mk (aeZ [(47)]))))).bind fun v3=>(mh n v1.2).bind fun v4=>(cat v3 v4).bind fun v5=>some v5:=by kernel_rfl
theorem ayN(a0:D81):agZ n a0=(zd n a0.1).bind fun v1=>(cat v1 (ej (ByteArray.data (ByteArray.mk (aeZ [(47)]))))).bind fun v2=>(zd n a0.2).bind fun v3=>(cat v2 v3).bind fun v4=>some v4:=by kernel_rfl
theorem aw5(a0:D4×fy)(a1:xw)(a2:D79):agR n (a0,a1,a2)=(gE n ()).bind fun v1=>av (!v1) (some false) ((amW n (a0,a1,a2.1)).bind fun v2=>(oW n a0).bind fun v3=>(rC n a1).bind fun v4=>(ano n (v3,v4,a2.1)).bind fun v5=>(av (v2.2 !=v5.2) (some true) ((agS n v2.1).bind fun v7=>(agZ n v5.1).bind fun v8=>some (!(v7==v8)))).bind fun v6=>av v6 (some false) ((av (v2.2 !=0) (some true) ((n4 n (a1,a2.1)).bind fun v10=>av (!v10) (some true) (av (decide (a2.2<0)) (some true) (av (decide (a2.2>8191)) (some true) (some (decide ((ae .i64 (a1.2.1.2.2.2.2.1*(af a2.1:Int)))>(ae .i64 (8*a2.2))))))))).bind fun v9=>av v9 (some true) ((gD n (a0,a1,a2)).bind fun v11=>(amU n 1).bind fun E7=>(sX n (E7.1,(ae .i64 (8*a2.2)))).bind fun Cq=>(ajR n (v11.1,Cq.1)).bind fun Me=>(av (v11.2==0) (av (Cq.2==0) (av (Me.2==0) ((agS n Me.1).bind fun v16=>(agS n v2.1).bind fun v17=>some (v16==v17)) (some false)) (some false)) (some false)).bind fun ZA=>some ZA))):=by kernel_rfl
end
section
variable (n k:Nat)
theorem agb:aq prog 92 (Of n):=aL (X:=DO n) (cc (XL n) c0) func92
theorem ajc:aq prog 44 (R8 n):=aL (X:=zc n) (cc (agb n) c0) func44
end
section
variable (n k:Nat)
theorem ajg:aq prog 135 (Sd n):=aL (X:=GU n) c0 func135
theorem ak3:aq prog 95 (XE n):=aL (X:=XD n) (cc (ajg n) c0) func95
theorem am3:aq prog 52 (acN n):=aL (X:=acM n) (cc (adI n) (cc (XM n) (cc (ak3 n) c0))) func52
theorem adL:aq prog 55 (K4 n):=aL (X:=K0 n) c0 func55
end
section
variable (n k:Nat)
theorem S6:aq prog 23 (Cp n):=aL (X:=tD n) c0 func23
theorem ayP:aq prog 28 (awI n):=aL (X:=aDa n) (cc (arn n) c0) func28
theorem aCo:aq prog 141 (ay2 n):=aL (X:=ay1 n) c0 func141
theorem aBj:aq prog 187 (axf n):=aL (X:=as8 n) (cc (Fv n) c0) func187
theorem az4:aq prog 140 (avp n):=aL (X:=avo n) (cc (aBj n) c0) func140
theorem az6:aq prog 188 (avv n):=aL (X:=avq n) c0 func188
theorem aCp:aq prog 142 (ay3 n):=aL (X:=awe n) (cc (S6 n) (cc (adL n) (cc (az6 n) (cc (Fv n) c0)))) func142
theorem azl:aq prog 99 (awu n):=aL (X:=awh n) (cc (aiT n) (cc (arn n) (cc (tW n) (cc (aCo n) (cc (az4 n) (cc (S6 n) (cc (aCp n) (cc (Fv n) c0)))))))) func99
theorem aCq:aq prog 98 (ay4 n):=aL (X:=awA n) (cc (azl n) c0) func98
theorem aCO:aq prog 61 (azK n):=aL (X:=azG n) (cc (aCq n) (cc (azl n) c0)) func61
theorem ayQ:aq prog 30 (auH n):=aL (X:=ayl n) (cc (aCO n) c0) func30
theorem aCr:aq prog 24 (ay6 n):=aL (X:=ay5 n) (cc (IG n) (cc (ayP n) (cc (aiS n) (cc (ayQ n) c0)))) func24
theorem aDd:aq prog 136 (aAY n):=aL (X:=aym n) (cc (am2 n) c0) func136
theorem aDe:aq prog 137 (aA0 n):=aL (X:=aAZ n) c0 func137
theorem aBk:aq prog 138 (ax8 n):=aL (X:=atN n) c0 func138
end
section
variable (n k:Nat)
theorem aDf:aq prog 139 (aA1 n):=aL (X:=ayo n) (cc (am2 n) (cc (XL n) c0)) func139
theorem aA7:aq prog 97 (ayt n):=aL (X:=ays n) (cc (aDd n) (cc (aDe n) (cc (aBk n) (cc (aDf n) (cc (XL n) c0))))) func97
theorem aDg:aq prog 96 (aA2 n):=aL (X:=ayw n) (cc (aA7 n) c0) func96
theorem aCP:aq prog 58 (azP n):=aL (X:=azO n) (cc (aDg n) (cc (aA7 n) c0)) func58
theorem aCs:aq prog 25 (azf n):=aL (X:=aze n) (cc (II n) (cc (am3 n) (cc (aCP n) c0))) func25
theorem az9:aq prog 59 (av9 n):=aL (X:=avB n) (cc (arn n) c0) func59
theorem aAO:aq prog 26 (awK n):=aL (X:=awJ n) (cc (az9 n) (cc (Ll n) c0)) func26
theorem aAa:aq prog 27 (awb n):=aL (X:=awa n) (cc (ajc n) c0) func27
theorem ayY:aq prog 6 (acR n):=aL (X:=atO n) (cc (DX n) (cc (aCr n) (cc (PJ n) (cc (PK n) (cc (aCs n) (cc (aAO n) (cc (aAa n) (cc (Oq n) (cc (DW n) (cc (ayP n) (cc (aiS n) (cc (ayQ n) c0)))))))))))) func6
end
end Go.Am
namespace Go.Am.Pu
open Go Go.Am
theorem ij.take{B:Int}{l:List Int}(h:ij B l)(k:Nat):ij B (l.take k):=fun x i=>h x (cS i)
theorem LB{n:Nat}{d:Int}{x:List Int}(o:1≤d∧d≤65536)(hx:ij 65536 x)(l:x.length≤1000000000):
  ∀(m k:Nat) (r:Int) (out:List Int),m≤x.length→m<k→Quo 65536 d x out r m→
  ∃g a,rk n k (x,d,(),r,(m:Int) -1,out,())=some ((),g,a,())∧Quo 65536 d x a g 0
 |0,k,r,out,i,j,h=>by
  obtain⟨k,rfl⟩:=gU k;rw[Bb,bN0];exact⟨r,out,rfl,h⟩
 |m+1,k,r,out,i,j,h=>by
  obtain⟨k,rfl⟩:=gU k;have c:m<x.length:=by omega
  have q:=hx.at c;have u:=h.rr;obtain⟨b,w,y,p⟩:=h.step (by omega) (by omega) hx c;have e:m<out.length:=by rw[h.len];exact c
  rw[Bb,bP0];rw[show((m+1:Nat):Int) -1=(m:Int)by omega,bj c];simp only[aa];have t:=e7 b (show 0≤d by omega);rw[aN (x:=r*65536),aN (x:=r*65536+x[m])];rw[zh (by omega) (by rw[bV b];omega) (by rw[bV b];omega),kT,bV b,pq b,dO e];simp only[aa];rw[ai e];simp only[aa];rw[aN (x:=(m:Int) -1)];exact LB o hx l m k _ _ (by omega) (by omega) p
theorem apO{n:Nat}{d:Int}{x:List Int}(e:1≤d∧d≤65536)(hx:Can 65536 x)(h:x.length≤1000000)(j:Hn0 n):
  ∃q,wn n (x,d)=some (q,vz 65536 x % d)∧Can 65536 q∧vz 65536 q=vz 65536 x/d∧q.length≤x.length:=by
 rw[Wb,fX (m:=x.length) rfl (by omega) (by omega)];simp only[aa];obtain⟨r,b,g,a⟩:=LB (n:=n) (d:=d) (x:=x) e hx.1 (by omega) x.length n 0 (ao x.length 0) (az _) (by omega)
  ⟨by simp,ij.rep (by omega) _,⟨by omega,by omega⟩,by rw[bA (az _),bA (by simp)];simp[vz]⟩
 rw[aN (x:=(x.length:Int) -1),g];simp only[aa];have i:=a.len;have c:=a.fin (by omega);rw[aoM (by omega) (by omega)];simp only[aa];rw[c.2];refine⟨_,rfl,qE a.dig,by rw[wy];exact c.1,?_⟩;have:=xl b;omega
theorem at5{d:Int}(a:0≤d)(b:d<10):bytesOf [ae .u8 (ae .i64 (48+d))]=[UInt8.ofNat (48+d.toNat)]:=by
 rw[aN,wu8];show[UInt8.ofNat (48+d).toNat]=_;rw[Int.toNat_add (by omega) a];rfl
theorem apP{P:List Int}{d:Int}:[UInt8.ofNat (48+d.toNat)]++Wt P=Wt (P++[d]):=by
 unfold Wt;simp
theorem arP(P:List Int):(Wt P).length=P.length:=by unfold Wt;simp
theorem OC{n:Nat}{x:List Int}:∀(m k j:Nat) (P:List Int) (r:Int),j+m=4→m<k→P.length+m≤1000000000→0≤r→r<10^m→ij 10 P→
  ∃Q,tr n k (x,Wt P,r,(j:Int),())=some (x,Wt (P++Q),())∧ij 10 Q∧vz 10 Q=r∧(x≠[]→Q.length=m)∧Q.length≤m∧(x=[]→Can 10 Q)
 |0,k,j,P,r,u,w,y,b,d,i=>by
  obtain⟨k,rfl⟩:=gU k;rw[CT,bN0];have:r=0:=by simp at d;omega
  subst this;exact⟨[],by simp[av],ij.nil,rfl,fun _=>rfl,az _,fun _=>Can.nil⟩
 |m+1,k,j,P,r,u,w,y,b,d,i=>by
  obtain⟨k,rfl⟩:=gU k;rw[CT,bP0]
  by_cases a:x=[]∧r=0
  ·obtain⟨rfl,rfl⟩:=a;exact⟨[],by simp[av],ij.nil,rfl,fun h=>absurd rfl h,Nat.zero_le _,fun _=>Can.nil⟩
  ·have e:av (decide ((x.length:Int)>0)) (some true) (some (decide (r>0)))=some true:=by
    rw[ag]
    split
    ·rfl
    ·rename_i h;rw[bx]at h;have H:x=[]:=List.length_eq_zero_iff.1 (by omega);congr 1;rw[bx];have:r≠0:=fun h=>a ⟨H,h⟩;omega
   rw[e];simp only[aa,ag,if_true];rw[kT,pq b];simp only[aa];rw[at5 (by omega) (by omega),abt (by rw[arP];simp;omega),apP];simp only[aa];have c:r/10<10^m:=by rw[c9]at d;omega
   have p:r≤9223372036854775807:=by
    have z:(10:Nat)^(m+1)≤10^4:=Nat.pow_le_pow_right (by omega) (by omega);have J:(10:Int)^(m+1)≤10^4:=by exact_mod_cast z
    have:(10:Int)^4=10000:=rfl;omega
   rw[zh (by omega) (by rw[bV b];omega) (by rw[bV b];omega),bV b];simp only[aa];rw[aN,show(j:Int)+1=((j+1:Nat):Int)by omega]
   by_cases K:P.length+1≤1000000000
   ·obtain⟨Q,E,D,q,F,g,B⟩:=OC (n:=n) (x:=x) m k (j+1) (P++[r % 10]) (r/10) (by omega) (by omega) (by simp;omega) (by omega) c (i.app (ij.cons (by omega) (by omega) ij.nil));rw[E];refine⟨r % 10::Q,by simp,ij.cons (by omega) (by omega) D,?_,fun h=>by simp[F h],by simpa using g,fun h=> ?_⟩
    ·show r % 10+10*vz 10 Q=r;rw[q];omega
    ·by_cases o:Q=[]
     ·subst o;refine⟨ij.cons (by omega) (by omega) ij.nil,fun _=> ?_⟩;have I:r/10=0:=by rw[←q];rfl
      have:r≠0:=fun t=>a ⟨h,t⟩;simp;omega
     ·exact Can.app (l:=[r % 10]) (ij.cons (by omega) (by omega) ij.nil) (B h) o
   ·omega
theorem LC{n V:Nat}(F:0<V)(y:Hn0 n):∀(k:Nat) (x P:List Int),Can 65536 x→x.length≤1000000→ij 10 P→jA (vz 65536 x)<k→
  P.length+4*jA (vz 65536 x)≤900000000→vz 10 P+10^P.length*vz 65536 x=(V:Int)→(x=[]→Can 10 P)→
  ∃Q,tq n k (x,Wt P,())=some (Wt Q,())∧Can 10 Q∧vz 10 Q=(V:Int)
 |0,x,P,_,_,_,h,_,_,_=>by omega
 |k+1,x,P,z,u,p,T,U,t,J=>by
  rw[SL];simp only[ag,bx]
  split
  ·rename_i o;have g:x≠[]:=by intro h;rw[h]at o;simp at o
   have j:=alJ (by omega) z g;obtain⟨q,K,M,e,N⟩:=apO (n:=n) (d:=10000) (x:=x) ⟨by omega,by omega⟩ z u y;rw[K];simp only[aa];obtain⟨Q,w,D,l,R,S,B⟩:=OC (n:=n) (x:=q) 4 n 0 P (vz 65536 x % 10000) (by omega) (by omega) (by omega) (by omega) (by have:(10:Int)^4=10000:=rfl;omega) p;rw[show((0:Nat):Int)=0 from rfl]at w;rw[w];simp only[aa];have L:=aho (v:=vz 65536 x) (d:=10000) j (by omega);rw[←e]at L;refine LC F y k q (P++Q) M (by omega) (p.app D) (by omega) (by rw[ah];omega) ?_ ?_
   ·by_cases c:q=[]
    ·subst c;have O:vz 65536 x/10000=0:=by rw[←e];rfl
     rw[Ea,l,←t,show vz 65536 []=0 from rfl,Int.mul_zero,Int.add_zero,show vz 65536 x % 10000=vz 65536 x by omega]
    ·rw[Ea,l,ah,R c,abe,e,←t];have E:(10:Int)^4=10000:=rfl;rw[E];have i:=dN (vz 65536 x) 10000;obtain⟨a,H⟩:∃a,a=vz 65536 x/10000:=⟨_,rfl⟩;obtain⟨b,I⟩:∃b,b=vz 65536 x % 10000:=⟨_,rfl⟩;rw[←H,←I]at i ⊢;rw[←i]
     grind
   ·intro c;have O:vz 65536 x/10000=0:=by rw[←e,c];rfl
    have r:Q≠[]:=by
     intro h;rw[h]at l;have:(0:Int)=vz 65536 x % 10000:=l;omega
    exact Can.app p (B c) r
  ·rename_i o;have g:x=[]:=List.length_eq_zero_iff.1 (by omega);refine⟨P,rfl,J g,?_⟩;rw[←t,g];simp[vz]
theorem arQ{n:Nat}{x:List Int}(hx:Can 65536 x)(c:x.length≤1000000)(j:Hn0 n):
  ∃s,zd n x=some s∧Lz (vz 65536 x) s:=by
 rw[aar];simp only[ag,beq_iff_eq]
 split
 ·rename_i h;have a:x=[]:=List.length_eq_zero_iff.1 (by omega);subst a;exact⟨_,rfl,.inl ⟨rfl,rfl⟩⟩
 ·rename_i h;have a:x≠[]:=by intro e;rw[e]at h;simp at h
  have b:=alJ (by omega) hx a;have i:jA (vz 65536 x)≤16*x.length:=Hk (by
   have:(65536:Int)^x.length=2^(16*x.length):=by rw[Int.pow_mul];rfl
   rw[←this];exact XU (by omega) hx.1)
  obtain⟨Q,d,g,k⟩:=LC (n:=n) (V:=(vz 65536 x).toNat) (by omega) j n x [] hx c ij.nil (by omega) (by simp;omega) (by simp[vz];omega) (fun h=>absurd h a);rw[show Wt []=[]from rfl]at d;rw[d];exact⟨_,rfl,.inr ⟨b,Q,g,by omega,rfl⟩⟩
theorem OD{n:Nat}:∀(m k:Nat) (c v:Int),0≤v→v<2^m→v≤1000000→m<k→0≤c→c+m≤1000000000→∃b,tC n k (c,v,())=some (b,())
 |0,k,c,v,a,d,_,e,_,_=>by
  obtain⟨k,rfl⟩:=gU k;rw[CZ,ag,if_neg (by rw[bx];simp at d;omega)];exact⟨c,rfl⟩
 |m+1,k,c,v,a,d,i,e,g,h=>by
  obtain⟨k,rfl⟩:=gU k;rw[CZ,ag]
  split
  ·rw[zh (by omega) (by rw[bV a];omega) (by rw[bV a];omega),bV a];simp only[aa];rw[aN];rw[c9]at d;exact OD m k _ _ (by omega) (by omega) (by omega) (by omega) (by omega) (by omega)
  ·exact⟨c,rfl⟩
theorem arS{n:Nat}{x:List Int}(hx:ij 65536 x)(d:x.length≤10000000)(g:Hn0 n):∃b,zg n x=some b:=by
 rw[aax,ag]
 split
 ·exact⟨0,rfl⟩
 ·rename_i h;rw[beq_iff_eq]at h;have c:x.length -1<x.length:=by omega
  have a:=hx.at c;rw[aN (x:=(x.length:Int) -1),show(x.length:Int) -1=((x.length -1:Nat):Int)by omega,bj c];simp only[aa];obtain⟨b,e⟩:=OD (n:=n) 16 n (16*((x.length -1:Nat):Int)) x[x.length -1] a.1 (by simpa using a.2) (by omega) (by omega) (by omega) (by omega);rw[aN,e];exact⟨b,rfl⟩
theorem awq{n:Nat}{x:List Int}{N:Nat}(hx:Can 65536 x)(J:x.length≤10000)(I:N≤65536)(q:Hn0 n):
  ∃z f,GV n (x,(N:Int))=some (z,f)∧Can 65536 z∧vz 65536 z=vz 65536 x*2^N∧z.length≤x.length+N/16+4:=by
 rw[afF,ag]
 by_cases i:x=[]
 ·subst i;rw[if_pos (by rfl)];exact⟨[],true,rfl,Can.nil,by simp[vz],by simp⟩
 rw[if_neg (by rw[beq_iff_eq];have:=List.length_pos_iff.2 i;omega),bN0];have j:qt .i64 (N:Int) 16=some ((N/16:Nat):Int):=by rw[zh (by omega) (by rw[bV];omega) (by rw[bV];omega),bV];congr 1
 have k:rm (N:Int) 16=some ((N % 16:Nat):Int):=by rw[kT,pq];congr 1
 rw[j,k];simp only[aa];rw[fX (m:=N/16) rfl (by omega) (by omega)];simp only[aa];have K:=rn (s:=N % 16) (by omega);have o:qc .i64 1 (ae .u64 ((N % 16:Nat):Int))=some (2^(N % 16)):=by
  rw[Eb];unfold qc;rw[gk,ax,show min (N % 16) (b9 .i64)=N % 16 by show min (N % 16) 64=_;omega,Int.one_mul,aN]
 rw[o];simp only[aa];obtain⟨y,B,D,t,L⟩:=arN (n:=n) (by omega) (v:=2^(N % 16)) (by omega) (by omega);rw[B];simp only[aa];obtain⟨z,E,F,p,M⟩:=aoN (n:=n) hx.1 D.1 (by omega) q;rw[E];simp only[aa];rw[dU (by rw[aU];omega) (by omega)];simp only[aa];have e:=alJ (by omega) hx i;have g:z≠[]:=by
  intro h;rw[h,t]at p;have:(0:Int)=vz 65536 x*2^(N % 16):=p;have:=Int.mul_pos e (show(0:Int)<2^(N % 16)by omega);omega
 have a:Can 65536 (ao (N/16) 0++z):=Can.app (ij.rep (by omega) _) F g;obtain⟨b,c⟩:=arS (n:=n) a.1 (by rw[ah,aU];omega) q;have d:∃r,Cm n (ao (N/16) 0++z)=some r:=by
  rw[adq,c];simp only[aa];rw[ag]
  split
  ·exact⟨_,rfl⟩
  ·exact⟨_,rfl⟩
 obtain⟨H,l⟩:=d;rw[l];refine⟨_,_,rfl,a,?_,by rw[ah,aU];omega⟩;rw[Ea,ajy,aU,p,t];have u:(65536:Int)^(N/16)=2^(16*(N/16)):=by rw[Int.pow_mul];rfl
 have w:(2:Int)^N=2^(16*(N/16))*2^(N % 16):=by rw[←abe];congr 1;omega
 rw[u,w]
 grind
theorem alP{n:Nat}{x:List Int}{i:Nat}:pf n ((x,()),(i:Int))=some (x.getD i 0):=by
 rw[SN,ag]
 by_cases h:i<x.length
 ·rw[if_pos (by rw[bx];show(i:Int)<(x.length:Int);omega)];show(idx x (i:Int)).bind _=_;rw[bj h,aa,aB,ai h];rfl
 ·rw[if_neg (by rw[bx];show ¬ (i:Int)<(x.length:Int);omega),aB,bd (by omega)];rfl
theorem aeg{B:Int}{l:List Int}{i:Nat}:vz B (l.take (i+1))=vz B (l.take i)+B^i*l.getD i 0:=by
 by_cases h:i<l.length
 ·rw[Mp h,aB,ai h];rfl
 ·rw[aB,bd (by omega),aR (by omega),aR (by omega)];simp
theorem ij.getD{B:Int}(j:0<B){l:List Int}(h:ij B l)(i:Nat):0≤l.getD i 0∧l.getD i 0<B:=by
 rw[aB]
 by_cases c:i<l.length
 ·rw[ai c];exact h.at c
 ·rw[bd (by omega)];exact⟨Int.le_refl _,j⟩
theorem Ww{B:Int}(c:0<B){a b:Nat}(h:a≤b):B^a≤B^b:=by
 obtain⟨d,rfl⟩:∃d,b=a+d:=⟨b -a,by omega⟩;have e:=xj c a;have g:=xj c d;rw[abe];have:=ci (show(1:Int)≤B^d by omega) (show 0≤B^a by omega);omega
theorem arU{B:Int}(a:0<B){x y:List Int}{j:Nat}(hx:ij B x)(h:ij B y)(d:j<x.length)(e:j<y.length)(g:x.drop (j+1)=y.drop (j+1))(k:x[j]<y[j]):vz B x<vz B y:=by
 have b:vz B x=vz B (x.take j)+B^j*(x[j]+B*vz B (x.drop (j+1))):=by
  rw[←ajA d];have:=Ea (B:=B) (x.take j) (x.drop j);rw[bM,aC,Nat.min_eq_left (by omega)]at this;exact this
 have c:vz B y=vz B (y.take j)+B^j*(y[j]+B*vz B (y.drop (j+1))):=by
  rw[←ajA e];have:=Ea (B:=B) (y.take j) (y.drop j);rw[bM,aC,Nat.min_eq_left (by omega)]at this;exact this
 have t1:=XU a (hx.take j);rw[aC,Nat.min_eq_left (by omega)]at t1;have t2:=vj a (h.take j);have i:=xj a j;rw[b,c,g];have:=ci (show x[j]+B*vz B (y.drop (j+1))+1≤y[j]+B*vz B (y.drop (j+1))by omega) (show 0≤B^j by omega);rw[Int.mul_add (B^j) _ 1,Int.mul_one]at this;omega
theorem arV{B:Int}(g:1<B){x y:List Int}(hx:Can B x)(a:Can B y)(h:x.length<y.length):vz B x<vz B y:=by
 have b:=XU (by omega) hx.1;have c:=arH (by omega) a (by intro e;subst e;simp at h);have d:B^x.length≤B^(y.length -1):=Ww (by omega) (by omega);omega
theorem FH{n:Nat}{x y:List Int}(hx:ij 4294967296 x)(g:ij 4294967296 y)(o:x.length=y.length)(l:x.length≤1000000000):∀(j k:Nat),j≤x.length→j<k→x.drop j=y.drop j→
  (∃c,gT n k ((),(),(j:Int) -1,(x,()),(y,()),())=some (.inl (c,()))∧(c= -1∧vz 4294967296 x<vz 4294967296 y∨c=1∧vz 4294967296 y<vz 4294967296 x))∨
  (gT n k ((),(),(j:Int) -1,(x,()),(y,()),())=some (.inr ())∧x=y)
 |0,k,h,i,b=>by
  obtain⟨k,rfl⟩:=gU k;right;rw[tU,ag,if_neg (by simp)];exact⟨rfl,by simpa using b⟩
 |j+1,k,h,i,b=>by
  obtain⟨k,rfl⟩:=gU k;have e:j<x.length:=by omega
  have a:j<y.length:=by omega
  rw[show((j+1:Nat):Int) -1=(j:Int)by omega,tU,bP0];show(∃c,(idx x (j:Int)).bind _=_∧_)∨((idx x (j:Int)).bind _=_∧_);rw[bj e,aa];show(∃c,(idx y (j:Int)).bind _=_∧_)∨((idx y (j:Int)).bind _=_∧_);rw[bj a,aa,ag]
  by_cases c:x[j]<y[j]
  ·left;rw[if_pos (by rw[bx];exact c)];exact⟨-1,rfl,.inl ⟨rfl,arU (by decide) hx g e a b c⟩⟩
  ·rw[if_neg (by rw[bx];exact c)];simp only[aa];rw[ag]
   by_cases d:x[j]>y[j]
   ·left;rw[if_pos (by rw[bx];exact d)];exact⟨1,rfl,.inr ⟨rfl,arU (by decide) g hx a e b.symm d⟩⟩
   ·rw[if_neg (by rw[bx];exact d),aN];refine FH hx g o l j k (by omega) (by omega) ?_;rw[bi e,bi a,b,show x[j]=y[j]by omega]
theorem alQ{n:Nat}{x y:List Int}(hx:Can 4294967296 x)(d:Can 4294967296 y)(i:x.length≤1000000000)(j:Hn0 n):
  ∃c,oB n ((x,()),(y,()))=some c∧(c= -1∧vz 4294967296 x<vz 4294967296 y∨c=0∧vz 4294967296 x=vz 4294967296 y∨c=1∧vz 4294967296 y<vz 4294967296 x):=by
 rw[Ld,ag]
 by_cases e:x.length<y.length
 ·rw[if_pos (by rw[bx];show(x.length:Int)<(y.length:Int);omega)];exact⟨-1,rfl,.inl ⟨rfl,arV (by decide) hx d e⟩⟩
 ·rw[if_neg (by rw[bx];show ¬ (x.length:Int)<(y.length:Int);omega),ag]
  by_cases g:y.length<x.length
  ·rw[if_pos (by rw[bx];show(x.length:Int)>(y.length:Int);omega)];exact⟨1,rfl,.inr (.inr ⟨rfl,arV (by decide) d hx g⟩)⟩
  ·rw[if_neg (by rw[bx];show ¬ (x.length:Int)>(y.length:Int);omega)];show ∃c,(gT n n ((),(),ae .i64 ((x.length:Int) -1),(x,()),(y,()),())).bind _=_∧_;rw[aN];rcases FH (n:=n) hx.1 d.1 (by omega) i x.length n (az _) (by omega) (by rw[List.drop_length,show x.length=y.length by omega,List.drop_length])with⟨c,a,b⟩|⟨a,b⟩
   ·rw[a,aa];refine⟨c,rfl,?_⟩;rcases b with h |h
    ·exact .inl h
    ·exact .inr (.inr h)
   ·rw[a,aa];exact⟨0,rfl,.inr (.inl ⟨rfl,by rw[b]⟩)⟩
def MP(r:Rq)(l:List Int):Bool:=decide (TT l<0∧(l.length:Int)<r.2.2.1)
theorem an7{n:Nat}{r:Rq}{l:List Int}(a:l.length≤1000000000)(b:Hn0 n):yS n (r,l)=some (MP r l):=by
 rw[Z4,qA,TU a b,aa,aa,fw,aa];unfold MP;congr 1;rw[Bool.eq_iff_iff,ak,aZ,decide_eq_false_iff_not,bx,bx];omega
theorem aeJ{n:Nat}{r:Rq}{l:List Int}(a:l.length≤1000000000)(b:Hn0 n):tB n (r,l)=some (MP r l):=by
 rw[aaw,ahG a b,aa,fw,aa];unfold MP;congr 1;rw[Bool.eq_iff_iff,ak,bx,bx,bx]
noncomputable def tpI(n:Nat)(m:Mod)(r:Rq)(said:List Int)(y:Int):Int:=
 if r.2.1.2.2.2.2.1*said.length≤8*y∧(agm r said||MP r said)=true then kr (Ho n m r said)*2^(8*y -r.2.1.2.2.2.2.1*said.length).toNat else 0
theorem ase{n:Nat}{m:Mod}{r:Rq}{said:List Int}{y:Int}(hm:MO m)(M:OkR r)(X:said.length≤1048576)(b:Hn0 n):
  (¬ (0≤y∧y≤8191∧uF m r said)∧∃e,e≠0∧gD n (m,r,said,y)=some (([],()),e)∧oj n (m,r,said,y)=some ([],e))∨
  ((0≤y∧y≤8191∧uF m r said)∧∃z E,gD n (m,r,said,y)=some ((z,()),0)∧oj n (m,r,said,y)=some (E,0)∧Can 4294967296 z∧Can 65536 E∧
   vz 4294967296 z=tpI n m r said y∧vz 65536 E=tpI n m r said y∧z.length≤100000∧E.length≤100000):=by
 rw[Fi,Wd,eC,aa,aa,ag,ag]
 by_cases c:0≤y∧y≤8191
 ·rw[if_neg (by rw[aD,bx,bx];omega),if_neg (by rw[aD,bx,bx];omega)];rcases prods (n:=n) hm M X b with⟨O,e,l,I,F⟩|⟨H,z,E,l,I,F,Q,J,R,h8⟩
  ·left;refine⟨fun h=>O h.2.2,e,l,?_,?_⟩
   ·rw[I,aa];show av (e !=0) _ _=_;rw[show(e !=0)=true by simpa using l,ii]
   ·rw[F,aa];show av (e !=0) _ _=_;rw[show(e !=0)=true by simpa using l,ii]
  ·right;refine⟨⟨c.1,c.2,H⟩,?_⟩;have hl:=H.len;have a:=H.w.p.bits;obtain⟨B,S⟩:∃B,B=r.2.1.2.2.2.2.1:=⟨_,rfl⟩;have j:=aeL hm M H b;unfold tpI;rw[l,I,aa,aa];show ∃y1 y2,av ((0:Int)!=0) _ _=_∧av ((0:Int)!=0) _ _=_∧_;rw[show((0:Int)!=0)=false from rfl,bU,bU];rw[←S]at a j ⊢;have W:=LQ a;rw[aeK a c.1 c.2,aa,LP (by omega) b,Yf (by omega) b,an7 (by omega) b,aeJ (by omega) b];simp only[aa];obtain⟨P,q⟩:∃P,P=B*(said.length:Int):=⟨_,rfl⟩;have U:0≤P:=by rw[q];exact cp (by omega) (by omega)
   have V:P≤32*512:=by rw[q];exact dA (by omega) (by omega) (by omega) (by omega)
   have K:B.toNat*said.length=P.toNat:=by
    have:((B.toNat*said.length:Nat):Int)=P:=by rw[q,Int.natCast_mul,Int.toNat_of_nonneg (by omega)]
    omega
   have D:(said.length:Int)>8*y/B↔8*y<P:=by
    rw[q,aa5 B];exact Int.ediv_lt_iff_lt_mul (show 0<B by omega)
   rw[K]at j;rw[←q,aN (x:=8*y),aN (x:=P),aN (x:=8*y -P)];have i:∀f o:Bool,av (!f) (some (!o)) (some false)=some (!(f||o)):=by decide
   rw[i];rw[eC,eC,aa,aa];have t:decide ((said.length:Int)>8*y/B)=decide (P>8*y):=decide_eq_decide.2 D;rw[t]
   by_cases d:P≤8*y∧(agm r said||MP r said)=true
   ·rw[if_pos d];have g:(decide (P>8*y)|| !(agm r said||MP r said))=false:=by
     rw[d.2,decide_eq_false (by omega)];rfl
    rw[g,bU,bU];obtain⟨N,T⟩:∃N:Nat,8*y -P=(N:Int):=⟨(8*y -P).toNat,by omega⟩;rw[T,ax];have L:=Tt j.2;rw[←J]at L;have Y:=xm F (k:=P.toNat+1) (by rw[J,c9];have:(0:Int)<2^P.toNat:=ed (by decide);omega);obtain⟨u,Z,u2,u3,u4⟩:=arR (n:=n) (N:=N) F (by omega) b (.inr (by omega));obtain⟨v,f,v1,v2,v3,v4⟩:=awq (n:=n) (N:=N) Q (by omega) (by omega) b;rw[Z,v1];refine⟨u,v,rfl,rfl,u2,v2,by rw[u3,J],by rw[v3,R],by omega,by omega⟩
   ·rw[if_neg d];have g:(decide (P>8*y)|| !(agm r said||MP r said))=true:=by
     rw[aD,bx,aZ]
     by_cases d1:P≤8*y
     ·right;rw[←ew];exact fun h=>d ⟨d1,h⟩
     ·left;omega
    rw[g,ii,ii];exact⟨[],[],rfl,rfl,Can.nil,Can.nil,rfl,rfl,by simp,by simp⟩
 ·left;refine⟨fun h=>c ⟨h.1,h.2.1⟩,260,by decide,?_,?_⟩
  ·rw[if_pos (by rw[aD,bx,bx];omega)]
  ·rw[if_pos (by rw[aD,bx,bx];omega)]
theorem asr{l:List Int}(h:bt aoa l≤1048576):l.length≤1048576:=by
 have:=aso l;omega
structure aEu (m a:Int) (x out:List Int) (c:Int) (i:Nat):Prop where
 dig:ij 4294967296 out
 cr:0≤c∧c<4294967296
 v:vz 4294967296 (out.take i)+4294967296^i*c=m*vz 4294967296 (x.take i)+a
theorem aEu.step{m a:Int}{x out:List Int}{c:Int}{i:Nat}(h:aEu m a x out c i)(hm:0≤m∧m<4294967296)(hx:ij 4294967296 x)(hi:i<out.length)(j:i<x.length):
  0≤c+x[i]*m∧c+x[i]*m<18446744073709551616∧aEu m a x (out.set i ((c+x[i]*m) % 4294967296)) ((c+x[i]*m)/4294967296) (i+1):=by
 obtain⟨D,E,L⟩:=h;have I:=hx.at j;have y:=FE (B:=4294967296) (o:=0) (p:=x[i]) (q:=m) (c:=c) (by decide) ⟨by decide,by decide⟩ I hm E;rw[Int.zero_add,Int.add_comm (x[i]*m) c]at y;obtain⟨T,H⟩:∃T,T=c+x[i]*m:=⟨_,rfl⟩;rw[←H]at y ⊢;refine⟨y.2.1,by omega,D.set (by omega) (by omega),y.2.2.2,?_⟩;have e:(out.set i (T % 4294967296)).getD i 0=T % 4294967296:=by
  rw[aB,fl hi];rfl
 rw[aeg,Mp j,e,List.take_set,List.set_eq_of_length_le (by rw[aC];omega),c9];have d:T % 4294967296+4294967296*(T/4294967296)=T:=aeX _ _;obtain⟨u,J⟩:∃u,u=T % 4294967296:=⟨_,rfl⟩;obtain⟨w,K⟩:∃w,w=T/4294967296:=⟨_,rfl⟩;rw[←J,←K]at d ⊢;generalize(4294967296:Int)^i=P at*
 grind
theorem ayS{n:Nat}{m a:Int}{x o1:List Int}(hm:0≤m∧m<4294967296)(hx:ij 4294967296 x)(t:x.length≤1000000000):∀(q k i:Nat) (c:Int) (out:List Int),i+q=x.length→q<k→out.length=x.length+1→aEu m a x out c i→
  ∃j b,al2 n k (m,(),(),(),c,x,(x.length:Int),(i:Int),(x,()),(o1,()),out,())=some ((),(),(),j,(x,()),(o1,()),b,())∧b.length=x.length+1∧aEu m a x b j x.length
 |0,k,i,c,out,p,r,g,e=>by
  obtain⟨k,rfl⟩:=gU k;rw[asH,bN0];have:i=x.length:=by omega
  subst this;exact⟨c,out,rfl,g,e⟩
 |q+1,k,i,c,out,p,r,g,e=>by
  obtain⟨k,rfl⟩:=gU k;have h:i<out.length:=by omega
  have d:i<x.length:=by omega
  have u:=hx.at d;obtain⟨g1,l,o⟩:=e.step hm hx h d;have y:=e.cr;have w:0≤x[i]*m:=cp u.1 hm.1;rw[asH,bP0,bj d,aa,dO h,aa,ai h,aa,Eb (x:=x[i]),Eb (x:=m),Eb (x:=x[i]*m),Eb (x:=c+x[i]*m) g1 l,aoK,aa,alH,aN,show(i:Int)+1=((i+1:Nat):Int)by omega];exact ayS hm hx t q k (i+1) _ _ (by omega) (by omega) (by rw[aO];exact g) o
theorem aD4{n:Nat}{m a:Int}{x:List Int}(hm:0≤m∧m<4294967296)(j:0≤a∧a<4294967296)(hx:Can 4294967296 x)(o:x.length≤1000000)(p:Hn0 n):
  ∃z,apm n ((x,()),m,a)=some (z,())∧Can 4294967296 z∧vz 4294967296 z=m*vz 4294967296 x+a∧z.length≤x.length+1:=by
 rw[azp];show ∃z,(Bx 4 (ae .i64 ((x.length:Int)+1))).bind _=_∧_;rw[aN,fX (m:=x.length+1) (by omega) (by omega) (by omega),aa,Eb];obtain⟨c,b,g,l,h⟩:=ayS (n:=n) (m:=m) (a:=a) (x:=x) (o1:=[]) hm hx.1 (by omega) x.length n 0 a (ao (x.length+1) 0) (by omega) (by omega) aU ⟨ij.rep (by decide) _,j,by simp[vz]⟩;rw[show((0:Nat):Int)=0 from rfl]at g;rw[g,aa];have d:x.length<b.length:=by omega
 show ∃z,(ck (x.length:Int) b.length).bind _=_∧_;rw[dO d,aa];show ∃z,(b[x.length]?).bind _=_∧_;rw[ai d,aa];obtain⟨d1,d2,d3⟩:=h;simp only;rw[anF d2.1 d2.2,Tr (by rw[aO];omega) (by rw[aO];omega),aa];have k:=d1.set (i:=x.length) d2.1 d2.2;refine⟨_,rfl,qE k,?_,by have:=xl (b.set x.length c);rw[aO]at this;omega⟩;rw[wy];have e:(b.set x.length c).getD x.length 0=c:=by
  rw[aB,fl d];rfl
 have f:vz 4294967296 ((b.set x.length c).take (x.length+1))=vz 4294967296 ((b.set x.length c).take x.length)+4294967296^x.length*c:=by rw[aeg,e]
 rw[aR (by rw[aO];omega),List.take_set,show(b.take x.length).set x.length c=b.take x.length from List.set_eq_of_length_le (by rw[aC];omega),d3,aR (az _)]at f;exact f
theorem aDE{B:Int}(a:0<B){x:List Int}(hx:ij B x){j:Nat}(h:j≤x.length):vz B x/B^j=vz B (x.drop j):=by
 have:=Ea (B:=B) (x.take j) (x.drop j);rw[bM,aC,Nat.min_eq_left h]at this;have t1:=XU a (hx.take j);rw[aC,Nat.min_eq_left h]at t1;have t2:=vj a (hx.take j);rw[this,Int.add_mul_ediv_left _ _ (by have:=xj a j;omega),ae7 t2 t1,Int.zero_add]
theorem aE8{d W:Int}{w s:Nat}(a:s<w):(d+2^w*W)/2^s % 2=d/2^s % 2:=by
 obtain⟨e,rfl⟩:∃e,w=s+(e+1):=⟨w -s -1,by omega⟩;rw[abe,ae8,Int.add_mul_ediv_left _ _ (by have:=ed (n:=2) (m:=s) (by decide);omega),c9,aa5 ((2:Int)^e) 2,ae8];omega
theorem aEv{x:List Int}{w j s:Nat}(hx:ij (2^w) x)(c:s<w)(b:j<x.length):vz (2^w) x/2^(w*j+s) % 2=x[j]/2^s % 2:=by
 have a:(0:Int)<2^w:=ed (by decide);rw[abe,←Int.ediv_ediv_of_nonneg (acP (ed (by decide))),Int.pow_mul,aDE a hx (by omega),ajA b,aE8 c]
theorem aDO{x:List Int}{w i:Nat}(hx:ij (2^w) x)(h:w*x.length≤i):vz (2^w) x/2^i % 2=0:=by
 have b:(0:Int)<2^w:=ed (by decide);have a:=XU b hx;rw[←Int.pow_mul]at a;rw[ae7 (vj b hx) (Int.lt_of_lt_of_le a (Ww (by decide) h))];rfl
theorem aIj(q:Int)(h:0≤q∧q<4294967296):r9 .and .u32 q 1=q % 2:=by
 unfold r9;have h:(BitVec.ofInt (b9 .u32) q &&& BitVec.ofInt (b9 .u32) 1).toNat=(q % 2).toNat:=by
  show(BitVec.ofInt 32 q &&& BitVec.ofInt 32 1).toNat=_;rw[BitVec.toNat_and];show(BitVec.ofInt 32 q).toNat &&& 1=_;rw[Nat.and_one_is_mod,BitVec.toNat_ofInt];omega
 show ae .u32 (((BitVec.ofInt (b9 .u32) q &&& BitVec.ofInt (b9 .u32) 1).toNat:Nat):Int)=_;rw[h];rw[anF];omega
theorem aE9{n:Nat}{x:List Int}{i:Nat}(hx:ij 4294967296 x)(hi:i≤1000000000):asy n ((x,()),(i:Int))=some (vz 4294967296 x/2^i % 2):=by
 have a:ij (2^32) x:=hx;rw[aAw,bN0,zh (by decide) (by rw[bV];omega) (by rw[bV];omega),bV,aa,aa,show(i:Int)/32=((i/32:Nat):Int)by omega,aa];show av (decide (((i/32:Nat):Int)≥(x.length:Int))) _ _=_;rw[ag]
 by_cases c:i/32<x.length
 ·rw[if_neg (by rw[bx];omega)];show(idx x ((i/32:Nat):Int)).bind _=_;have b:=hx.at c;have d:0≤x[i/32]/2^(i % 32):=e7 b.1 (acP (ed (by decide)));have e:x[i/32]/2^(i % 32)≤x[i/32]:=Int.ediv_le_self _ b.1;rw[bj c,aa,kT (by decide),pq,show(i:Int) % 32=((i % 32:Nat):Int)by omega,aa,Tp (by show i % 32≤32;omega),aa,aIj _ (by omega),aN];have:=aEv (j:=i/32) (s:=i % 32) a (by omega) c;rw[show 32*(i/32)+i % 32=i by omega]at this;rw[←this];rfl
 ·rw[if_pos (by rw[bx];omega)];have:=aDO (i:=i) a (by omega);rw[←this];rfl
theorem aDP{A B:BitVec 32}:r9 .and .u32 (A.toNat:Int) (B.toNat:Int)=((A &&& B).toNat:Int):=by
 unfold r9;show ae .u32 (((BitVec.ofInt 32 (A.toNat:Int) &&& BitVec.ofInt 32 (B.toNat:Int)).toNat:Nat):Int)=_;rw[BitVec.ofInt_natCast,BitVec.ofInt_natCast,BitVec.ofNat_toNat,BitVec.ofNat_toNat,BitVec.setWidth_eq,BitVec.setWidth_eq,anF (by omega) (by have:=(A &&& B).isLt;omega)]
theorem aFY{A B:BitVec 32}:r9 .or .u32 (A.toNat:Int) (B.toNat:Int)=((A ||| B).toNat:Int):=by
 unfold r9;show ae .u32 (((BitVec.ofInt 32 (A.toNat:Int) ||| BitVec.ofInt 32 (B.toNat:Int)).toNat:Nat):Int)=_;rw[BitVec.ofInt_natCast,BitVec.ofInt_natCast,BitVec.ofNat_toNat,BitVec.ofNat_toNat,BitVec.setWidth_eq,BitVec.setWidth_eq,anF (by omega) (by have:=(A ||| B).isLt;omega)]
theorem aCV{A B:BitVec 32}:r9 .xor .u32 (A.toNat:Int) (B.toNat:Int)=((A ^^^ B).toNat:Int):=by
 unfold r9;show ae .u32 (((BitVec.ofInt 32 (A.toNat:Int) ^^^ BitVec.ofInt 32 (B.toNat:Int)).toNat:Nat):Int)=_;rw[BitVec.ofInt_natCast,BitVec.ofInt_natCast,BitVec.ofNat_toNat,BitVec.ofNat_toNat,BitVec.setWidth_eq,BitVec.setWidth_eq,anF (by omega) (by have:=(A ^^^ B).isLt;omega)]
theorem aEw{a:Int}(h:0≤a∧a<4294967296):∃A:BitVec 32,a=(A.toNat:Int):=⟨BitVec.ofNat 32 a.toNat,by rw[BitVec.toNat_ofNat];omega⟩
theorem aFa{V:BitVec 32}:(V.toNat:Int)/2147483648=if V.msb=true then 1 else 0:=by
 rw[BitVec.msb_eq_decide];have:=V.isLt
 by_cases c:2^(32 -1)≤V.toNat
 ·rw[if_pos (by simpa using c)];omega
 ·rw[if_neg (by simpa using c)];omega
theorem aDG{n:Nat}{a b c:Int}(p:0≤a∧a<4294967296)(q:0≤b∧b<4294967296)(u:0≤c∧c≤1):amn n (a,b,c)=some ((a -b -c) % 4294967296,if a -b -c<0 then 1 else 0):=by
 have r:ae .u32 (ae .u32 (a -b) -c)=(a -b -c) % 4294967296:=by rw[alH,alH];omega
 obtain⟨D,l⟩:=aEw (a:=(a -b -c) % 4294967296) (by omega);obtain⟨A,rfl⟩:=aEw p;obtain⟨B,rfl⟩:=aEw q;have i:(ite ((fH IntKind.u32)=true) (-(1:Int)) (IntKind.max IntKind.u32))=((BitVec.allOnes 32).toNat:Int):=by decide
 rw[ayM,r,i,l,aCV,aCV,aCV,aDP,aDP,aFY];have d:=Tp (k:=.u32) (s:=31) (a:=((((BitVec.allOnes 32 ^^^ A) &&& B) ||| ((BitVec.allOnes 32 ^^^ (A ^^^ B)) &&& D)).toNat:Int)) (by decide);rw[show((31:Nat):Int)=31 from rfl,show(2:Int)^31=2147483648 from rfl,aFa]at d;rw[d,aa];congr 2;rw[BitVec.msb_or,BitVec.msb_and,BitVec.msb_and,BitVec.msb_xor,BitVec.msb_xor,BitVec.msb_xor,BitVec.msb_allOnes (by decide),BitVec.msb_eq_decide,BitVec.msb_eq_decide,BitVec.msb_eq_decide];have t:=A.isLt;have j:=B.isLt;have o:=D.isLt
 by_cases e:2^(32 -1)≤A.toNat<;>by_cases g:2^(32 -1)≤B.toNat<;>by_cases h:2^(32 -1)≤D.toNat<;>simp only[e,g,h,decide_true,decide_false,Bool.true_xor,Bool.false_xor,aY,Bool.not_false,Bool.and_true,Bool.and_false,Bool.true_and,Bool.false_and,Bool.or_true,Bool.or_false,Bool.true_or,Bool.false_or,if_true,cn,if_false]<;>(split<;>omega)
structure aEx (x y out:List Int) (c:Int) (i:Nat):Prop where
 dig:ij 4294967296 out
 cr:0≤c∧c≤1
 v:vz 4294967296 (out.take i) -4294967296^i*c=vz 4294967296 (x.take i) -vz 4294967296 (y.take i)
theorem aEx.step{x y out:List Int}{c:Int}{i:Nat}(h:aEx x y out c i)(hx:ij 4294967296 x)(J:ij 4294967296 y)(hi:i<out.length):
  aEx x y (out.set i ((x.getD i 0 -y.getD i 0 -c) % 4294967296)) (if x.getD i 0 -y.getD i 0 -c<0 then 1 else 0) (i+1):=by
 obtain⟨I,K,L⟩:=h;have a:=hx.getD (by decide) i;have b:=J.getD (by decide) i;obtain⟨p,E⟩:∃p,p=x.getD i 0:=⟨_,rfl⟩;obtain⟨q,H⟩:∃q,q=y.getD i 0:=⟨_,rfl⟩;rw[←E]at a ⊢;rw[←H]at b ⊢;obtain⟨e,j⟩:∃e:Int,e=if p -q -c<0 then 1 else 0:=⟨_,rfl⟩;have D:(p -q -c) % 4294967296=p -q -c+4294967296*e:=by rw[j];split<;>omega
 rw[←j];refine⟨I.set (by omega) (by omega),by rw[j];split<;>omega,?_⟩;have g:(out.set i ((p -q -c) % 4294967296)).getD i 0=(p -q -c) % 4294967296:=by
  rw[aB,fl hi];rfl
 rw[aeg,aeg (l:=x),aeg (l:=y),g,List.take_set,List.set_eq_of_length_le (by rw[aC];omega),←E,←H,c9,D];generalize(4294967296:Int)^i=P at*
 grind
theorem aAd{n:Nat}{x y o2:List Int}(hx:ij 4294967296 x)(g:ij 4294967296 y){N:Nat}(o:N≤1000000000):∀(m k i:Nat) (c:Int) (out:List Int),i+m=N→m<k→out.length=N→aEx x y out c i→
  ∃h a,apr n k ((),(),(),(),c,(N:Int),(i:Int),(x,()),(y,()),(o2,()),out,())=some ((),(),(o2,()),a,())∧a.length=N∧aEx x y a h N
 |0,k,i,c,out,j,l,d,b=>by
  obtain⟨k,rfl⟩:=gU k;rw[au8,bN0];have:i=N:=by omega
  subst this;exact⟨c,out,rfl,d,b⟩
 |m+1,k,i,c,out,j,l,d,b=>by
  obtain⟨k,rfl⟩:=gU k;have e:i<out.length:=by omega
  rw[au8,bP0,alP,aa,alP,aa,aDG (hx.getD (by decide) i) (g.getD (by decide) i) b.cr,aa,dO e,aa,ai e,aa,aN,show(i:Int)+1=((i+1:Nat):Int)by omega];exact aAd hx g o m k (i+1) _ _ (by omega) (by omega) (by rw[aO];exact d) (b.step hx g e)
theorem aFb{n:Nat}{x y:List Int}(hx:Can 4294967296 x)(b:Can 4294967296 y)(p:x.length≤1000000)(k:Hn0 n)(j:vz 4294967296 y≤vz 4294967296 x):
  ∃z,asz n ((x,()),(y,()))=some ((z,()),0)∧Can 4294967296 z∧vz 4294967296 z=vz 4294967296 x -vz 4294967296 y:=by
 obtain⟨c,o,q⟩:=alQ (n:=n) hx b (by omega) k;have l:y.length≤x.length:=by
  by_cases h:x.length<y.length
  ·have:=arV (by decide) hx b h;omega
  ·omega
 rw[aAx,o,aa,bN0,fX (m:=x.length) rfl (by omega) (by omega),aa,aU];obtain⟨a,d,e,g,d1,d2,d3⟩:=aAd (n:=n) (x:=x) (y:=y) (o2:=[]) hx.1 b.1 (N:=x.length) (by omega) x.length n 0 0 (ao x.length 0) (by omega) (by omega) aU ⟨ij.rep (by decide) _,by omega,by simp[vz]⟩;rw[show((0:Nat):Int)=0 from rfl]at e;rw[e,aa];rw[aR (by omega),aR (by omega),aR (by omega)]at d3;have g1:=XU (by decide) d1;rw[g]at g1;have i:a=0:=by
  by_cases h:a=0
  ·exact h
  ·have:a=1:=by omega
   subst this;omega
 subst i;rw[Int.mul_zero,Int.sub_zero]at d3;show ∃z,(pB n d).bind _=_∧_;rw[Tr (by omega) (by omega),aa];exact⟨_,rfl,qE d1,by rw[wy,d3]⟩
structure aCy (B X Y:Int) (N:Nat) (out left:List Int) (i:Nat):Prop where
 len:out.length=N
 dig:ij B out
 can:Can B left
 l:vz B left=X/2^i % Y
 q:vz B out=X/2^i/Y*2^i
theorem aDj{X:Int}{i:Nat}:X/2^(i+1)=X/2^i/2:=by rw[c9,Int.ediv_ediv_of_nonneg (acP (ed (by decide)))]
theorem aDk{Z Y:Int}(c:0<Y):(2*(Z/2 % Y)+Z % 2<Y→Z % Y=2*(Z/2 % Y)+Z % 2∧Z/Y=2*(Z/2/Y))∧(Y≤2*(Z/2 % Y)+Z % 2→Z % Y=2*(Z/2 % Y)+Z % 2 -Y∧Z/Y=2*(Z/2/Y)+1):=by
 have d:=aeX (Z/2) Y;have e:=e9 (Z/2) (show Y≠0 by omega);have g:=dz (Z/2) c;generalize Z/2 % Y=r at*;generalize Z/2/Y=q at*;constructor
 ·intro h;have:=(afu (a:=Z) (b:=Y) (r:=2*r+Z % 2) (q:=2*q) c).2 ⟨by rw[Int.mul_left_comm];omega,by omega,h⟩;exact⟨this.2,this.1⟩
 ·intro h;have:=(afu (a:=Z) (b:=Y) (r:=2*r+Z % 2 -Y) (q:=2*q+1) c).2 ⟨by rw[Int.mul_add,Int.mul_left_comm];omega,by omega,by omega⟩;exact⟨this.2,this.1⟩
theorem aCy.lo{B X Y:Int}{N:Nat}{out left left':List Int}{i:Nat}(h:aCy B X Y N out left (i+1))(J:0<Y)(K:Can B left')(E:vz B left'=2*vz B left+X/2^i % 2)(L:vz B left'<Y):aCy B X Y N out left' i:=by
 obtain⟨H,I,M,j,y⟩:=h;rw[aDj]at j y;have D:=(aDk (Z:=X/2^i) J).1 (by rw[←j,←E];exact L);refine⟨H,I,K,?_,?_⟩
 ·rw[E,j,D.1]
 ·rw[y,D.2,c9,aa5 ((2:Int)^i) 2,aa5 2 (X/2^i/2/Y),ae8]
theorem aFc{w:Nat}{out:List Int}{Q:Int}{j s:Nat}(h:ij (2^w) out)(i:j<out.length)(u:s<w)(q:vz (2^w) out=Q*2^(w*j+s+1)):∃a,0≤a∧out[j]=a*2^(s+1)∧a*2^(s+1)+2^s<2^w:=by
 have o:(0:Int)<2^w:=ed (by decide);have c:(0:Int)<2^(s+1):=ed (by decide);have g:=aDE o h (j:=j) (by omega);rw[ajA i,q,←Int.pow_mul,show w*j+s+1=w*j+(s+1)by omega,abe,aa5 ((2:Int)^(w*j)),←ae8,Int.mul_ediv_cancel _ (by have:(0:Int)<2^(w*j):=ed (by decide);omega)]at g;obtain⟨e,p⟩:∃e,w=(s+1)+e:=⟨w -(s+1),by omega⟩;have t:(0:Int)<2^e:=ed (by decide);have d:(2:Int)^w=2^(s+1)*2^e:=by rw[p,abe]
 have k:=h.at i;have l:out[j] % 2^(s+1)=0:=by
  have:out[j]=(Q -2^e*vz (2^w) (out.drop (j+1)))*2^(s+1):=by rw[Int.sub_mul,g,d];grind
  rw[this,Int.mul_emod_left]
 have b:=aeX out[j] (2^(s+1));rw[l,Int.zero_add]at b;refine⟨out[j]/2^(s+1),e7 k.1 (acP c),by rw[aa5];exact b.symm,?_⟩;generalize out[j]/2^(s+1)=a at*;have r:a<2^e:=by
  have:(2:Int)^(s+1)*a<2^(s+1)*2^e:=by rw[b,←d];exact k.2
  exact Int.lt_of_mul_lt_mul_left this (acP c)
 have n:(a+1)*2^(s+1)≤2^e*2^(s+1):=bP (by omega) (acP c);rw[Int.add_mul,Int.one_mul,aa5 ((2:Int)^e),←d]at n;rw[c9]at*;have:(0:Int)<2^s:=ed (by decide);omega
theorem aCy.hi{w:Nat}{X Y:Int}{N:Nat}{out left left':List Int}{i j s:Nat}(h:aCy (2^w) X Y N out left (i+1))(M:0<Y)(O:Can (2^w) left')(R:vz (2^w) left'=2*vz (2^w) left+X/2^i % 2 -Y)(P:Y≤2*vz (2^w) left+X/2^i % 2)
  (hi:i=w*j+s) (Q:s<w) (I:j<out.length):aCy (2^w) X Y N (out.set j (out[j]+2^s)) left' i∧∃a,0≤a∧out[j]=a*2^(s+1)∧a*2^(s+1)+2^s<2^w:=by
 obtain⟨L,D,S,E,H⟩:=h;rw[aDj]at E H;have y:=(aDk (Z:=X/2^i) M).2 (by rw[←E];exact P);obtain⟨a,a1,J,K⟩:=aFc D I Q (by rw[H,hi]);have T:=D.at I;have:(0:Int)<2^s:=ed (by decide);refine⟨⟨by rw[aO];exact L,D.set (by omega) (by omega),O,?_,?_⟩,a,a1,J,K⟩
 ·rw[R,E,y.1]
 ·rw[Wr I,H,y.2,←Int.pow_mul,show out[j]+2^s -out[j]=2^s by omega,←abe,Nat.add_comm s,←hi,c9,Int.add_mul,Int.one_mul,aa5 ((2:Int)^i) 2,aa5 2 (X/2^i/2/Y),ae8]
theorem aw7{n:Nat}{x y o2 o3:List Int}(hx:ij 4294967296 x)(p:Can 4294967296 y)(o:y≠[])(F:x.length≤100000)(q:y.length≤100000)(t:Hn0 n):
  ∀(i k:Nat) (out left:List Int),i≤32*x.length→i<k→aCy (2^32) (vz 4294967296 x) (vz 4294967296 y) x.length out left i→
  ∃g left',aps n k ((),(),(),(),(),(),(i:Int) -1,(x,()),(y,()),(o2,()),(o3,()),out,(left,()),())=some ((),(),(),(),(o2,()),(o3,()),g,(left',()),())∧aCy (2^32) (vz 4294967296 x) (vz 4294967296 y) x.length g left' 0
 |0,k,out,left,M,N,h=>by
  obtain⟨k,rfl⟩:=gU k;rw[avc,ag,if_neg (by simp)];exact⟨out,left,rfl,h⟩
 |i+1,k,out,left,M,N,h=>by
  obtain⟨k,rfl⟩:=gU k;have w:=alJ (by decide) p o;have r:Can 4294967296 left:=h.can;have O:vz 4294967296 left<vz 4294967296 y:=by
   have:=h.l;show vz (2^32) left<_;rw[this];exact dz _ w
  have P:left.length≤y.length:=by
   by_cases e:y.length<left.length
   ·have:=arV (by decide) p r e;omega
   ·omega
  have H:0≤vz 4294967296 x/2^i % 2∧vz 4294967296 x/2^i % 2<2:=by omega
  obtain⟨I,t1,t2,t3,t4⟩:=aD4 (n:=n) (m:=2) (a:=vz 4294967296 x/2^i % 2) (by decide) (by omega) r (by omega) t;rw[show((i+1:Nat):Int) -1=(i:Int)by omega,avc,bP0,aE9 hx (by omega),aa,anF,ayK,t1,aa,aa];obtain⟨c,L,T⟩:=alQ (n:=n) t2 p (by omega) t;rw[L,aa,ag]
  by_cases d:vz 4294967296 I<vz 4294967296 y
  ·rw[if_neg (by rw[bx];omega),aa];simp only;rw[aN];exact aw7 hx p o F q t i k out I (by omega) (by omega) (h.lo w t2 t3 d)
  ·rw[if_pos (by rw[bx];omega)];obtain⟨D,Q,R,S⟩:=aFb (n:=n) t2 p (by omega) t (by omega);have u:i/32<out.length:=by rw[h.len];omega
   obtain⟨g1,a,J,E,K⟩:=h.hi (left':=D) (j:=i/32) (s:=i % 32) w R (by show vz 4294967296 D=_;rw[S,t3];rfl) (by show vz 4294967296 y≤2*vz 4294967296 left+_;omega) (by omega) (by omega) u;have B:qc .u32 1 ((i % 32:Nat):Int)=some (2^(i % 32)):=by
    have:i % 32<32:=by omega
    generalize i % 32=s at*;exact(by decide:∀s:Nat,s<32→qc .u32 1 (s:Int)=some (2^s)) s this
   rw[Q,aa,zh (by decide) (by rw[bV];omega) (by rw[bV];omega),bV,show(i:Int)/32=((i/32:Nat):Int)by omega,aa,dO u,aa,ai u,aa,kT (by decide),pq,show(i:Int) % 32=((i % 32:Nat):Int)by omega,aa,B,aa,aa,ai u,aa,aa];simp only;have z:=anH (k:=.u32) (a:=a) (b:=2^(i % 32)) (s:=i % 32+1) (.inr rfl) J (acP (ed (by decide))) (by rw[c9];have:(0:Int)<2^(i % 32):=ed (by decide);omega) K;rw[aN,E,z,←E];exact aw7 hx p o F q t i k _ D (by omega) (by omega) g1
theorem aBC{n:Nat}{x y:List Int}(hx:Can 4294967296 x)(i:Can 4294967296 y)(a:y≠[])(u:x.length≤100000)(b:y.length≤100000)(l:Hn0 n):
  ∃q r,ajS n ((x,()),(y,()))=some ((q,()),(r,()),0)∧Can 4294967296 q∧Can 4294967296 r∧vz 4294967296 q=vz 4294967296 x/vz 4294967296 y∧vz 4294967296 r=vz 4294967296 x % vz 4294967296 y∧q.length≤x.length:=by
 have k:=alJ (by decide) i a;have z:0<y.length:=List.length_pos_iff.2 a;rw[aAy];show ∃q r,av ((y.length:Int)==0) _ (av ((y.length:Int)==1) ((idx y 0).bind _) _)=_∧_;rw[ag,if_neg (by rw[beq_iff_eq];omega),ag]
 by_cases c:y.length=1
 ·rw[if_pos (by rw[beq_iff_eq];omega)];obtain⟨d,rfl⟩:=List.length_eq_one_iff.1 c;have J:=i.1 d aH;have h:vz 4294967296 [d]=d:=by simp[vz]
  rw[h]at k ⊢;obtain⟨q,B,D,E,F⟩:=awn (n:=n) (d:=d) (x:=x) (by omega) hx (by omega) l;have g:=e9 (vz 4294967296 x) (show d≠0 by omega);have w:=dz (vz 4294967296 x) k;obtain⟨r,r1,H,I,K⟩:=arK (n:=n) (by omega) (v:=vz 4294967296 x % d) g (by omega);rw[show idx [d] (0:Int)=some d from rfl,aa,B,aa];simp only;rw[Eb,r1,aa];exact⟨q,r,rfl,D,H,E,I,F⟩
 ·rw[if_neg (by rw[beq_iff_eq];omega)];show ∃q r,(Bx 4 (x.length:Int)).bind _=_∧_;have e:jA (vz 4294967296 x)≤32*x.length:=Hk (by have:=XU (by decide) hx.1;rw[ajB]at this;exact this);rw[fX (m:=x.length) rfl (by omega) (by omega),aa,Ly hx (by omega),aa,aN];have o:vz 4294967296 x/2^jA (vz 4294967296 x)=0:=ae7 (vj (by decide) hx.1) abc;obtain⟨j,left,p,t⟩:=aw7 (n:=n) (x:=x) (y:=y) (o2:=[]) (o3:=[]) hx.1 i a u b l (jA (vz 4294967296 x)) n (ao x.length 0) [] e (by omega)
   ⟨aU,ij.rep (by decide) _,Can.nil,by rw[o,Int.zero_emod];rfl,by rw[o,Int.zero_ediv,Int.zero_mul];exact ajy _⟩
  rw[p,aa];obtain⟨d1,d2,d3,d4,d5⟩:=t;rw[Int.pow_zero,Int.ediv_one]at d4 d5;rw[Int.mul_one]at d5;simp only;rw[Tr (by omega) (by omega),aa];exact⟨_,left,rfl,qE d2,d3,by rw[wy];exact d5,d4,by have:=xl j;omega⟩
theorem aD5{B:Int}(i:0<B){l:List Int}(b:ij B l)(h:l≠[]→B^(l.length -1)≤vz B l):Can B l:=by
 refine⟨b,fun c d=> ?_⟩;have e:=(bL c).symm;have k:=h c;have a:ij B l.dropLast:=fun x j=>b x ((List.dropLast_sublist l).subset j);have g:=XU i a;rw[List.length_dropLast]at g;rw[d]at e;have n:vz B l=vz B l.dropLast:=by
  rw[e,Ea];simp[vz]
 omega
structure aFd (x y s:List Int) (c:Int) (i:Nat):Prop where
 len:s.length=i
 dig:ij 65536 s
 cr:0≤c∧c≤1
 v:vz 65536 s+65536^i*c=vz 65536 (x.take i)+vz 65536 (y.take i)
theorem aFd.step{x y s:List Int}{c:Int}{i:Nat}(h:aFd x y s c i)(hx:ij 65536 x)(E:ij 65536 y):
  aFd x y (s++[(x.getD i 0+y.getD i 0+c) % 65536]) ((x.getD i 0+y.getD i 0+c)/65536) (i+1):=by
 obtain⟨j,D,H,I⟩:=h;have a:=hx.getD (by decide) i;have b:=E.getD (by decide) i;refine⟨by rw[ah,j];rfl,D.app (ij.cons (by omega) (by omega) ij.nil),by omega,?_⟩;have d:(x.getD i 0+y.getD i 0+c) % 65536+65536*((x.getD i 0+y.getD i 0+c)/65536)=x.getD i 0+y.getD i 0+c:=aeX _ _;rw[aeg (l:=x),aeg (l:=y),Ea,j,c9];generalize x.getD i 0=p at*;generalize y.getD i 0=q at*;generalize(p+q+c) % 65536=u at*;generalize(p+q+c)/65536=w at*;generalize(65536:Int)^i=P at*;have:vz 65536 [u]=u:=by simp[vz]
 rw[this]
 grind
theorem aCW{n M:Nat}{x y:List Int}(hx:ij 65536 x)(D:ij 65536 y)(N:M=max x.length y.length)(F:M≤1000000):
  ∀(q k i:Nat) (c:Int) (s:List Int),i+q=M+1→q<k→aFd x y s c i→(i=M+1→c=0∧65536^M≤vz 65536 x+vz 65536 y)→
  ∃r,asB n k (x,y,s,c,(i:Int),())=some (r,())∧ij 65536 r∧vz 65536 r=vz 65536 x+vz 65536 y∧(r.length=M∨r.length=M+1∧65536^M≤vz 65536 x+vz 65536 y):=by
 intro q;have g:∀(i:Nat) (c:Int),av (decide ((i:Int)<(x.length:Int))) (some true) (av (decide ((i:Int)<(y.length:Int))) (some true) (some (decide (c>0))))=some (decide (i<M∨0<c)):=by
  intro i c;rw[ag,ag]
  split
  ·rename_i h;rw[bx]at h;rw[decide_eq_true (by omega)]
  ·rename_i h;rw[bx]at h
   split
   ·rename_i o;rw[bx]at o;rw[decide_eq_true (by omega)]
   ·rename_i o;rw[bx]at o;congr 1;rw[decide_eq_decide];omega
 induction q with
 |zero=>
  intro k i c s E o l B;obtain⟨k,rfl⟩:=gU k;obtain⟨c0,I⟩:=B (by omega);obtain⟨w,g1,z,j⟩:=l;rw[awO,g,aa,decide_eq_false (by omega),bU];refine⟨s,rfl,g1,?_,.inr ⟨by omega,I⟩⟩;rw[c0,Int.mul_zero,Int.add_zero,aR (by omega),aR (by omega)]at j;exact j
 |succ q K=>
  intro k i c s E o l B;obtain⟨k,rfl⟩:=gU k;have a:=hx.getD (by decide) i;have b:=D.getD (by decide) i;have O:=l.cr;rw[awO,g,aa]
  by_cases d:i<M∨0<c
  ·have J:=l.len;rw[decide_eq_true d,ii,arO,aa,arO,aa,aN (x:=x.getD i 0+y.getD i 0),aN (x:=x.getD i 0+y.getD i 0+c),kT (by decide),pq,aa,dU (by simp only[bZ];omega) (by omega),aa,zh (by decide) (by rw[bV];omega) (by rw[bV];omega),bV,aa,aN,show(i:Int)+1=((i+1:Nat):Int)by omega];refine K k (i+1) _ _ (by omega) (by omega) (l.step hx D) (fun e=> ?_);have H:i=M:=by omega
   have t:x.getD i 0=0:=by rw[aB,bd (by omega)];rfl
   have u:y.getD i 0=0:=by rw[aB,bd (by omega)];rfl
   have p:c=1:=by omega
   obtain⟨w,g1,z,j⟩:=l;have L:=vj (by decide) g1;rw[H,aR (by omega),aR (by omega),p]at j;rw[t,u,p];exact⟨by decide,by omega⟩
  ·rw[decide_eq_false d,bU];obtain⟨w,g1,z,j⟩:=l;refine⟨s,rfl,g1,?_,.inl (by omega)⟩;rw[show c=0 by omega,Int.mul_zero,Int.add_zero,aR (by omega),aR (by omega)]at j;exact j
theorem aDQ{n:Nat}{x y:List Int}(hx:Can 65536 x)(b:Can 65536 y)(q:x.length≤1000000)(k:y.length≤1000000)(t:Hn0 n):
  ∃r,aqh n (x,y)=some r∧Can 65536 r∧vz 65536 r=vz 65536 x+vz 65536 y∧r.length≤max x.length y.length+1:=by
 obtain⟨M,j⟩:∃M:Nat,M=max x.length y.length:=⟨_,rfl⟩;obtain⟨r,d,e,a,g⟩:=aCW (n:=n) hx.1 b.1 j (by omega) (M+1) n 0 0 [] (by omega) (by omega) ⟨rfl,ij.nil,by omega,by simp[vz]⟩ (by omega);rw[show((0:Nat):Int)=0 from rfl]at d;rw[aBM,d,aa];refine⟨r,rfl,aD5 (by decide) e (fun l=> ?_),a,by omega⟩;have g1:=vj (by decide) hx.1;have p:=vj (by decide) b.1;have o:=List.length_pos_iff.2 l;rcases g with h |⟨h,i⟩
 ·rw[h,a]
  by_cases c:x.length=M
  ·have:=arH (by decide) hx (by rw[←List.length_pos_iff];omega);rw[c]at this;omega
  ·have:=arH (by decide) b (by rw[←List.length_pos_iff];omega);rw[show y.length=M by omega]at this;omega
 ·rw[h,a,Nat.add_sub_cancel];exact i
theorem awV{n:Nat}{x y:List Int}(hx:ij 65536 x)(g:ij 65536 y)(o:x.length=y.length)(l:x.length≤1000000000):∀(j k:Nat),j≤x.length→j<k→x.drop j=y.drop j→
  (∃c,ajO n k (x,y,(j:Int) -1,())=some (.inl (c,()))∧(c= -1∧vz 65536 x<vz 65536 y∨c=1∧vz 65536 y<vz 65536 x))∨
  (ajO n k (x,y,(j:Int) -1,())=some (.inr ())∧x=y)
 |0,k,h,i,b=>by
  obtain⟨k,rfl⟩:=gU k;right;rw[asL,ag,if_neg (by simp)];exact⟨rfl,by simpa using b⟩
 |j+1,k,h,i,b=>by
  obtain⟨k,rfl⟩:=gU k;have e:j<x.length:=by omega
  have a:j<y.length:=by omega
  rw[show((j+1:Nat):Int) -1=(j:Int)by omega,asL,bP0,bj e,bj a];simp only[aa];rw[ag,ag]
  by_cases c:x[j]<y[j]
  ·left;rw[if_pos (by rw[bx];exact c)];exact⟨-1,rfl,.inl ⟨rfl,arU (by decide) hx g e a b c⟩⟩
  ·rw[if_neg (by rw[bx];exact c)]
   by_cases d:x[j]>y[j]
   ·left;rw[if_pos (by rw[bx];exact d)];exact⟨1,rfl,.inr ⟨rfl,arU (by decide) g hx a e b.symm d⟩⟩
   ·rw[if_neg (by rw[bx];exact d),aN];refine awV hx g o l j k (by omega) (by omega) ?_;rw[bi e,bi a,b,show x[j]=y[j]by omega]
theorem aDl{n:Nat}{x y:List Int}(hx:Can 65536 x)(d:Can 65536 y)(g:x.length≤1000000000)(i:Hn0 n):
  ∃c,apG n (x,y)=some c∧(c= -1∧vz 65536 x<vz 65536 y∨c=0∧vz 65536 x=vz 65536 y∨c=1∧vz 65536 y<vz 65536 x):=by
 rw[azq,ag]
 by_cases c0:x.length=y.length
 ·rw[if_neg (by simp[c0]),aN];rcases awV (n:=n) hx.1 d.1 (by omega) g x.length n (az _) (by omega) (by rw[List.drop_length,c0,List.drop_length])with⟨c,a,b⟩|⟨a,b⟩
  ·rw[a,aa];refine⟨c,rfl,?_⟩;rcases b with h |h
   ·exact .inl h
   ·exact .inr (.inr h)
  ·rw[a,aa];exact⟨0,rfl,.inr (.inl ⟨rfl,by rw[b]⟩)⟩
 ·rw[if_pos (by rw[bne_iff_ne];omega),ag]
  by_cases e:x.length<y.length
  ·rw[if_pos (by rw[bx];omega)];exact⟨-1,rfl,.inl ⟨rfl,arV (by decide) hx d e⟩⟩
  ·rw[if_neg (by rw[bx];omega)];exact⟨1,rfl,.inr (.inr ⟨rfl,arV (by decide) d hx (by omega)⟩)⟩
structure aEy (x y s:List Int) (c:Int) (i:Nat):Prop where
 len:s.length=i
 dig:ij 65536 s
 cr:0≤c∧c≤1
 v:vz 65536 s -65536^i*c=vz 65536 (x.take i) -vz 65536 (y.take i)
theorem aEy.step{x y s:List Int}{c u e:Int}{i:Nat}(h:aEy x y s c i)(D:0≤u∧u<65536)(H:0≤e∧e≤1)(I:u -65536*e=x.getD i 0 -y.getD i 0 -c):
  aEy x y (s++[u]) e (i+1):=by
 obtain⟨j,E,J,K⟩:=h;refine⟨by rw[ah,j];rfl,E.app (ij.cons D.1 D.2 ij.nil),H,?_⟩;rw[aeg (l:=x),aeg (l:=y),Ea,j,c9];generalize x.getD i 0=p at*;generalize y.getD i 0=q at*;generalize(65536:Int)^i=P at*;have:vz 65536 [u]=u:=by simp[vz]
 rw[this]
 grind
theorem aw8{n:Nat}{x y:List Int}(hx:ij 65536 x)(h:ij 65536 y)(j:x.length≤1000000):∀(q k i:Nat) (c:Int) (s:List Int),i+q=x.length→q<k→aEy x y s c i→
  ∃p o,asC n k (x,y,s,c,(x.length:Int),(i:Int),())=some (o,())∧aEy x y o p x.length
 |0,k,i,c,s,r,t,e=>by
  obtain⟨k,rfl⟩:=gU k;rw[awP,bN0];have:i=x.length:=by omega
  subst this;exact⟨c,s,rfl,e⟩
 |q+1,k,i,c,s,r,t,e=>by
  obtain⟨k,rfl⟩:=gU k;have l:i<x.length:=by omega
  have a:=hx.getD (by decide) i;have b:=h.getD (by decide) i;have w:=e.cr;have u:=e.len;have g:x[i]=x.getD i 0:=by rw[aB,ai l];rfl
  rw[awP,bP0,bj l,aa,arO,aa,g,aN (x:=x.getD i 0 -y.getD i 0),aN (x:=x.getD i 0 -y.getD i 0 -c),ag]
  by_cases d:x.getD i 0 -y.getD i 0 -c<0
  ·rw[if_pos (by rw[bx];exact d),aa,aN,dU (by simp only[bZ];omega) (by omega),aa,aN,show(i:Int)+1=((i+1:Nat):Int)by omega];exact aw8 hx h j q k (i+1) _ _ (by omega) (by omega) (e.step (by omega) (by simp) (by omega))
  ·rw[if_neg (by rw[bx];exact d),aa,dU (by simp only[bZ];omega) (by omega),aa,aN,show(i:Int)+1=((i+1:Nat):Int)by omega];exact aw8 hx h j q k (i+1) _ _ (by omega) (by omega) (e.step (by omega) (by simp) (by omega))
theorem aFe{n:Nat}{x y:List Int}(hx:Can 65536 x)(c:Can 65536 y)(e:x.length≤1000000)(k:Hn0 n)(i:vz 65536 y≤vz 65536 x):
  ∃z,avz n (x,y)=some z∧Can 65536 z∧vz 65536 z=vz 65536 x -vz 65536 y:=by
 have j:y.length≤x.length:=by
  by_cases h:x.length<y.length
  ·have:=arV (by decide) hx c h;omega
  ·omega
 obtain⟨a,s,b,d,d1,d2,d3⟩:=aw8 (n:=n) hx.1 c.1 e x.length n 0 0 [] (by omega) (by omega) ⟨rfl,ij.nil,by omega,by simp[vz]⟩;rw[show((0:Nat):Int)=0 from rfl]at b;rw[aBO,b,aa];rw[aR (by omega),aR (by omega)]at d3;have g1:=XU (by decide) d1;rw[d]at g1;have g:a=0:=by
  by_cases h:a=0
  ·exact h
  ·have:a=1:=by omega
   subst this;omega
 subst g;rw[Int.mul_zero,Int.sub_zero]at d3;simp only;rw[aoM (by omega) (by omega),aa];exact⟨_,rfl,qE d1,by rw[wy,d3]⟩
theorem aFf{n:Nat}{x:List Int}{i:Nat}(hx:ij 65536 x)(hi:i≤1000000000):avw n (x,(i:Int))=some (vz 65536 x/2^i % 2):=by
 have a:ij (2^16) x:=hx;rw[aBN,bN0,zh (by decide) (by rw[bV];omega) (by rw[bV];omega),bV,aa,aa,show(i:Int)/16=((i/16:Nat):Int)by omega,aa,ag]
 by_cases c:i/16<x.length
 ·rw[if_neg (by rw[bx];omega),bj c,aa,kT (by decide),pq,show(i:Int) % 16=((i % 16:Nat):Int)by omega,aa,Eb,Tp (by show i % 16≤64;omega),aa,aAo];have:=aEv (j:=i/16) (s:=i % 16) a (by omega) c;rw[show 16*(i/16)+i % 16=i by omega]at this;rw[←this];rfl
 ·rw[if_pos (by rw[bx];omega)];have:=aDO (i:=i) a (by omega);rw[←this];rfl
theorem aFZ:Can 65536 [(1:Int)]:=⟨ij.cons (by decide) (by decide) ij.nil,fun _=>by simp⟩
theorem axd{n:Nat}{x y:List Int}(hx:ij 65536 x)(r:Can 65536 y)(p:y≠[])(E:x.length≤100000)(t:y.length≤100000)(q:Hn0 n):
  ∀(i k:Nat) (out left:List Int),i≤16*x.length→i<k→aCy (2^16) (vz 65536 x) (vz 65536 y) x.length out left i→
  ∃g left',asD n k (x,y,(),left,(i:Int) -1,out,())=some ((),left',g,())∧aCy (2^16) (vz 65536 x) (vz 65536 y) x.length g left' 0
 |0,k,out,left,K,L,h=>by
  obtain⟨k,rfl⟩:=gU k;rw[awR,ag,if_neg (by simp)];exact⟨out,left,rfl,h⟩
 |i+1,k,out,left,K,L,h=>by
  obtain⟨k,rfl⟩:=gU k;have w:=alJ (by decide) r p;have o:Can 65536 left:=h.can;have N:vz 65536 left<vz 65536 y:=by
   have:=h.l;show vz (2^16) left<_;rw[this];exact dz _ w
  have O:left.length≤y.length:=by
   by_cases e:y.length<left.length
   ·have:=arV (by decide) r o e;omega
   ·omega
  have F:0≤vz 65536 x/2^i % 2∧vz 65536 x/2^i % 2<2:=by omega
  obtain⟨B,T,H,I,q4⟩:=aDQ (n:=n) o o (by omega) (by omega) q;obtain⟨b,t1,t2,t3,t4⟩:∃b,(av (vz 65536 x/2^i % 2==(1:Int)) ((aqh n (B,[(1:Int)])).bind fun X=>some (x,(y,((),(X,((i:Int),(out,()))))))) (some (x,(y,((),(B,((i:Int),(out,()))))))))=some (x,(y,((),(b,((i:Int),(out,()))))))∧Can 65536 b∧vz 65536 b=2*vz 65536 left+vz 65536 x/2^i % 2∧b.length≤left.length+2:=by
   rw[ag]
   by_cases e:vz 65536 x/2^i % 2=1
   ·obtain⟨b,P,Q,R,S⟩:=aDQ (n:=n) H aFZ (by omega) (by simp) q;rw[if_pos (by rw[beq_iff_eq];exact e),P,aa];refine⟨b,rfl,Q,?_,?_⟩
    ·rw[R,I,e];simp[vz];omega
    ·simp only[bZ]at S;omega
   ·rw[if_neg (by rw[beq_iff_eq];exact e)];exact⟨B,rfl,H,by rw[I];omega,by omega⟩
  rw[show((i+1:Nat):Int) -1=(i:Int)by omega,awR,bP0,T,aa,aFf hx (by omega),aa,t1,aa];obtain⟨c,J,c2⟩:=aDl (n:=n) t2 r (by omega) q;simp only;rw[J,aa,ag]
  by_cases d:vz 65536 b<vz 65536 y
  ·rw[if_neg (by rw[bx];omega),aa];simp only;rw[aN];exact axd hx r p E t q i k out b (by omega) (by omega) (h.lo w t2 t3 d)
  ·rw[if_pos (by rw[bx];omega)];obtain⟨D,U,V,W⟩:=aFe (n:=n) t2 r (by omega) q (by omega);have u:i/16<out.length:=by rw[h.len];omega
   obtain⟨g1,a,Y,Z,a3⟩:=h.hi (left':=D) (j:=i/16) (s:=i % 16) w V (by show vz 65536 D=_;rw[W,t3];rfl) (by show vz 65536 y≤2*vz 65536 left+_;omega) (by omega) (by omega) u;have hp:=rn (s:=i % 16) (by omega);have z:qc .i64 1 (ae .u64 ((i % 16:Nat):Int))=some (2^(i % 16)):=by
    rw[Eb];unfold qc;rw[gk,ax,show min (i % 16) (b9 .i64)=i % 16 by show min (i % 16) 64=_;omega,Int.one_mul,aN]
   have M:=h.dig.at u;rw[U,aa,zh (by decide) (by rw[bV];omega) (by rw[bV];omega),bV,show(i:Int)/16=((i/16:Nat):Int)by omega,aa,dO u,aa,ai u,aa,kT (by decide),pq,show(i:Int) % 16=((i % 16:Nat):Int)by omega,aa,z,aa,aa,ai u,aa,aa];simp only;rw[aN (x:=out[i/16]+2^(i % 16)),aN];exact axd hx r p E t q i k _ D (by omega) (by omega) g1
theorem aBD{n:Nat}{x y:List Int}(hx:Can 65536 x)(i:Can 65536 y)(b:y≠[])(g:x.length≤100000)(a:y.length≤100000)(h:Hn0 n):
  ∃q r,aqi n (x,y)=some (q,r)∧Can 65536 q∧Can 65536 r∧vz 65536 q=vz 65536 x/vz 65536 y∧vz 65536 r=vz 65536 x % vz 65536 y∧q.length≤x.length:=by
 have d:vz 65536 x/2^(16*x.length)=0:=ae7 (vj (by decide) hx.1) (by have:=XU (by decide) hx.1;rw[Int.pow_mul];exact this);obtain⟨c,left,e,d1,d2,d3,d4,d5⟩:=axd (n:=n) hx.1 i b g a h (16*x.length) n (ao x.length 0) [] (az _) (by omega)
   ⟨aU,ij.rep (by decide) _,Can.nil,by rw[d,Int.zero_emod];rfl,by rw[d,Int.zero_ediv,Int.zero_mul];exact ajy _⟩
 rw[aBP,fX (m:=x.length) rfl (by omega) (by omega),aa,aN (x:=16*(x.length:Int)),aN,show 16*(x.length:Int)=((16*x.length:Nat):Int)by omega,e,aa];rw[Int.pow_zero,Int.ediv_one]at d4 d5;rw[Int.mul_one]at d5;simp only;rw[aoM (by omega) (by omega),aa];exact⟨_,left,rfl,qE d2,d3,by rw[wy];exact d5,d4,by have:=xl c;omega⟩
theorem aEz{X Y:Int}(a:0<Y)(h:Y≤X):2*(X % Y)<X:=by
 have c:=aeX X Y;have d:=dz X a;have b:1≤X/Y:=Int.le_ediv_of_mul_le a (by omega);have e:=ci b (acP a);omega
theorem aDm{X Y:Int}{m:Nat}(a:0<Y)(h:Y≤X)(b:X*Y<2^m):∃c,m=c+1∧Y*(X % Y)<2^c:=by
 have e:0<X*Y:=Int.mul_pos (by omega) a;have d:=Int.mul_lt_mul_of_pos_left (aEz a h) a;rcases m with _ |m
 ·rw[Int.pow_zero]at b;omega
 ·refine⟨m,rfl,?_⟩;rw[c9]at b;rw[aa5 Y X,Int.mul_left_comm]at d;omega
theorem aAe{X Y:Int}(a:0≤X)(b:0≤Y):(Int.gcd Y (X % Y):Int)=Int.gcd X Y:=by
 obtain⟨x,rfl⟩:∃x:Nat,X=x:=⟨X.toNat,by omega⟩;obtain⟨y,rfl⟩:∃y:Nat,Y=y:=⟨Y.toNat,by omega⟩;rw[←Int.natCast_emod,Int.gcd_natCast_natCast,Int.gcd_natCast_natCast,Nat.gcd_comm y,←Nat.gcd_rec,Nat.gcd_comm]
theorem gcd_zero{X:Int}(a:0≤X):(Int.gcd X 0:Int)=X:=by rw[Int.gcd_zero_right];omega
theorem aBE{B:Int}(a:1<B){y r:List Int}(c:Can B y)(b:Can B r)(h:vz B r<vz B y):r.length≤y.length:=by
 by_cases e:y.length<r.length
 ·have:=arV a c b e;omega
 ·omega
theorem aDR{B:Int}{w:Nat}(i:1<B)(b:B=2^w){y r:List Int}(c:ij B y)(k:0≤vz B r)(h:vz B r≤vz B y):vz B y*vz B r<2^(2*(w*y.length)):=by
 have d:=XU (by omega) c;have a:=vj (by omega) c;rw[b,←Int.pow_mul,←b]at d;rw[Nat.two_mul,abe];have j:(0:Int)<2^(w*y.length):=ed (by decide);generalize(2:Int)^(w*y.length)=P at*;have g:vz B y*vz B r≤vz B y*vz B y:=ci h a;have e:vz B y*vz B y≤(P -1)*(P -1):=dA (by omega) (by omega) a (by omega);rw[Int.mul_sub,Int.sub_mul]at e;omega
theorem aAf{n:Nat}{o2:List Int}(u:Hn0 n):∀(m k:Nat) (x y:List Int),Can 4294967296 x→Can 4294967296 y→x.length≤100000→y.length≤100000→vz 4294967296 y≤vz 4294967296 x→vz 4294967296 x*vz 4294967296 y<2^m→m<k→
  ∃z,ajD n k ((),(),(),(x,()),(y,()),(o2,()),())=some ((),(),(z,()),(o2,()),())∧Can 4294967296 z∧vz 4294967296 z=(Int.gcd (vz 4294967296 x) (vz 4294967296 y):Int)∧z.length≤100000:=by
 intro m
 induction m with
 |zero=>
  intro k x y d e b c g i t;obtain⟨k,rfl⟩:=gU k;have a:=vj (by decide) d.1;have j:y=[]:=by
   apply Decidable.byContradiction;intro h;have p:=alJ (by decide) e h;have:0<vz 4294967296 x*vz 4294967296 y:=Int.mul_pos (by omega) p;rw[Int.pow_zero]at i;omega
  subst j;rw[aqf,ag,if_neg (by simp)];exact⟨x,rfl,d,(gcd_zero a).symm,b⟩
 |succ m B=>
  intro k x y d e b c g i t;obtain⟨k,rfl⟩:=gU k;have a:=vj (by decide) d.1;rw[aqf,ag]
  by_cases h:y=[]
  ·subst h;rw[if_neg (by simp)];exact⟨x,rfl,d,(gcd_zero a).symm,b⟩
  ·have l:=alJ (by decide) e h;have w:=List.length_pos_iff.2 h;rw[if_pos (by rw[bx];show(y.length:Int)>0;omega)];obtain⟨q,r,d1,d2,d3,d4,d5,d6⟩:=aBC (n:=n) d e h b c u;rw[d1,aa];obtain⟨D,J,o⟩:=aDm l g i;have K:=dz (vz 4294967296 x) l;obtain⟨z,E,F,H,I⟩:=B k y r e d3 c (by have:=aBE (by decide) e d3 (by omega);omega) (by omega) (by rw[d5,show m=D by omega];exact o) (by omega);refine⟨z,E,F,?_,I⟩;rw[H,d5,aAe a (by omega)]
theorem aFg{n:Nat}{x y:List Int}(hx:Can 4294967296 x)(b:Can 4294967296 y)(d:x.length≤100000)(a:y.length≤100000)(g:Hn0 n):
  ∃z,asA n ((x,()),(y,()))=some (z,())∧Can 4294967296 z∧vz 4294967296 z=(Int.gcd (vz 4294967296 x) (vz 4294967296 y):Int)∧z.length≤100000:=by
 have c:=vj (by decide) hx.1;rw[aAE]
 by_cases h:y=[]
 ·subst h;obtain⟨z,k,l,o,p⟩:=aAf (n:=n) (o2:=[]) g 0 n x [] hx b d a c (by simp[vz]) (by omega);rw[k,aa];exact⟨z,rfl,l,o,p⟩
 ·have u:=alJ (by decide) b h;have E:=List.length_pos_iff.2 h;obtain⟨t,i⟩:∃j,n=j+1:=⟨n -1,by omega⟩;obtain⟨q,r,d1,d2,d3,d4,d5,d6⟩:=aBC (n:=n) hx b h d a g;have F:=dz (vz 4294967296 x) u;have D:=e9 (vz 4294967296 x) (show vz 4294967296 y≠0 by omega);obtain⟨z,k,l,o,p⟩:=aAf (n:=n) (o2:=[]) g (2*(32*y.length)) t y r b d3 a (by have:=aBE (by decide) b d3 (by omega);omega) (by omega) (aDR (B:=4294967296) (w:=32) (by decide) rfl b.1 (by omega) (by omega)) (by omega);have e:ajD n n ((),(),(),(x,()),(y,()),([],()),())=ajD n (t+1) ((),(),(),(x,()),(y,()),([],()),()):=by rw[←i]
  rw[e,aqf,ag,if_pos (by rw[bx];show(y.length:Int)>0;omega),d1,aa];simp only;rw[k,aa];refine⟨z,rfl,l,?_,p⟩;rw[o,d5,aAe c (by omega)]
theorem aAg{n:Nat}(u:Hn0 n):∀(m k:Nat) (x y:List Int),Can 65536 x→Can 65536 y→x.length≤100000→y.length≤100000→vz 65536 y≤vz 65536 x→vz 65536 x*vz 65536 y<2^m→m<k→
  ∃z,akA n k (x,y,())=some (z,())∧Can 65536 z∧vz 65536 z=(Int.gcd (vz 65536 x) (vz 65536 y):Int)∧z.length≤100000:=by
 intro m
 induction m with
 |zero=>
  intro k x y d e b c g i t;obtain⟨k,rfl⟩:=gU k;have a:=vj (by decide) d.1;have j:y=[]:=by
   apply Decidable.byContradiction;intro h;have p:=alJ (by decide) e h;have:0<vz 65536 x*vz 65536 y:=Int.mul_pos (by omega) p;rw[Int.pow_zero]at i;omega
  subst j;rw[asx,ag,if_neg (by simp)];exact⟨x,rfl,d,(gcd_zero a).symm,b⟩
 |succ m B=>
  intro k x y d e b c g i t;obtain⟨k,rfl⟩:=gU k;have a:=vj (by decide) d.1;rw[asx,ag]
  by_cases h:y=[]
  ·subst h;rw[if_neg (by simp)];exact⟨x,rfl,d,(gcd_zero a).symm,b⟩
  ·have l:=alJ (by decide) e h;have w:=List.length_pos_iff.2 h;rw[if_pos (by rw[bx];omega)];obtain⟨q,r,d1,d2,d3,d4,d5,d6⟩:=aBD (n:=n) d e h b c u;rw[d1,aa];obtain⟨D,J,o⟩:=aDm l g i;have K:=dz (vz 65536 x) l;obtain⟨z,E,F,H,I⟩:=B k y r e d3 c (by have:=aBE (by decide) e d3 (by omega);omega) (by omega) (by rw[d5,show m=D by omega];exact o) (by omega);refine⟨z,E,F,?_,I⟩;rw[H,d5,aAe a (by omega)]
theorem aFh{n:Nat}{x y:List Int}(hx:Can 65536 x)(b:Can 65536 y)(d:x.length≤100000)(a:y.length≤100000)(g:Hn0 n):
  ∃z,avA n (x,y)=some z∧Can 65536 z∧vz 65536 z=(Int.gcd (vz 65536 x) (vz 65536 y):Int)∧z.length≤100000:=by
 have c:=vj (by decide) hx.1;rw[aBQ]
 by_cases h:y=[]
 ·subst h;obtain⟨z,k,l,o,p⟩:=aAg (n:=n) g 0 n x [] hx b d a c (by simp[vz]) (by omega);rw[k,aa];exact⟨z,rfl,l,o,p⟩
 ·have u:=alJ (by decide) b h;have E:=List.length_pos_iff.2 h;obtain⟨t,i⟩:∃j,n=j+1:=⟨n -1,by omega⟩;obtain⟨q,r,d1,d2,d3,d4,d5,d6⟩:=aBD (n:=n) hx b h d a g;have F:=dz (vz 65536 x) u;have D:=e9 (vz 65536 x) (show vz 65536 y≠0 by omega);obtain⟨z,k,l,o,p⟩:=aAg (n:=n) g (2*(16*y.length)) t y r b d3 a (by have:=aBE (by decide) b d3 (by omega);omega) (by omega) (aDR (B:=65536) (w:=16) (by decide) rfl b.1 (by omega) (by omega)) (by omega);have e:akA n n (x,y,())=akA n (t+1) (x,y,()):=by rw[←i]
  rw[e,asx,bP0,d1,aa];simp only;rw[k,aa];refine⟨z,rfl,l,?_,p⟩;rw[o,d5,aAe c (by omega)]
def awW(X Y:Int)(s:List UInt8):Prop:=∃u v,Lz (X/Int.gcd X Y) u∧Lz (Y/Int.gcd X Y) v∧s=u++[47]++v
theorem awW.uniq{X Y:Int}{s t:List UInt8}(y:awW X Y s)(D:awW X Y t):s=t:=by
 obtain⟨u,v,a1,i,rfl⟩:=y;obtain⟨E,H,b1,j,rfl⟩:=D;rw[Lz.uniq a1 b1,Lz.uniq i j]
theorem awW.mul{X Y c:Int}{s:List UInt8}(i:0<c)(h:awW X Y s):awW (X*c) (Y*c) s:=by
 obtain⟨u,v,a1,j,y⟩:=h;have e:(Int.gcd (X*c) (Y*c):Int)=Int.gcd X Y*c:=by rw[Int.gcd_mul_right,Int.natCast_mul];congr 1;omega
 refine⟨u,v,?_,?_,y⟩
 ·rw[e,Int.mul_ediv_mul_of_pos_left _ _ i];exact a1
 ·rw[e,Int.mul_ediv_mul_of_pos_left _ _ i];exact j
theorem aDn:∀k:Nat,(2:Int)^k≤10^k
 |0=>by simp
 |k+1=>by
  have:=aDn k;have:(0:Int)<2^k:=ed (by decide);rw[c9,c9];omega
theorem aFi{a b:Nat}(h:(2:Int)^a<2^b):a<b:=by
 apply Decidable.byContradiction;intro c;have:=Ww (B:=2) (by decide) (show b≤a by omega);omega
theorem Lz.len{v:Int}{s:List UInt8}{k:Nat}(h:Lz v s)(E:v<2^k):s.length≤k+1:=by
 rcases h with⟨-,rfl⟩|⟨j,P,i,H,rfl⟩
 ·simp
 ·rw[arP]
  by_cases e:P=[]
  ·subst e;simp
  ·have y:=arH (by decide) i e;have D:=aDn (P.length -1);have:=aFi (a:=P.length -1) (b:=k) (by omega);omega
theorem aBF{w:Nat}{B:Int}(b:0<B)(c:B=2^w){x:List Int}(hx:ij B x){k:Nat}(h:w*x.length≤k):vz B x<2^k:=by
 have a:=XU b hx;have e:B^x.length=2^(w*x.length):=by rw[c,←Int.pow_mul]
 rw[e]at a;exact Int.lt_of_lt_of_le a (Ww (by decide) h)
theorem aDS{X Y:Int}(a:0<Y):0<(Int.gcd X Y:Int):=by
 have:Int.gcd X Y≠0:=fun h=>by rw[Int.gcd_eq_zero_iff]at h;omega
 omega
theorem gcd_zero_left{Y:Int}(a:0≤Y):(Int.gcd 0 Y:Int)=Y:=by rw[Int.gcd_comm];exact gcd_zero a
theorem aAQ{n:Nat}{x y:List Int}(hx:Can 4294967296 x)(H:Can 4294967296 y)(q:y≠[])(p:x.length≤100000)(t:y.length≤100000)(d:Hn0 n):
  ∃r s,ajR n ((x,()),(y,()))=some (r,0)∧agS n r=some s∧awW (vz 4294967296 x) (vz 4294967296 y) s:=by
 have S:=alJ (by decide) H q;have V:=List.length_pos_iff.2 q;rw[awd];show ∃r s,av ((y.length:Int)==0) _ _=_∧_;rw[ag,if_neg (by rw[beq_iff_eq];omega),ayf];show ∃r s,(av ((x.length:Int)==0) _ _).bind _=_∧_;rw[ag]
 by_cases c:x=[]
 ·subst c;rw[if_pos (by rfl),aa];obtain⟨o,W,Y,Z,o4⟩:=arK (n:=n) (by omega) (v:=1) (by decide) (by decide);obtain⟨v,J,e⟩:=alN (n:=n) Y (by omega) d;obtain⟨u,I,i⟩:=alN (n:=n) (x:=[]) Can.nil (by simp) d;have E:=i.len (k:=1) (by simp[vz]);have F:=e.len (k:=1) (by omega);refine⟨_,u++[47]++v,rfl,?_,u,v,?_,?_,rfl⟩
  ·rw[auy,asW,ag,if_pos (by rfl),W,aa,aa];simp only;rw[I,aa,abt (by simp only[bZ];omega),aa,J,aa,abt (by rw[ah,bZ];omega),aa]
  ·rw[show vz 4294967296 []/_=0 from Int.zero_ediv _];exact i
  ·rw[show vz 4294967296 []=0 from rfl,gcd_zero_left (by omega),Int.ediv_self (by omega)];rw[Z]at e;exact e
 ·have R:=alJ (by decide) hx c;have U:=List.length_pos_iff.2 c;rw[if_neg (by rw[beq_iff_eq];omega)];obtain⟨g,g1,N,B,O⟩:=aFg (n:=n) hx H p t d;have D:=aDS (X:=vz 4294967296 x) S;have l:g≠[]:=by intro h;rw[h]at B;rw[←B]at D;exact absurd D (by simp[vz])
  obtain⟨a,ra,Q,K,-,z,-,a4⟩:=aBC (n:=n) hx N l p O d;obtain⟨b,rb,b1,L,-,M,-,b4⟩:=aBC (n:=n) H N l t O d;rw[B]at z M;rw[g1,aa,Q,aa,b1,aa,aa];obtain⟨u,I,i⟩:=alN (n:=n) K (by omega) d;obtain⟨v,J,e⟩:=alN (n:=n) L (by omega) d;have E:=i.len (k:=3200000) (aBF (w:=32) (by decide) rfl K.1 (by omega));have F:=e.len (k:=3200000) (aBF (w:=32) (by decide) rfl L.1 (by omega));have P:(Int.gcd (vz 4294967296 x) (vz 4294967296 y):Int)≤vz 4294967296 x:=Int.le_of_dvd R (Int.gcd_dvd_left _ _);have j:1≤vz 4294967296 a:=by rw[z];exact Int.le_ediv_of_mul_le D (by omega)
  have T:0<a.length:=List.length_pos_iff.2 (by intro h;rw[h]at j;exact absurd j (by simp[vz]));rw[z]at i;rw[M]at e;refine⟨_,u++[47]++v,rfl,?_,u,v,i,e,rfl⟩;rw[auy,asW];show(av ((a.length:Int)==0) _ _).bind _=_;rw[ag,if_neg (by rw[beq_iff_eq];omega),aa];simp only;rw[I,aa,abt (by simp only[bZ];omega),aa,J,aa,abt (by rw[ah,bZ];omega),aa]
theorem aCI{n:Nat}{a b:List Int}{X Y:Int}(e:Can 65536 a)(g:Can 65536 b)(l:a.length≤100000)(o:b.length≤100000)(i:vz 65536 a=X/Int.gcd X Y)(j:vz 65536 b=Y/Int.gcd X Y)(h:Hn0 n):
  ∃s,agZ n (a,b)=some s∧awW X Y s:=by
 obtain⟨u,r,c⟩:=arQ (n:=n) e (by omega) h;obtain⟨v,t,d⟩:=arQ (n:=n) g (by omega) h;have p:=c.len (k:=3200000) (aBF (w:=16) (by decide) rfl e.1 (by omega));have q:=d.len (k:=3200000) (aBF (w:=16) (by decide) rfl g.1 (by omega));rw[i]at c;rw[j]at d;refine⟨u++[47]++v,?_,u,v,c,d,rfl⟩;rw[ayN,r,aa,abt (by simp only[bZ];omega),aa,t,aa,abt (by rw[ah,bZ];omega),aa]
theorem aD6{n:Nat}{x y:List Int}(hx:Can 65536 x)(k:Can 65536 y)(l:y≠[])(d:x.length≤100000)(e:y.length≤100000)(i:Hn0 n):
  ∃r s,auC n (x,y)=some r∧agZ n r=some s∧awW (vz 65536 x) (vz 65536 y) s:=by
 have D:=alJ (by decide) k l;obtain⟨g,g1,q,j,t⟩:=aFh (n:=n) hx k d e i;have u:=aDS (X:=vz 65536 x) D;have c:g≠[]:=by intro h;rw[h]at j;rw[←j]at u;exact absurd u (by simp[vz])
 obtain⟨a,J,w,z,-,o,-,H⟩:=aBD (n:=n) hx q c d t i;obtain⟨b,K,b1,B,-,p,-,I⟩:=aBD (n:=n) k q c e t i;rw[j]at o p;obtain⟨s,E,F⟩:=aCI (n:=n) z B (by omega) (by omega) o p i;rw[aBe,g1,aa,w,aa,b1,aa];exact⟨_,s,rfl,E,F⟩
theorem aFj{n:Nat}(e:Hn0 n):∃o,amU n 1=some ((o,()),0)∧Can 4294967296 o∧vz 4294967296 o=1∧o.length≤2:=by
 obtain⟨o,a,b,c,d⟩:=arK (n:=n) (by omega) (v:=1) (by decide) (by decide);refine⟨o,?_,b,c,d⟩;rw[aA6,ag,if_neg (by decide),Eb (by decide) (by decide),a,aa]
theorem aBG{n:Nat}{N:Nat}(j:N≤65528)(b:Hn0 n):∃o z,amU n 1=some ((o,()),0)∧sX n ((o,()),(N:Int))=some ((z,()),0)∧Can 4294967296 z∧vz 4294967296 z=2^N∧z≠[]∧z.length≤100000:=by
 obtain⟨o,d,e,c,k⟩:=aFj (n:=n) b;obtain⟨z,g,i,a,l⟩:=arR (n:=n) (N:=N) e (by omega) b (.inr (by rw[c];have:jA 1≤1:=Hk (by decide);omega));rw[c,Int.one_mul]at a;refine⟨o,z,d,g,i,a,?_,by omega⟩;intro h;have:(0:Int)<2^N:=ed (by decide);rw[h]at a;rw[←a]at this;exact absurd this (by simp[vz])
theorem aDH{n:Nat}(d:Hn0 n):∃s,agS n (([],()),([],()))=some s∧agZ n ([],[1])=some s:=by
 have i:Can 4294967296 [(1:Int)]:=⟨ij.cons (by decide) (by decide) ij.nil,fun _=>by simp⟩;obtain⟨r,s,c,g,h⟩:=aAQ (n:=n) (x:=[]) (y:=[1]) Can.nil i (by simp) (by simp) (by simp) d;have e:ajR n (([],()),([1],()))=some ((([],()),([],())),0):=by rw[awd,ayf];rfl
 rw[e]at c
 cases c;obtain⟨t,t1,t2⟩:=aCI (n:=n) (a:=[]) (b:=[1]) (X:=vz 4294967296 []) (Y:=vz 4294967296 [1]) Can.nil aFZ (by simp) (by simp) (by decide) (by decide) d;exact⟨s,g,by rw[t1,awW.uniq t2 h]⟩
theorem aCX{n:Nat}{m:Mod}{r:Rq}{said:List Int}(hm:MO m)(H:OkR r)(O:said.length≤1048576)(a:Hn0 n):
  (∃e,e≠0∧amW n (m,r,said)=some ((([],()),([],())),e)∧ano n (m,r,said)=some (([],[1]),e))∨
  (uF m r said∧∃q i s,amW n (m,r,said)=some (q,0)∧ano n (m,r,said)=some (i,0)∧agS n q=some s∧agZ n i=some s∧
   awW (kr (Ho n m r said)) (2^(r.2.1.2.2.2.2.1.toNat*said.length)) s):=by
 rw[aAF,aAG];rcases prods (n:=n) hm H O a with⟨h1,e,b,l,d⟩|⟨g,z,z',b,l,d,J,F,K,h8⟩
 ·left;refine⟨e,b,?_,?_⟩
  ·rw[l,aa];simp only;rw[show(e !=0)=true by simpa using b,ii]
  ·rw[d,aa];simp only;rw[show(e !=0)=true by simpa using b,ii]
 ·right;refine⟨g,?_⟩;have M:=g.len;have hb:=LQ g.w.p.bits;have L:=aeL hm H g a;obtain⟨B,t⟩:∃B:Nat,r.2.1.2.2.2.2.1=(B:Int):=⟨r.2.1.2.2.2.2.1.toNat,by omega⟩;have j:r.2.1.2.2.2.2.1*(said.length:Int)=((B*said.length:Nat):Int):=by rw[t,Int.natCast_mul]
  have e1:B*said.length≤32*512:=bD (by omega) M;rw[t,ax]at L ⊢;rw[t]at j;have P:=xm d (k:=B*said.length+1) (by rw[F,c9];have:(0:Int)<2^(B*said.length):=ed (by decide);omega);obtain⟨o,u,U,V,W,X,Y,Z⟩:=aBG (n:=n) (N:=B*said.length) (by omega) a;obtain⟨D,f,v2,v3,c,E⟩:=awq (n:=n) (x:=[1]) (N:=B*said.length) aFZ (by simp) (by omega) a;have c:vz 65536 D=2^(B*said.length):=by rw[c];simp[vz]
  have v5:D≠[]:=by
   intro h;have:(0:Int)<2^(B*said.length):=ed (by decide);rw[h]at c;rw[←c]at this;exact absurd this (by simp[vz])
  have E:D.length≤100000:=by simp only[bZ]at E;omega
  obtain⟨q,s,Q,R,y⟩:=aAQ (n:=n) d W Y (by omega) Z a;obtain⟨i,T,r1,S,I⟩:=aD6 (n:=n) J v3 v5 (by omega) E a;rw[F,X]at y;rw[K,c]at I;have:=awW.uniq I y;subst this;refine⟨q,i,T,?_,?_,R,S,y⟩
  ·rw[b,aa];simp only;rw[show((0:Int)!=0)=false from rfl,bU,U,aa,j,aN];simp only;rw[V,aa];simp only;rw[show((0:Int)!=0)=false from rfl,bU,Q,aa]
  ·rw[l,aa];simp only;rw[show((0:Int)!=0)=false from rfl,bU,j,aN,v2,aa];simp only;rw[r1,aa]
theorem avk{n:Nat}{m:Mod}{r:Rq}{said:List Int}{y:Int}(O:gE n ()=some true)(hm:MO m)(b:OkR r)(H:said.length≤1048576)(a:Hn0 n):agR n (m,r,said,y)=some true:=by
 rw[aw5,O,aa,aY,bU];simp only;rcases aCX (n:=n) hm b H a with⟨e,P,d,g⟩|⟨i,q,q',s,d,g,J,K,L⟩
 ·obtain⟨s,T,U⟩:=aDH (n:=n) a;rw[d,aa,Bn hm.o.len a,aa,LR b a,aa,g,aa];simp only;rw[bne_self_eq_false,bU,T,aa,U,aa,aa,beq_self_eq_true,aY,bU,show(e !=0)=true by simpa using P,ii,aa,ii]
 ·rw[d,aa,Bn hm.o.len a,aa,LR b a,aa,g,aa];simp only;have R:=i.len;have hb:=LQ i.w.p.bits;obtain⟨B,E⟩:∃B:Nat,r.2.1.2.2.2.2.1=(B:Int):=⟨r.2.1.2.2.2.2.1.toNat,by omega⟩;have t:r.2.1.2.2.2.2.1*(said.length:Int)=((B*said.length:Nat):Int):=by rw[E,Int.natCast_mul]
  have e1:B*said.length≤32*512:=bD (by omega) R;rw[bne_self_eq_false,bU,J,aa,K,aa,aa,beq_self_eq_true,aY,bU,bU,LP (by omega) a,aa];rcases Q:agm r said with _ |_
  ·rw[Bool.not_false,ii,aa,ii]
  ·rw[aY,bU,ag]
   by_cases j:y<0
   ·rw[if_pos (by rw[bx];exact j),aa,ii]
   ·rw[if_neg (by rw[bx];exact j),ag]
    by_cases k:y>8191
    ·rw[if_pos (by rw[bx];exact k),aa,ii]
    ·rw[if_neg (by rw[bx];exact k),aa,t,aN (x:=((B*said.length:Nat):Int)),aN (x:=8*y)]
     by_cases l:((B*said.length:Nat):Int)>8*y
     ·rw[decide_eq_true l,ii]
     ·obtain⟨M,F⟩:∃M:Nat,8*y=(M:Int):=⟨(8*y).toNat,by omega⟩;rw[decide_eq_false l,bU,F];rcases ase (n:=n) (said:=said) (y:=y) hm b H a with⟨h,-⟩|⟨-,z,z',t1,-,t3,-,t5,-,t7,-⟩
      ·exact absurd ⟨by omega,by omega,i⟩ h
      ·obtain⟨o,u,V,W,X,Y,Z,u6⟩:=aBG (n:=n) (N:=M) (by omega) a;obtain⟨w,x,w1,w2,I⟩:=aAQ (n:=n) t3 X Z t7 u6 a;rw[t1,aa,V,aa];simp only;rw[W,aa];simp only;rw[w1,aa];simp only;rw[show((0:Int)==0)=true from rfl,ii,ii,ii,w2,aa,aa,aa];have S:tpI n m r said y=kr (Ho n m r said)*2^(M -B*said.length):=by
        unfold tpI;rw[if_pos ⟨by omega,by rw[Q];rfl⟩,t,F];congr 2;omega
       have D:=L.mul (c:=2^(M -B*said.length)) (ed (by decide));rw[←S,E,ax,←abe,show B*said.length+(M -B*said.length)=M by omega]at D;rw[t5,Y]at I;rw[awW.uniq I D,beq_self_eq_true]
theorem aAh(x:(jN (acR 0).ps).den)(h:Yp (jN (acR 0).ps) x)(b:bt (jN (acR 0).ps) x≤1048576):∃n,agR n x=some true:=by
 obtain⟨m,r,s,y⟩:=x;have b:bt amm m+(bt TRq r+(bt aoa s+bt TN y))≤1048576:=b;exact⟨2000000000,avk LU (awD h.1 (by omega)) (asq (by omega)) (asr (by omega)) (az _)⟩
end Go.Am.Pu
