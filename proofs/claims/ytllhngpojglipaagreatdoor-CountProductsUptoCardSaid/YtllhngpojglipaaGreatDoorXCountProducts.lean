import Derived.Test.YtllhngpojglipaaGreatDoorD
import Derived.Test.YtllhngpojglipaaGreatDoorE3
import Derived.KernelRfl
import Derived.Test.YtllhngpojglipaaGreatDoorS
import Derived.Test.YtllhngpojglipaaGreatDoorP3
import Derived.Test.YtllhngpojglipaaGreatDoorP2
import Derived.Test.YtllhngpojglipaaGreatDoorP4
import Derived.Test.YtllhngpojglipaaGreatDoorP8
import Derived.Test.YtllhngpojglipaaGreatDoorP9
set_option linter.unusedVariables false
set_option linter.unusedSimpArgs false
open Array renaming toList→ej
open Bool renaming false_eq_true→cn,not_true→aY
open Int renaming ediv_nonneg→e7,mul_ediv_add_emod→dN,pow_add→abe,pow_pos→ed,pow_succ→c9
open Go.IntKind renaming wrap→ae
open List renaming drop_of_length_le→bA,getElem?_eq_getElem→ai,getElem_mem→am,length_append→ah,length→af,replicate→ao,set→aX,toArray→aeZ
open Nat renaming le_refl→az,mul_le_mul→bD
open Option renaming bind_some→aa
namespace Go.Am
open Go.Proofs.Tryz
noncomputable section
variable (n:Nat)
open Go Go.Proofs
def Zv:NS:=⟨[(0,.data aT),(1,aF),(6,.fix (.v false [.vec 4])),(7,aF),(8,aF)],[(4,.row au)],11⟩
def Iv:LS:=⟨Zv,[(.exit 0,⟨[(6,.fix (.v false [.vec 4])),(7,aF)],[(4,.row au)],11⟩)]⟩
def DO:Cx:=aE [(91,KM n)] [] [] [(4,Iv)] [] 39 n
def wn(x:ar×Int):Option (ar×Int):=ap (DO n) f92 [aT,au] [aT,au] x
def Of:Entry:=⟨[aT,au],[aT,au],wn n⟩
def rk(k:Nat)(v:ar×Int×Unit×Int×Int×ar×Unit):Option (Unit×Int×ar×Unit):=aw (DO n) f92 Iv 4 k v
def acD:NS:=⟨[(0,.data aT),(3,.data .str)],[],5⟩
def KO:LS:=⟨acD,[(.exit 0,⟨[(3,.data .str)],[],5⟩)]⟩
def acE:NS:=⟨[(0,.data aT),(3,.data .str),(5,aF),(6,aF)],[],18⟩
def KP:LS:=⟨acE,[(.exit 2,⟨[(0,.data aT),(3,.data .str)],[],18⟩)]⟩
def zc:Cx:=aE [(92,Of n)] [] [(8,[(29,.bool)])] [(4,KO),(8,KP)] [] 43 n
def zd(x:ar):Option (List UInt8):=ap (zc n) f44 [aT] [.str] x
def R8:Entry:=⟨[aT],[.str],zd n⟩
def tq(k:Nat)(v:ar×(List UInt8)×Unit):Option ((List UInt8)×Unit):=aw (zc n) f44 KO 4 k v
def tr(k:Nat)(v:ar×(List UInt8)×Int×Int×Unit):Option (ar×(List UInt8)×Unit):=aw (zc n) f44 KP 8 k v
def acF:Cx:=aE [(37,zY n),(44,R8 n)] [] [(1,[(8,.bool)])] [] [] 19 n
def Ak(x:rY×Int×ar×Int):Option (Bool):=ap (acF n) f13 [pT,au,aT,au] [.bool] x
def Pk:Entry:=⟨[pT,au,aT,au],[.bool],Ak n⟩
end
noncomputable section
variable (n:Nat)
def acG:NS:=⟨[(0,.data aT),(1,.data aT),(12,aF),(13,aF)],[],9⟩
def KS:LS:=⟨acG,[(.ret,⟨[(4,dB0)],[],9⟩),(.exit 0,⟨[],[],9⟩)]⟩
def GO:Cx:=aE [] [] [] [(4,KS)] [] 26 n
def tw(x:ar×ar):Option (Bool):=ap (GO n) f16 [aT,aT] [.bool] x
def R9:Entry:=⟨[aT,aT],[.bool],tw n⟩
def mq(k:Nat)(v:ar×ar×Int×Int×Unit):Option ((Bool×Unit)⊕Unit):=aw (GO n) f16 KS 4 k v
def acH:NS:=⟨[(2,.fix (.v false [.ptr 0 0])),(3,.fix (.v false [.ptr 1 0])),(5,aF)],[(0,.obj Y7),(1,.obj Y7)],20⟩
def KT:LS:=⟨acH,[(.ret,⟨[(4,dB0)],[],20⟩),(.exit 0,⟨[(2,.fix (.v false [.ptr 0 0])),(3,.fix (.v false [.ptr 1 0]))],[(0,.obj Y7),(1,.obj Y7)],20⟩)]⟩
def acI:NS:=⟨[(2,.fix (.v false [.ptr 0 0])),(3,.fix (.v false [.ptr 1 0])),(6,aF)],[(0,.obj Y7),(1,.obj Y7)],21⟩
def KU:LS:=⟨acI,[(.ret,⟨[(4,dB0)],[],21⟩),(.exit 2,⟨[],[],21⟩)]⟩
def ze:Cx:=aE [] [] [(1,[(22,.bool)])] [(4,KT),(9,KU)] [] 59 n
def zf(x:(D5×(List D1))×D5×(List D1)):Option (Bool):=ap (ze n) f47 [Y7,Y7] [.bool] x
def Sa:Entry:=⟨[Y7,Y7],[.bool],zf n⟩
def mr(k:Nat)(v:Unit×Unit×Int×(D5×(List D1))×(D5×(List D1))×Unit):Option ((Bool×Unit)⊕(Unit×Unit×(D5×(List D1))×(D5×(List D1))×Unit)):=aw (ze n) f47 KT 4 k v
def mu(k:Nat)(v:Unit×Unit×Int×(D5×(List D1))×(D5×(List D1))×Unit):Option ((Bool×Unit)⊕Unit):=aw (ze n) f47 KU 9 k v
def acJ:NS:=⟨[(0,.data Y8),(1,.data Y8),(12,aF),(13,aF)],[],9⟩
def KV:LS:=⟨acJ,[(.ret,⟨[(4,dB0)],[],9⟩),(.exit 0,⟨[],[],9⟩)]⟩
def GP:Cx:=aE [] [] [] [(4,KV)] [] 26 n
def dB(x:ar×ar):Option (Bool):=ap (GP n) f49 [Y8,Y8] [.bool] x
def GQ:Entry:=⟨[Y8,Y8],[.bool],dB n⟩
def mv(k:Nat)(v:ar×ar×Int×Int×Unit):Option ((Bool×Unit)⊕Unit):=aw (GP n) f49 KV 4 k v
def KW:Cx:=aE [(49,GQ n)] [] [(1,[(65,.bool)]),(3,[(5,.bool)]),(4,[(4,.bool)])] [] [] 134 n
def tz(x:pP×pP):Option (Bool):=ap (KW n) f48 [zD,zD] [.bool] x
def KX:Entry:=⟨[zD,zD],[.bool],tz n⟩
def acK:NS:=⟨[(2,.fix (.v false [.ptr 0 0])),(3,.fix (.v false [.ptr 1 0])),(44,aF),(45,aF)],[(0,.obj gW),(1,.obj gW)],43⟩
def KY:LS:=⟨acK,[(.ret,⟨[(4,dB0)],[],43⟩),(.exit 0,⟨[(2,.fix (.v false [.ptr 0 0])),(3,.fix (.v false [.ptr 1 0]))],[(0,.obj gW),(1,.obj gW)],43⟩)]⟩
def GR:Cx:=aE [(47,Sa n),(48,KX n),(49,GQ n)] [] [(1,[(41,.bool)]),(9,[(4,.bool)])] [(4,KY)] [] 101 n
def tA(x:(D4×fy)×D4×fy):Option (Bool):=ap (GR n) f17 [gW,gW] [.bool] x
def Sb:Entry:=⟨[gW,gW],[.bool],tA n⟩
def mw(k:Nat)(v:Unit×Unit×Int×Int×(D4×fy)×(D4×fy)×Unit):Option ((Bool×Unit)⊕(Unit×Unit×(D4×fy)×(D4×fy)×Unit)):=aw (GR n) f17 KY 4 k v
def uv:Cx:=aE [(8,vQ n),(9,Gq n),(10,Gs n),(11,xD n),(12,xG n),(13,Pk n),(14,Dx n),(15,DP n),(16,R9 n),(17,Sb n)] [] [(7,[(6,.bool)])] [] [] 62 n
def eB(x:(D4×fy)×xw×ar):Option (Bool):=ap (uv n) f3 [gW,zq,aT] [.bool] x
def cB:Entry:=⟨[gW,zq,aT],[.bool],eB n⟩
end
section
variable (n k:Nat)
set_option maxRecDepth 100000
set_option maxHeartbeats 4000000
theorem Wb(a0:ar)(a1:Int):wn n (a0,a1)=(Bx 8 (af a0:Int)).bind fun v1=>(rk n n (a0,a1,(),0,(ae .i64 ((af a0:Int) -1)),(ao v1 0),())).bind fun v2=>(wS n v2.2.2.1).bind fun v3=>some (v3,v2.2.1):=by kernel_rfl
theorem Bb(s0:ar)(s1 s7 s8:Int)(o4:ar):rk n (k+1) (s0,s1,(),s7,s8,o4,())=av (decide (s8≥0)) ((idx s0 s8).bind fun v1=>(qt .i64 (ae .i64 ((ae .i64 (s7*65536))+v1)) s1).bind fun v2=>(ck s8 (af o4)).bind fun v3=>((o4)[v3]?).bind fun _=>(rm (ae .i64 ((ae .i64 (s7*65536))+v1)) s1).bind fun v5=>rk n k (s0,s1,(),v5,(ae .i64 (s8 -1)),(aX o4 v3 v2),())) (some ((),s7,o4,())):=by kernel_rfl
theorem aar(a0:ar):zd n a0=av ((af a0:Int)==0) (some (ej (ByteArray.data (ByteArray.mk (aeZ [(48)]))))) ((tq n n (a0,(ej (ByteArray.data (ByteArray.mk (aeZ [])))),())).bind fun v1=>some v1.1):=by kernel_rfl
theorem SL(s0:ar)(s3:List UInt8):tq n (k+1) (s0,s3,())=av (decide ((af s0:Int)>0)) ((wn n (s0,10000)).bind fun v1=>(tr n n (v1.1,s3,v1.2,0,())).bind fun v2=>tq n k v2) (some (s3,())):=by kernel_rfl
theorem CT(s0:ar)(s3:List UInt8)(s5 s6:Int):tr n (k+1) (s0,s3,s5,s6,())=(av (decide (s6<4)) (av (decide ((af s0:Int)>0)) (some true) (some (decide (s5>0)))) (some false)).bind fun v1=>av v1 ((rm s5 10).bind fun v2=>(cat (bytesOf [(ae .u8 (ae .i64 (48+v2)))]) s3).bind fun v3=>(qt .i64 s5 10).bind fun v4=>tr n k (s0,v3,v4,(ae .i64 (s6+1)),())) (some (s0,s3,())):=by kernel_rfl
theorem afE(a0:rY)(a1:Int)(a2:ar)(a3:Int):Ak n (a0,a1,a2,a3)=(av (a1==a3) ((mh n a0).bind fun v2=>(zd n a2).bind fun v3=>some (v2==v3)) (some false)).bind fun v1=>some v1:=by kernel_rfl
end
section
variable (n k:Nat)
theorem aas(a0 a1:ar):tw n (a0,a1)=av ((af a0:Int)!=(af a1:Int)) (some false) ((mq n n (a0,a1,(af a0:Int),0,())).bind fun v1=>cI v1 (fun v2=>some v2.1) (fun _=>some true)):=by kernel_rfl
theorem CU(s0 s1:ar)(lM lO:Int):mq n (k+1) (s0,s1,lM,lO,())=av (decide (lO<lM)) ((idx s0 lO).bind fun v1=>(idx s1 lO).bind fun v2=>av (v1 !=v2) (some (.inl (false,()))) (mq n k (s0,s1,lM,(ae .i64 (lO+1)),()))) (some (.inr ())):=by kernel_rfl
theorem aat(a0 a1:D5×(List D1)):zf n (a0,a1)=(av ((af a0.1:Int)!=(af a1.1:Int)) (some true) (some ((af a0.2:Int)!=(af a1.2:Int)))).bind fun v1=>av v1 (some false) ((mr n n ((),(),0,a0,a1,())).bind fun v2=>cI v2 (fun v3=>some v3.1) (fun v4=>(mu n n ((),(),0,v4.2.2.1,v4.2.2.2.1,())).bind fun v5=>cI v5 (fun v6=>some v6.1) (fun _=>some true))):=by kernel_rfl
theorem CV(s5:Int)(o0 o1:D5×(List D1)):mr n (k+1) ((),(),s5,o0,o1,())=av (decide (s5<(af o0.1:Int))) ((idx o0.1 s5).bind fun v1=>(idx o1.1 s5).bind fun v2=>av (!(v1==v2)) (some (.inl (false,()))) (mr n k ((),(),(ae .i64 (s5+1)),o0,o1,()))) (some (.inr ((),(),o0,o1,()))):=by kernel_rfl
theorem CW(s6:Int)(o0 o1:D5×(List D1)):mu n (k+1) ((),(),s6,o0,o1,())=av (decide (s6<(af o0.2:Int))) ((idx o0.2 s6).bind fun v1=>(idx o1.2 s6).bind fun v2=>av (!((v1.1==v2.1)&&((v1.2.1==v2.2.1)&&((v1.2.2==v2.2.2)&&true)))) (some (.inl (false,()))) (mu n k ((),(),(ae .i64 (s6+1)),o0,o1,()))) (some (.inr ())):=by kernel_rfl
theorem aau(a0 a1:ar):dB n (a0,a1)=av ((af a0:Int)!=(af a1:Int)) (some false) ((mv n n (a0,a1,(af a0:Int),0,())).bind fun v1=>cI v1 (fun v2=>some v2.1) (fun _=>some true)):=by kernel_rfl
theorem CX(s0 s1:ar)(lM lO:Int):mv n (k+1) (s0,s1,lM,lO,())=av (decide (lO<lM)) ((idx s0 lO).bind fun v1=>(idx s1 lO).bind fun v2=>av (v1 !=v2) (some (.inl (false,()))) (mv n k (s0,s1,lM,(ae .i64 (lO+1)),()))) (some (.inr ())):=by kernel_rfl
theorem SM(a0 a1:pP):tz n (a0,a1)=(av (a0.2.2.2.2.2.2.1 !=a1.2.2.2.2.2.2.1) (some true) (av (a0.2.2.2.2.2.2.2.1 !=a1.2.2.2.2.2.2.2.1) (some true) (av (a0.2.2.2.2.2.2.2.2.1 !=a1.2.2.2.2.2.2.2.2.1) (some true) (av (a0.2.2.2.2.2.2.2.2.2.1 !=a1.2.2.2.2.2.2.2.2.2.1) (some true) (av (a0.2.2.2.2.2.2.2.2.2.2.1 !=a1.2.2.2.2.2.2.2.2.2.2.1) (some true) (av (a0.2.2.2.2.2.2.2.2.2.2.2.2.2.2.1 !=a1.2.2.2.2.2.2.2.2.2.2.2.2.2.2.1) (some true) (av (a0.2.2.2.2.2.2.2.2.2.2.2.2.2.2.2.1 !=a1.2.2.2.2.2.2.2.2.2.2.2.2.2.2.2.1) (some true) (some (a0.2.2.2.2.2.2.2.2.2.2.2.2.2.2.2.2 !=a1.2.2.2.2.2.2.2.2.2.2.2.2.2.2.2.2))))))))).bind fun v1=>av v1 (some false) (((dB n (a0.1,a1.1)).bind fun v3=>av v3 ((dB n (a0.2.1,a1.2.1)).bind fun v4=>av v4 ((dB n (a0.2.2.1,a1.2.2.1)).bind fun v5=>av v5 ((dB n (a0.2.2.2.1,a1.2.2.2.1)).bind fun v6=>av v6 ((dB n (a0.2.2.2.2.1,a1.2.2.2.2.1)).bind fun v7=>av v7 ((dB n (a0.2.2.2.2.2.1,a1.2.2.2.2.2.1)).bind fun v8=>some v8) (some false)) (some false)) (some false)) (some false)) (some false)).bind fun v2=>(av v2 ((dB n (a0.2.2.2.2.2.2.2.2.2.2.2.1,a1.2.2.2.2.2.2.2.2.2.2.2.1)).bind fun v10=>av v10 ((dB n (a0.2.2.2.2.2.2.2.2.2.2.2.2.1,a1.2.2.2.2.2.2.2.2.2.2.2.2.1)).bind fun v11=>av v11 ((dB n (a0.2.2.2.2.2.2.2.2.2.2.2.2.2.1,a1.2.2.2.2.2.2.2.2.2.2.2.2.2.1)).bind fun E7=>some E7) (some false)) (some false)) (some false)).bind fun v9=>some v9):=by kernel_rfl
theorem aav(a0 a1:D4×fy):tA n (a0,a1)=(av (!((a0.1.1==a1.1.1)&&((a0.1.2.1==a1.1.2.1)&&((a0.1.2.2.1==a1.1.2.2.1)&&((a0.1.2.2.2.1==a1.1.2.2.2.1)&&((a0.1.2.2.2.2.1==a1.1.2.2.2.2.1)&&((a0.1.2.2.2.2.2==a1.1.2.2.2.2.2)&&true))))))) (some true) ((zf n (a0.2.1,a1.2.1)).bind fun v2=>av (!v2) (some true) (av (a0.2.2.2.1 !=a1.2.2.2.1) (some true) (av (a0.2.2.2.2.2.2.2.2.2.2 !=a1.2.2.2.2.2.2.2.2.2.2) (some true) (some ((af a0.2.2.2.2.2.2.1:Int)!=(af a1.2.2.2.2.2.2.1:Int))))))).bind fun v1=>av v1 (some false) ((mw n n ((),(),(af a0.2.2.2.2.2.2.1:Int),0,a0,a1,())).bind fun v3=>cI v3 (fun v4=>some v4.1) (fun v5=>((dB n (v5.2.2.1.2.2.1,v5.2.2.2.1.2.2.1)).bind fun v7=>av v7 ((dB n (v5.2.2.1.2.2.2.2.1,v5.2.2.2.1.2.2.2.2.1)).bind fun v8=>av v8 ((dB n (v5.2.2.1.2.2.2.2.2.1,v5.2.2.2.1.2.2.2.2.2.1)).bind fun v9=>av v9 ((dB n (v5.2.2.1.2.2.2.2.2.2.2.1,v5.2.2.2.1.2.2.2.2.2.2.2.1)).bind fun v10=>av v10 ((dB n (v5.2.2.1.2.2.2.2.2.2.2.2.1,v5.2.2.2.1.2.2.2.2.2.2.2.2.1)).bind fun v11=>av v11 ((dB n (v5.2.2.1.2.2.2.2.2.2.2.2.2.1,v5.2.2.2.1.2.2.2.2.2.2.2.2.2.1)).bind fun E7=>some E7) (some false)) (some false)) (some false)) (some false)) (some false)).bind fun v6=>some v6)):=by kernel_rfl
theorem CY(s44 s45:Int)(o0 o1:D4×fy):mw n (k+1) ((),(),s44,s45,o0,o1,())=av (decide (s45<s44)) ((idx o0.2.2.2.2.2.2.1 s45).bind fun v1=>(idx o1.2.2.2.2.2.2.1 s45).bind fun v2=>(tz n (v1,v2)).bind fun v3=>av (!v3) (some (.inl (false,()))) (mw n k ((),(),s44,(ae .i64 (s45+1)),o0,o1,()))) (some (.inr ((),(),o0,o1,()))):=by kernel_rfl
theorem DS(a0:D4×fy)(a1:xw)(a2:ar):eB n (a0,a1,a2)=(gE n ()).bind fun v1=>av (!v1) (some false) ((oW n a0).bind fun v2=>(rC n a1).bind fun v3=>(app 8 [] a2).bind fun v4=>(jl n (a0,a1,v4)).bind fun v5=>(kQ n (v2,v3,a2)).bind fun v6=>((Ak n (v5.1,v5.2,v6)).bind fun v8=>av v8 ((n4 n (a1,v4)).bind fun v9=>(oi n (v3,a2)).bind fun v10=>av (v9==v10) ((tw n (v4,a2)).bind fun v11=>av v11 ((oW n a0).bind fun E7=>(tA n (v2,E7)).bind fun Cq=>some Cq) (some false)) (some false)) (some false)).bind fun v7=>some v7):=by kernel_rfl
end
section
variable (n k:Nat)
theorem agb:aq prog 92 (Of n):=aL (X:=DO n) (cc (XL n) c0) func92
theorem ajc:aq prog 44 (R8 n):=aL (X:=zc n) (cc (agb n) c0) func44
theorem adJ:aq prog 13 (Pk n):=aL (X:=acF n) (cc (Ll n) (cc (ajc n) c0)) func13
theorem XN:aq prog 46 (KR n):=aL (X:=KQ n) c0 func46
end
section
variable (n k:Nat)
theorem Ox:aq prog 15 (DP n):=aL (X:=Oh n) (cc (XN n) c0) func15
theorem ajd:aq prog 16 (R9 n):=aL (X:=GO n) c0 func16
theorem aje:aq prog 47 (Sa n):=aL (X:=ze n) c0 func47
theorem S3:aq prog 49 (GQ n):=aL (X:=GP n) c0 func49
theorem adK:aq prog 48 (KX n):=aL (X:=KW n) (cc (S3 n) c0) func48
theorem ajf:aq prog 17 (Sb n):=aL (X:=GR n) (cc (aje n) (cc (adK n) (cc (S3 n) c0))) func17
theorem I5:aq prog 3 (cB n):=aL (X:=uv n) (cc (DX n) (cc (PJ n) (cc (PK n) (cc (IG n) (cc (II n) (cc (adJ n) (cc (Oq n) (cc (Ox n) (cc (ajd n) (cc (ajf n) c0)))))))))) func3
end
end Go.Am
namespace Go.Am.Pu
open Go Go.Am
theorem da{n:Nat}{a:List Int}(h:a.length≤1000000000)(d:Hn0 n):dB n (a,a)=some true:=by
 rw[aau,ag,if_neg (by simp)];have b:=ba (L:=fun k i (_:Unit)=>mv n k (a,a,(a.length:Int),i,())) (len:=a.length) (r:=Sum.inr ()) (fun _=>()) ?_ ?_ n (by omega)
 ·rw[b];rfl
 ·intro k i c;show mv n (k+1) _=_;rw[CX,bP0,bn c 0];simp only[aa,ag];rw[if_neg (by simp),aN]
 ·intro k;show mv n (k+1) _=_;rw[CX,ag,if_neg (by simp)]
theorem Tk{n:Nat}{b:FP}(a:arA b)(c:Hn0 n):tz n (b,b)=some true:=by
 rw[SM];simp only[ag,bne_self_eq_false,cn,if_false];rw[da a.g1 c,da a.q c,da a.k c,da a.v c,da a.o c,da a.g2 c,da a.m1 c,da a.m2 c,da a.m3 c];rfl
theorem LB{n:Nat}{d:Int}{x:List Int}(o:1≤d∧d≤65536)(hx:ij 65536 x)(l:x.length≤1000000000):
  ∀(m k:Nat) (r:Int) (out:List Int),m≤x.length→m<k→Quo 65536 d x out r m→
  ∃g a,rk n k (x,d,(),r,(m:Int) -1,out,())=some ((),g,a,())∧Quo 65536 d x a g 0
 |0,k,r,out,i,j,h=>by
  obtain⟨k,rfl⟩:=gU k;rw[Bb,bN0];exact⟨r,out,rfl,h⟩
 |m+1,k,r,out,i,j,h=>by
  obtain⟨k,rfl⟩:=gU k;have c:m<x.length:=by omega
  have q:=hx.at c;have u:=h.rr;obtain⟨b,w,y,p⟩:=h.step (by omega) (by omega) hx c;have e:m<out.length:=by rw[h.len];exact c
  rw[Bb,bP0];rw[show((m+1:Nat):Int) -1=(m:Int)by omega,bj c];simp only[aa];have t:=e7 b (show 0≤d by omega);rw[aN (x:=r*65536),aN (x:=r*65536+x[m])];rw[zh (by omega) (by rw[bV b];omega) (by rw[bV b];omega),kT,bV b,pq b,dO e];simp only[aa];rw[ai e];simp only[aa];rw[aN (x:=(m:Int) -1)];exact LB o hx l m k _ _ (by omega) (by omega) p
theorem apO{n:Nat}{d:Int}{x:List Int}(e:1≤d∧d≤65536)(hx:Can 65536 x)(h:x.length≤1000000)(j:Hn0 n):
  ∃q,wn n (x,d)=some (q,vz 65536 x % d)∧Can 65536 q∧vz 65536 q=vz 65536 x/d∧q.length≤x.length:=by
 rw[Wb,fX (m:=x.length) rfl (by omega) (by omega)];simp only[aa];obtain⟨r,b,g,a⟩:=LB (n:=n) (d:=d) (x:=x) e hx.1 (by omega) x.length n 0 (ao x.length 0) (az _) (by omega)
  ⟨by simp,ij.rep (by omega) _,⟨by omega,by omega⟩,by rw[bA (az _),bA (by simp)];simp[vz]⟩
 rw[aN (x:=(x.length:Int) -1),g];simp only[aa];have i:=a.len;have c:=a.fin (by omega);rw[aoM (by omega) (by omega)];simp only[aa];rw[c.2];refine⟨_,rfl,qE a.dig,by rw[wy];exact c.1,?_⟩;have:=xl b;omega
theorem at5{d:Int}(a:0≤d)(b:d<10):bytesOf [ae .u8 (ae .i64 (48+d))]=[UInt8.ofNat (48+d.toNat)]:=by
 rw[aN,wu8];show[UInt8.ofNat (48+d).toNat]=_;rw[Int.toNat_add (by omega) a];rfl
theorem apP{P:List Int}{d:Int}:[UInt8.ofNat (48+d.toNat)]++Wt P=Wt (P++[d]):=by
 unfold Wt;simp
theorem arP(P:List Int):(Wt P).length=P.length:=by unfold Wt;simp
theorem OC{n:Nat}{x:List Int}:∀(m k j:Nat) (P:List Int) (r:Int),j+m=4→m<k→P.length+m≤1000000000→0≤r→r<10^m→ij 10 P→
  ∃Q,tr n k (x,Wt P,r,(j:Int),())=some (x,Wt (P++Q),())∧ij 10 Q∧vz 10 Q=r∧(x≠[]→Q.length=m)∧Q.length≤m∧(x=[]→Can 10 Q)
 |0,k,j,P,r,u,w,y,b,d,i=>by
  obtain⟨k,rfl⟩:=gU k;rw[CT,bN0];have:r=0:=by simp at d;omega
  subst this;exact⟨[],by simp[av],ij.nil,rfl,fun _=>rfl,az _,fun _=>Can.nil⟩
 |m+1,k,j,P,r,u,w,y,b,d,i=>by
  obtain⟨k,rfl⟩:=gU k;rw[CT,bP0]
  by_cases a:x=[]∧r=0
  ·obtain⟨rfl,rfl⟩:=a;exact⟨[],by simp[av],ij.nil,rfl,fun h=>absurd rfl h,Nat.zero_le _,fun _=>Can.nil⟩
  ·have e:av (decide ((x.length:Int)>0)) (some true) (some (decide (r>0)))=some true:=by
    rw[ag]
    split
    ·rfl
    ·rename_i h;rw[bx]at h;have H:x=[]:=List.length_eq_zero_iff.1 (by omega);congr 1;rw[bx];have:r≠0:=fun h=>a ⟨H,h⟩;omega
   rw[e];simp only[aa,ag,if_true];rw[kT,pq b];simp only[aa];rw[at5 (by omega) (by omega),abt (by rw[arP];simp;omega),apP];simp only[aa];have c:r/10<10^m:=by rw[c9]at d;omega
   have p:r≤9223372036854775807:=by
    have z:(10:Nat)^(m+1)≤10^4:=Nat.pow_le_pow_right (by omega) (by omega);have J:(10:Int)^(m+1)≤10^4:=by exact_mod_cast z
    have:(10:Int)^4=10000:=rfl;omega
   rw[zh (by omega) (by rw[bV b];omega) (by rw[bV b];omega),bV b];simp only[aa];rw[aN,show(j:Int)+1=((j+1:Nat):Int)by omega]
   by_cases K:P.length+1≤1000000000
   ·obtain⟨Q,E,D,q,F,g,B⟩:=OC (n:=n) (x:=x) m k (j+1) (P++[r % 10]) (r/10) (by omega) (by omega) (by simp;omega) (by omega) c (i.app (ij.cons (by omega) (by omega) ij.nil));rw[E];refine⟨r % 10::Q,by simp,ij.cons (by omega) (by omega) D,?_,fun h=>by simp[F h],by simpa using g,fun h=> ?_⟩
    ·show r % 10+10*vz 10 Q=r;rw[q];omega
    ·by_cases o:Q=[]
     ·subst o;refine⟨ij.cons (by omega) (by omega) ij.nil,fun _=> ?_⟩;have I:r/10=0:=by rw[←q];rfl
      have:r≠0:=fun t=>a ⟨h,t⟩;simp;omega
     ·exact Can.app (l:=[r % 10]) (ij.cons (by omega) (by omega) ij.nil) (B h) o
   ·omega
theorem LC{n V:Nat}(F:0<V)(y:Hn0 n):∀(k:Nat) (x P:List Int),Can 65536 x→x.length≤1000000→ij 10 P→jA (vz 65536 x)<k→
  P.length+4*jA (vz 65536 x)≤900000000→vz 10 P+10^P.length*vz 65536 x=(V:Int)→(x=[]→Can 10 P)→
  ∃Q,tq n k (x,Wt P,())=some (Wt Q,())∧Can 10 Q∧vz 10 Q=(V:Int)
 |0,x,P,_,_,_,h,_,_,_=>by omega
 |k+1,x,P,z,u,p,T,U,t,J=>by
  rw[SL];simp only[ag,bx]
  split
  ·rename_i o;have g:x≠[]:=by intro h;rw[h]at o;simp at o
   have j:=alJ (by omega) z g;obtain⟨q,K,M,e,N⟩:=apO (n:=n) (d:=10000) (x:=x) ⟨by omega,by omega⟩ z u y;rw[K];simp only[aa];obtain⟨Q,w,D,l,R,S,B⟩:=OC (n:=n) (x:=q) 4 n 0 P (vz 65536 x % 10000) (by omega) (by omega) (by omega) (by omega) (by have:(10:Int)^4=10000:=rfl;omega) p;rw[show((0:Nat):Int)=0 from rfl]at w;rw[w];simp only[aa];have L:=aho (v:=vz 65536 x) (d:=10000) j (by omega);rw[←e]at L;refine LC F y k q (P++Q) M (by omega) (p.app D) (by omega) (by rw[ah];omega) ?_ ?_
   ·by_cases c:q=[]
    ·subst c;have O:vz 65536 x/10000=0:=by rw[←e];rfl
     rw[Ea,l,←t,show vz 65536 []=0 from rfl,Int.mul_zero,Int.add_zero,show vz 65536 x % 10000=vz 65536 x by omega]
    ·rw[Ea,l,ah,R c,abe,e,←t];have E:(10:Int)^4=10000:=rfl;rw[E];have i:=dN (vz 65536 x) 10000;obtain⟨a,H⟩:∃a,a=vz 65536 x/10000:=⟨_,rfl⟩;obtain⟨b,I⟩:∃b,b=vz 65536 x % 10000:=⟨_,rfl⟩;rw[←H,←I]at i ⊢;rw[←i]
     grind
   ·intro c;have O:vz 65536 x/10000=0:=by rw[←e,c];rfl
    have r:Q≠[]:=by
     intro h;rw[h]at l;have:(0:Int)=vz 65536 x % 10000:=l;omega
    exact Can.app p (B c) r
  ·rename_i o;have g:x=[]:=List.length_eq_zero_iff.1 (by omega);refine⟨P,rfl,J g,?_⟩;rw[←t,g];simp[vz]
theorem arQ{n:Nat}{x:List Int}(hx:Can 65536 x)(c:x.length≤1000000)(j:Hn0 n):
  ∃s,zd n x=some s∧Lz (vz 65536 x) s:=by
 rw[aar];simp only[ag,beq_iff_eq]
 split
 ·rename_i h;have a:x=[]:=List.length_eq_zero_iff.1 (by omega);subst a;exact⟨_,rfl,.inl ⟨rfl,rfl⟩⟩
 ·rename_i h;have a:x≠[]:=by intro e;rw[e]at h;simp at h
  have b:=alJ (by omega) hx a;have i:jA (vz 65536 x)≤16*x.length:=Hk (by
   have:(65536:Int)^x.length=2^(16*x.length):=by rw[Int.pow_mul];rfl
   rw[←this];exact XU (by omega) hx.1)
  obtain⟨Q,d,g,k⟩:=LC (n:=n) (V:=(vz 65536 x).toNat) (by omega) j n x [] hx c ij.nil (by omega) (by simp;omega) (by simp[vz];omega) (fun h=>absurd h a);rw[show Wt []=[]from rfl]at d;rw[d];exact⟨_,rfl,.inr ⟨b,Q,g,by omega,rfl⟩⟩
theorem aaN{n:Nat}{v:D7}(c:v.1.length≤1048576)(d:v.2.length≤1048576)(h:Hn0 n):zf n (v,v)=some true:=by
 obtain⟨t,a⟩:=v;rw[aat];simp only[bne_self_eq_false,bU,aa];have e:=ba (L:=fun k i (_:Unit)=>mr n k ((),(),i,(t,a),(t,a),())) (len:=t.length) (r:=.inr ((),(),(t,a),(t,a),())) (fun _=>()) (by
  intro k i b;show mr n (k+1) _=_;rw[CV,ag,if_pos (by rw[bx];show(i:Int)<(t.length:Int);omega)];show(idx t (i:Int)).bind _=_;rw[bj b,aa];rw[aa,beq_self_eq_true,aY,bU,aN (by omega) (by simp only at c;omega)]) (by
  intro k;show mr n (k+1) _=_;rw[CV,ag,if_neg (by rw[bx];show ¬ (t.length:Int)<(t.length:Int);omega)]) n (by simp only at c;omega)
 have g:=ba (L:=fun k i (_:Unit)=>mu n k ((),(),i,(t,a),(t,a),())) (len:=a.length) (r:=.inr ()) (fun _=>()) (by
  intro k i b;show mu n (k+1) _=_;rw[CW,ag,if_pos (by rw[bx];show(i:Int)<(a.length:Int);omega)];show(idx a (i:Int)).bind _=_;rw[bj b,aa];rw[aa];simp only[beq_self_eq_true,Bool.and_self,aY];rw[bU,aN (by omega) (by simp only at d;omega)]) (by
  intro k;show mu n (k+1) _=_;rw[CW,ag,if_neg (by rw[bx];show ¬ (a.length:Int)<(a.length:Int);omega)]) n (by simp only at d;omega)
 rw[e,aa];simp only[cI];rw[g];rfl
theorem aaO{n:Nat}{m:Mod}(h:agf m)(a:Hn0 n):tA n (m,m)=some true:=by
 rw[aav];simp only[beq_self_eq_true,Bool.and_self,aY,bU];rw[aaN h.t h.ms a];simp only[aa,bne_self_eq_false,aY,bU];have o:=h.bs;have j:=ba (L:=fun k i (_:Unit)=>mw n k ((),(),(m.2.2.2.2.2.2.1.length:Int),i,m,m,())) (len:=m.2.2.2.2.2.2.1.length) (r:=.inr ((),(),m,m,())) (fun _=>()) (by
  intro k i d;have l:=h.b _ (am d);show mw n (k+1) _=_;rw[CY,bP0,bj d,aa,aa,Tk l a,aa,aY,bU,aN]) (by
  intro k;show mw n (k+1) _=_;rw[CY,bN0]) n (by omega)
 rw[j];simp only[aa,cI];have p:=h.e;have q:=h.c;have w:=h.si;have x:=h.be;have y:=h.g;have z:=h.u;rw[da (by omega) a,da (by omega) a,da (by omega) a,da (by omega) a,da (by omega) a,da (by omega) a];rfl
theorem aaP{n:Nat}{a:List Int}(h:a.length≤1000000000)(d:Hn0 n):tw n (a,a)=some true:=by
 rw[aas,bne_self_eq_false,bU];have b:=ba (L:=fun k i (_:Unit)=>mq n k (a,a,(a.length:Int),i,())) (len:=a.length) (r:=.inr ()) (fun _=>()) (by
  intro k i c;show mq n (k+1) _=_;rw[CU,bP0,bj c,aa,aa,bne_self_eq_false,bU,aN]) (by
  intro k;show mq n (k+1) _=_;rw[CU,bN0]) n (by omega)
 rw[b];rfl
theorem TV{n:Nat}{z a:List Int}{e:Int}(c:Can 4294967296 z)(d:Can 65536 a)(g:vz 4294967296 z=vz 65536 a)(h:z.length≤1000000)(i:a.length≤1000000)(b:Hn0 n):
  Ak n ((z,()),e,a,e)=some true:=by
 rw[afE];obtain⟨s,j,k⟩:=alN (n:=n) c h b;obtain⟨t,t1,t2⟩:=arQ (n:=n) d i b;simp only[beq_self_eq_true,ii];rw[j,t1,Lz.uniq k (by rw[g];exact t2)];simp
theorem vm{n:Nat}{m:Mod}{r:Rq}{said:List Int}(D:gE n ()=some true)(hm:MO m)(h:OkR r)(I:said.length≤1048576)(a:Hn0 n):eB n (m,r,said)=some true:=by
 rw[DS,D,aa,aY,bU,Bn hm.o.len a,aa,LR h a,aa,Mk,aa];have b:(n4 n (r,said)).bind (fun K=>(oi n (r,said)).bind fun i=>av (K==i) ((tw n (said,said)).bind fun j=>av j ((oW n m).bind fun l=>(tA n (m,l)).bind fun q=>some q) (some false)) (some false))=some true:=by
  rw[LP (by omega) a,aa,Yf (by omega) a,aa,beq_self_eq_true,ii,aaP (by omega) a,aa,ii,Bn hm.o.len a,aa,aaO hm.o.len a,aa]
 rcases prods (n:=n) (said:=said) hm h I a with⟨-,e,-,c,d⟩|⟨g,z,M,c,d,t,y,u,B,L⟩
 ·rw[c,aa,d,aa];simp only;rw[TV Can.nil Can.nil rfl (by simp) (by simp) a,aa,ii,←Bn hm.o.len a,b];rfl
 ·have F:=g.len;have H:=aeL hm h g a;have E:=LQ g.w.p.bits;have x:r.2.1.2.2.2.2.1.toNat*said.length≤32*512:=bD (by omega) F;have J:=xm t (k:=r.2.1.2.2.2.2.1.toNat*said.length+1) (by rw[u,c9];have:(0:Int)<2^(r.2.1.2.2.2.2.1.toNat*said.length):=ed (by decide);omega);rw[c,aa,d,aa];simp only;rw[TV t y (u.trans B.symm) (by omega) (by omega) a,aa,ii,←Bn hm.o.len a,b];rfl
theorem asr{l:List Int}(h:bt aoa l≤1048576):l.length≤1048576:=by
 have:=aso l;omega
theorem MQ(x:(jN (cB 0).ps).den)(h:Yp (jN (cB 0).ps) x)(b:bt (jN (cB 0).ps) x≤1048576):∃n,eB n x=some true:=by
 obtain⟨m,r,s⟩:=x;have b:bt amm m+(bt TRq r+bt aoa s)≤1048576:=b;exact⟨2000000000,vm LU (awD h.1 (by omega)) (asq (by omega)) (asr (by omega)) (az _)⟩
end Go.Am.Pu
