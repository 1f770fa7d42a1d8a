import Derived.Test.YtpdgokkbljiccaaGreatGT
import Derived.Test.YtpdgokkbljiccaaGreatA4
import Derived.Test.YtpdgokkbljiccaaGreatProg
import Derived.Test.YtpdgokkbljiccaaGreatD
import Derived.Test.YtpdgokkbljiccaaGreatE2
import Derived.KernelRfl
import Derived.Test.YtpdgokkbljiccaaGreatS
import Derived.Test.YtpdgokkbljiccaaGreatP5
import Derived.Test.YtpdgokkbljiccaaGreatP7
set_option linter.unusedVariables false
set_option linter.unusedSimpArgs false
open Bool renaming not_true→cD
open Int renaming toNat_natCast→aH
open Go.IntKind renaming i64→bx,wrap→ae
open List renaming append_assoc→bI,append_nil→ab1,getD_eq_getElem?_getD→bd,getElem?_eq_getElem→ai,getElem_mem→ap,getElem_of_mem→cZ,length_append→aE,length_drop→cy,length_map→aci,length_take→aR,length→ac,map_append→acl,nil_append→ct,range→abY,take_of_length_le→bp,take_zero→abZ
open Nat renaming le_refl→av,mul_le_mul→aT
open Option renaming bind_some→aa
namespace Go.Am
open Go Go.Proofs
set_option maxRecDepth 100000
abbrev Y46:Ty:=.ref iV
abbrev Y47:Ty:=.pair Y46 .unit
abbrev D47:Type:=(D4×iA)×Unit
abbrev Y48:Ty:=.cl 135 Y47
def O78:uJ:=⟨[.sl (.int .i64)],(.int .i64),fun x=>app 8 [] x⟩
theorem ak9:n5 Tryz.prog 78 O78:=mq (X:={ tt:=tt,calls:=[],owns:=[],loops:=[],cN:=[],nt:=8,fuel:=0 }) (fn:=Tryz.f78) (e0:=(.int .i64)) (eT:=(.int .i64)) mixed ⟨iX,c0,o0,s0,v0⟩ Tryz.func78 (by kernel_rfl) (by kernel_rfl) (by kernel_rfl) (by decide) fun x l h=>by
 have hb:af3 { tt:=tt,calls:=[],owns:=[],loops:=[],cN:=[],nt:=8,fuel:=0 } Tryz.f78 (.int .i64) [.v false [.sl (.int .i64) x .nn]]=(app 8 [] x).bind fun l=>some l:=by kernel_rfl
 refine⟨?_,fun hx=> ?_⟩
 ·rw[hb,h];rfl
 ·subst hx
  cases h
  kernel_rfl
open Go.Proofs.Tryz
noncomputable section
variable (n:Nat)
def ahU:Cx:=aF [] [] [(1,[(3,.bool)])] [] [] 13 n
def agW(x:Int×(D4×iA)):Option (Bool):=ao (ahU n) f135 [am,Y46] [.bool] x
def ahW:Entry:=⟨[am,Y46],[.bool],agW n⟩
def aeF:NS:=⟨[(0,.data bG),(1,.cl 135 Y47),(7,aJ),(8,aJ)],[],4⟩
def ade:LS:=⟨aeF,[(.ret,⟨[(4,aJ)],[],4⟩),(.exit 0,⟨[],[],4⟩)]⟩
def aco:Cx:=aF [(135,ahW n)] [] [] [(2,ade)] [] 19 n
def acp(x:aq×D47):Option (Int):=ao (aco n) f190 [bG,Y48] [am] x
def adq:Entry:=⟨[bG,Y48],[am],acp n⟩
def aaI(k:Nat)(v:aq×D47×Int×Int×Unit):Option ((Int×Unit)⊕Unit):=az (aco n) f190 ade 2 k v
def ac5:Cx:=aF [(190,adq n)] [] [] [] [] 9 n
def abk(x:aq×D47):Option (Bool):=ao (ac5 n) f134 [bG,Y48] [.bool] x
def ac8:Entry:=⟨[bG,Y48],[.bool],abk n⟩
def aiN:Cx:=aF [(134,ac8 n)] [] [(1,[(5,.bool)])] [] [] 21 n
def af4(x:(D4×iA)×aq):Option (Int):=ao (aiN n) f76 [iV,bG] [am] x
def ahy:Entry:=⟨[iV,bG],[am],af4 n⟩
def ajt:NS:=⟨[(2,.fix (.v false [.ptr 0 0])),(9,.own bG),(22,.data rE),(23,aJ),(24,aJ)],[(0,.obj iV)],18⟩
def ahZ:LS:=⟨ajt,[(.ret,⟨[(4,.own bG),(5,aJ),(6,aJ)],[],18⟩),(.exit 0,⟨[(9,.own bG)],[],18⟩)]⟩
def ahz:Cx:=aF [(61,uQ n),(76,ahy n),(20,rP n)] [] [] [(6,ahZ)] [] 48 n
def agU(x:(D4×iA)×sW):Option (sW×Int×Int):=ao (ahz n) f27 [iV,rE] [rE,am,am] x
def aiO:Entry:=⟨[iV,rE],[rE,am,am],agU n⟩
def aeK(k:Nat)(v:Unit×(List aq)×sW×Int×Int×(D4×iA)×Unit):Option (((List aq)×Int×Int×Unit)⊕((List aq)×Unit)):=az (ahz n) f27 ahZ 6 k v
def aju:NS:=⟨[(1,.data rE),(2,.fix (.v false [.ptr 0 0])),(10,.own bG),(11,aJ)],[(0,.obj iV)],18⟩
def ah0:LS:=⟨aju,[(.ret,⟨[(4,.own bG),(5,aJ),(6,aJ)],[],18⟩),(.exit 0,⟨[(10,.own bG)],[],18⟩)]⟩
def ahA:Cx:=aF [(66,CX n),(21,r4 n)] [] [] [(6,ah0)] [] 49 n
def agV(x:(D4×iA)×sW):Option (sW×Int×Int):=ao (ahA n) f28 [iV,rE] [rE,am,am] x
def aiP:Entry:=⟨[iV,rE],[rE,am,am],agV n⟩
def aeM(k:Nat)(v:sW×Unit×(List aq)×Int×(D4×iA)×Unit):Option (((List aq)×Int×Int×Unit)⊕((List aq)×Unit)):=az (ahA n) f28 ah0 6 k v
def ajF:NS:=⟨[(0,.data rE),(1,.data rE),(5,aJ)],[],7⟩
def aiI:LS:=⟨ajF,[(.ret,⟨[(4,YE)],[],7⟩),(.exit 0,⟨[],[],7⟩)]⟩
def ah1:Cx:=aF [(24,vo n)] [] [] [(4,aiI)] [] 27 n
def ag0(x:sW×sW):Option (Bool):=ao (ah1 n) f29 [rE,rE] [.bool] x
def ajg:Entry:=⟨[rE,rE],[.bool],ag0 n⟩
def aeu(k:Nat)(v:sW×sW×Int×Unit):Option ((Bool×Unit)⊕Unit):=az (ah1 n) f29 aiI 4 k v
def aiJ:Cx:=aF [(61,uQ n),(76,ahy n)] [] [] [] [] 17 n
def ad9(x:(D4×iA)×aq):Option (Int):=ao (aiJ n) f77 [iV,bG] [am] x
def agA:Entry:=⟨[iV,bG],[am],ad9 n⟩
def ai6:NS:=⟨[(0,.data bG),(3,aJ),(6,.data bG),(7,aJ),(8,aJ)],[],5⟩
def ahn:LS:=⟨ai6,[(.exit 0,⟨[(3,aJ)],[],5⟩)]⟩
def agX:Cx:={ tt:=tt,calls:=[],owns:=[],Vt:=[(5,[(22,.bool)])],lcs:=[(22,[(3,am)],2)],loops:=[(3,ahn)],cN:=[],nt:=26,fuel:=n }
def agj(x:aq):Option (Int):=ao (agX n) f79 [bG] [am] x
def ah3:Entry:=⟨[bG],[am],agj n⟩
def ac9(k:Nat)(v:aq×Int×aq×Int×Int×Unit):Option (Int×Unit):=az (agX n) f79 ahn 3 k v
def ai7:NS:=⟨[(2,aJ),(3,.fix (.v false [.ptr 0 0])),(9,.own am),(10,.own am)],[(0,.obj iV)],15⟩
def aho:LS:=⟨ai7,[(.exit 0,⟨[(10,.own am)],[],15⟩)]⟩
def agY:Cx:=aF [(77,agA n),(20,rP n),(79,ah3 n)] [(78,O78)] [(8,[(49,.bool)])] [(8,aho)] [] 67 n
def agl(x:(D4×iA)×aq×Int):Option (aq×Int):=ao (agY n) f30 [iV,bG,am] [bG,am] x
def ah4:Entry:=⟨[iV,bG,am],[bG,am],agl n⟩
def aeP(k:Nat)(v:Int×Unit×aq×aq×(D4×iA)×Unit):Option (aq×Unit):=az (agY n) f30 aho 8 k v
def ajl:NS:=⟨[(0,.data bG),(1,aJ),(5,aJ),(6,aJ)],[],3⟩
def ahN:LS:=⟨ajl,[(.exit 0,⟨[(5,aJ)],[],3⟩)]⟩
def ahg:Cx:={ tt:=tt,calls:=[],owns:=[],Vt:=[(5,[(37,.bool)])],lcs:=[(37,[(5,am)],3)],loops:=[(3,ahN)],cN:=[],nt:=41,fuel:=n }
def ae3(x:aq×Int):Option (Int):=ao (ahg n) f80 [bG,am] [am] x
def ahh:Entry:=⟨[bG,am],[am],ae3 n⟩
def adr(k:Nat)(v:aq×Int×Int×Int×Unit):Option (Int×Unit):=az (ahg n) f80 ahN 3 k v
def ai8:NS:=⟨[(1,.data bG),(2,aJ),(3,.fix (.v false [.ptr 0 0])),(10,.own am)],[(0,.obj iV)],17⟩
def ahr:LS:=⟨ai8,[(.exit 0,⟨[(10,.own am)],[],17⟩)]⟩
def aiQ:NS:=⟨[(1,.data bG),(2,aJ),(3,.fix (.v false [.ptr 0 0])),(10,.own am),(11,.data bG),(13,aJ)],[(0,.obj iV)],60⟩
def ag1:LS:=⟨aiQ,[(.exit 2,⟨[(1,.data bG),(2,aJ),(3,.fix (.v false [.ptr 0 0])),(10,.own am),(13,aJ)],[(0,.obj iV)],60⟩)]⟩
def agm:Cx:=aF [(21,r4 n),(80,ahh n)] [] [(7,[(56,.bool)])] [(7,ahr),(10,ag1)] [] 78 n
def agn(x:(D4×iA)×aq×Int):Option (aq×Int):=ao (agm n) f31 [iV,bG,am] [bG,am] x
def ah5:Entry:=⟨[iV,bG,am],[bG,am],agn n⟩
def aeV(k:Nat)(v:aq×Int×Unit×aq×(D4×iA)×Unit):Option (aq×Unit):=az (agm n) f31 ahr 7 k v
def acJ(k:Nat)(v:aq×Int×Unit×aq×aq×Int×(D4×iA)×Unit):Option (aq×Int×Unit×aq×Int×(D4×iA)×Unit):=az (agm n) f31 ag1 10 k v
end
noncomputable section
variable (n:Nat)
def agL:Cx:=aF [] [] [] [] [] 3 n
def aeX(x:Int):Option (List ou):=ao (agL n) f81 [am] [qN] x
def agM:Entry:=⟨[am],[qN],aeX n⟩
def aes:NS:=⟨[(0,.ref Z1),(2,.fix (.v false [.clos 81 []])),(8,.own bG),(17,.data bG),(18,aJ),(19,aJ)],[],6⟩
def ac1:LS:=⟨aes,[(.exit 0,⟨[(0,.ref Z1),(2,.fix (.v false [.clos 81 []])),(8,.own bG)],[],6⟩)]⟩
def aet:NS:=⟨[(0,.ref Z1),(2,.fix (.v false [.clos 81 []])),(8,.data rE),(11,.own qN),(34,.data Y23),(35,aJ),(36,aJ)],[],15⟩
def ac2:LS:=⟨aet,[(.exit 2,⟨[(8,.data rE),(11,.own qN)],[],15⟩)]⟩
def aaU:Cx:=aF [(136,yf n),(81,agM n),(13,xn n)] [] [] [(3,ac1),(9,ac2)] [] 63 n
def aa2(x:OX×aq×Unit):Option (sW×D44):=ao (aaU n) f82 [Y40,bG,(.fn 81)] [rE,TW] x
def adh:Entry:=⟨[Y40,bG,(.fn 81)],[rE,TW],aa2 n⟩
def aaJ(k:Nat)(v:OX×Unit×(List aq)×aq×Int×Int×Unit):Option (OX×Unit×(List aq)×Unit):=az (aaU n) f82 ac1 3 k v
def aaK(k:Nat)(v:OX×Unit×sW×(List (List ou))×(List kT)×Int×Int×Unit):Option (sW×(List (List ou))×Unit):=az (aaU n) f82 ac2 9 k v
def aeN:NS:=⟨[(0,.ref Z1),(9,.data TW),(10,.own bG),(20,.data rE),(21,aJ),(22,aJ)],[],15⟩
def adi:LS:=⟨aeN,[(.exit 0,⟨[(9,.data TW),(10,.own bG)],[],15⟩)]⟩
def acq:Cx:=aF [(82,adh n),(125,rN n)] [] [] [(4,adi)] [] 35 n
def aba(x:OX×aq×Unit):Option (sW×D44):=ao (acq n) f64 [Y40,bG,(.fn 81)] [rE,TW] x
def adX:Entry:=⟨[Y40,bG,(.fn 81)],[rE,TW],aba n⟩
def aaL(k:Nat)(v:OX×D44×(List aq)×sW×Int×Int×Unit):Option (D44×(List aq)×Unit):=az (acq n) f64 adi 4 k v
def aiz:NS:=⟨[(8,.data rE),(10,.own am),(30,.data bG),(31,aJ),(32,aJ)],[],25⟩
def agN:LS:=⟨aiz,[(.exit 0,⟨[(10,.own am)],[],25⟩)]⟩
def ah6:NS:=⟨[(8,.data rE),(10,.own am),(11,aJ),(12,aJ),(13,aJ),(30,.data bG),(31,aJ),(32,aJ),(40,.data bG),(41,aJ),(42,aJ)],[],39⟩
def agF:LS:=⟨ah6,[(.exit 2,⟨[(8,.data rE),(10,.own am),(13,aJ),(30,.data bG),(31,aJ),(32,aJ)],[],39⟩)]⟩
def aex:Cx:={ tt:=tt,calls:=[(77,agA n),(62,rH n),(64,adX n)],owns:=[],Vt:=[(14,[(71,.bool)])],lcs:=[(71,[(13,am)],3)],loops:=[(8,agN),(12,agF)],cN:=[],nt:=81,fuel:=n }
def aey(x:(D4×iA)×aq):Option (aq×Int):=ao (aex n) f32 [iV,bG] [bG,am] x
def ag2:Entry:=⟨[iV,bG],[bG,am],aey n⟩
def acr(k:Nat)(v:sW×aq×aq×Int×Int×Unit):Option (aq×Unit):=az (aex n) f32 agN 8 k v
def abW(k:Nat)(v:sW×aq×Int×Int×Int×aq×Int×Int×aq×Int×Int×Unit):Option (sW×aq×Int×aq×Int×Int×Unit):=az (aex n) f32 agF 12 k v
def aiA:NS:=⟨[(1,.data bG),(8,.data rE),(9,.own am),(10,aJ)],[],20⟩
def agP:LS:=⟨aiA,[(.exit 0,⟨[(9,.own am)],[],20⟩)]⟩
def ago:Cx:=aF [(21,r4 n),(68,JO n),(80,ahh n)] [] [] [(7,agP)] [] 45 n
def aez(x:(D4×iA)×aq):Option (aq×Int):=ao (ago n) f33 [iV,bG] [bG,am] x
def ag3:Entry:=⟨[iV,bG],[bG,am],aez n⟩
def acs(k:Nat)(v:aq×sW×aq×Int×Unit):Option (aq×Unit):=az (ago n) f33 agP 7 k v
def aiK:Cx:=aF [] [] [] [] [] 3 n
def ahl(x:Int):Option (List ou):=ao (aiK n) f83 [am] [qN] x
def aiL:Entry:=⟨[am],[qN],ahl n⟩
def ae5:NS:=⟨[(0,.ref Z1),(2,.fix (.v false [.clos 83 []])),(8,.own bG),(17,.data bG),(18,aJ),(19,aJ)],[],6⟩
def ad5:LS:=⟨ae5,[(.exit 0,⟨[(0,.ref Z1),(2,.fix (.v false [.clos 83 []])),(8,.own bG)],[],6⟩)]⟩
def afR:NS:=⟨[(0,.ref Z1),(2,.fix (.v false [.clos 83 []])),(8,.data rE),(11,.own qN),(34,.data Y23),(35,aJ),(36,aJ)],[],15⟩
def ad6:LS:=⟨afR,[(.exit 2,⟨[(8,.data rE),(11,.own qN)],[],15⟩)]⟩
def abf:Cx:=aF [(136,yf n),(83,aiL n),(13,xn n)] [] [] [(3,ad5),(9,ad6)] [] 63 n
def abg(x:OX×aq×Unit):Option (sW×D44):=ao (abf n) f82 [Y40,bG,(.fn 83)] [rE,TW] x
def ad7:Entry:=⟨[Y40,bG,(.fn 83)],[rE,TW],abg n⟩
def aaM(k:Nat)(v:OX×Unit×(List aq)×aq×Int×Int×Unit):Option (OX×Unit×(List aq)×Unit):=az (abf n) f82 ad5 3 k v
def aaT(k:Nat)(v:OX×Unit×sW×(List (List ou))×(List kT)×Int×Int×Unit):Option (sW×(List (List ou))×Unit):=az (abf n) f82 ad6 9 k v
def ajh:Cx:=aF [(77,agA n),(62,rH n),(82,ad7 n),(84,oj n)] [] [] [] [] 38 n
def ag4(x:(D4×iA)×aq):Option (aq×Int):=ao (ajh n) f34 [iV,bG] [Y8,am] x
def aji:Entry:=⟨[iV,bG],[Y8,am],ag4 n⟩
def ajj:Cx:=aF [(21,r4 n),(26,xC n),(85,tO n)] [] [] [] [] 44 n
def ag8(x:(D4×iA)×aq):Option (aq×Int):=ao (ajj n) f35 [iV,bG] [Y8,am] x
def ajk:Entry:=⟨[iV,bG],[Y8,am],ag8 n⟩
def ajv:NS:=⟨[(0,.data bG),(1,.data bG),(5,aJ)],[],7⟩
def ah8:LS:=⟨ajv,[(.ret,⟨[(4,YE)],[],7⟩),(.exit 0,⟨[],[],7⟩)]⟩
def ahC:Cx:=aF [] [] [] [(4,ah8)] [] 26 n
def agp(x:aq×aq):Option (Bool):=ao (ahC n) f36 [bG,bG] [.bool] x
def aiR:Entry:=⟨[bG,bG],[.bool],agp n⟩
def aea(k:Nat)(v:aq×aq×Int×Unit):Option ((Bool×Unit)⊕Unit):=az (ahC n) f36 ah8 4 k v
def aiB:NS:=⟨[(1,.data rE),(2,aJ),(3,.fix (.v false [.ptr 0 0])),(7,.fix (.v false [.ptr 4 0])),(14,aJ)],[(0,.obj iV),(4,.obj iV)],45⟩
def agQ:LS:=⟨aiB,[(.ret,⟨[(6,YE)],[],45⟩),(.exit 0,⟨[],[],45⟩)]⟩
def aia:NS:=⟨[(1,.data rE),(2,aJ),(3,.fix (.v false [.ptr 0 0])),(7,.fix (.v false [.ptr 4 0])),(14,aJ),(24,.data Y8),(26,.data Y8),(28,aJ)],[(0,.obj iV),(4,.obj iV)],137⟩
def agG:LS:=⟨aia,[(.ret,⟨[(6,YE)],[],137⟩),(.exit 2,⟨[(1,.data rE),(2,aJ),(3,.fix (.v false [.ptr 0 0])),(7,.fix (.v false [.ptr 4 0])),(14,aJ)],[(0,.obj iV),(4,.obj iV)],137⟩)]⟩
def aeD:Cx:=aF [(22,DS n),(27,aiO n),(28,aiP n),(23,vm n),(29,ajg n),(30,ah4 n),(31,ah5 n),(32,ag2 n),(33,ag3 n),(34,aji n),(35,ajk n),(36,aiR n)] [] [(4,[(62,.bool)]),(16,[(142,.bool)])] [(7,agQ),(19,agG)] [] 158 n
def acU(x:(D4×iA)×sW×Int):Option (Bool):=ao (aeD n) f6 [iV,rE,am] [.bool] x
def aa5:Entry:=⟨[iV,rE,am],[.bool],acU n⟩
def acu(k:Nat)(v:sW×Int×Unit×Unit×Int×(D4×iA)×(D4×iA)×Unit):Option ((Bool×Unit)⊕Unit):=az (aeD n) f6 agQ 7 k v
def abX(k:Nat)(v:sW×Int×Unit×Unit×Int×aq×aq×Int×(D4×iA)×(D4×iA)×Unit):Option ((Bool×Unit)⊕(sW×Int×Unit×Unit×Int×(D4×iA)×(D4×iA)×Unit)):=az (aeD n) f6 agG 19 k v
end
section
variable (n k:Nat)
set_option maxHeartbeats 4000000
theorem aiS(a0:Int)(a1:D4×iA):agW n (a0,a1)=(aw (decide (a0<0)) (some true) (some (decide (a0≥a1.1.1)))).bind fun v1=>some v1:=by kernel_rfl
theorem aev(a0:aq)(a1:D47):acp n (a0,a1)=(aaI n n (a0,a1,(ac a0:Int),0,())).bind fun v1=>ea v1 (fun v2=>some v2.1) (fun _=>some (-1)):=by kernel_rfl
theorem acV(s0:aq)(s1:D47)(s7 s8:Int):aaI n (k+1) (s0,s1,s7,s8,())=aw (decide (s8<s7)) ((idx s0 s8).bind fun v1=>(agW n (v1,s1.1)).bind fun v2=>aw v2 (some (.inl (s8,()))) (aaI n k (s0,s1,s7,(ae .i64 (s8+1)),()))) (some (.inr ())):=by kernel_rfl
theorem aeb(a0:aq)(a1:D47):abk n (a0,a1)=(acp n (a0,a1)).bind fun v1=>some (decide (v1≥0)):=by kernel_rfl
theorem ajm(a0:D4×iA)(a1:aq):af4 n (a0,a1)=(aw ((ac a1:Int)==0) (some true) (some (decide ((ac a1:Int)>a0.1.2.1)))).bind fun v1=>aw v1 (some 212) ((abk n (a1,a0,())).bind fun v2=>aw v2 (some 133) (some 0)):=by kernel_rfl
theorem ajn(a0:D4×iA)(a1:sW):agU n (a0,a1)=(oA n a0).bind fun v1=>aw (v1.2 !=0) (some ([],0,210)) ((aeK n n ((),[],a1,(ac a1:Int),0,a0,())).bind fun v2=>ea v2 (fun v3=>some (v3.1,v3.2.1,v3.2.2.1)) (fun v4=>some (v4.1,0,0))):=by kernel_rfl
theorem ag9(s9:List aq)(ru:sW)(zu Xg:Int)(o0:D4×iA):aeK n (k+1) ((),s9,ru,zu,Xg,o0,())=aw (decide (Xg<zu)) ((idx ru Xg).bind fun v1=>(af4 n (o0,v1)).bind fun v2=>aw (v2 !=0) (some (.inl ([],Xg,v2,()))) ((gA n (o0,v1)).bind fun v3=>(app 24 s9 [v3.1]).bind fun v4=>aeK n k ((),v4,ru,zu,(ae .i64 (Xg+1)),o0,()))) (some (.inr (s9,()))):=by kernel_rfl
theorem ajo(a0:D4×iA)(a1:sW):agV n (a0,a1)=(oO n a0).bind fun v1=>aw (v1.2.2 !=0) (some ([],0,210)) ((aeM n n (a1,(),[],0,a0,())).bind fun v2=>ea v2 (fun v3=>some (v3.1,v3.2.1,v3.2.2.1)) (fun v4=>some (v4.1,0,0))):=by kernel_rfl
theorem aha(s1:sW)(i1:List aq)(py:Int)(o0:D4×iA):aeM n (k+1) (s1,(),i1,py,o0,())=aw (decide (py<(ac s1:Int))) ((idx s1 py).bind fun v1=>(gD n (o0,v1)).bind fun v2=>aw (v2.2 !=0) (some (.inl ([],py,v2.2,()))) ((app 24 i1 [v2.1]).bind fun v3=>aeM n k (s1,(),v3,(ae .i64 (py+1)),o0,()))) (some (.inr (i1,()))):=by kernel_rfl
theorem ajw(a0 a1:sW):ag0 n (a0,a1)=aw ((ac a0:Int)!=(ac a1:Int)) (some false) ((aeu n n (a0,a1,0,())).bind fun v1=>ea v1 (fun v2=>some v2.1) (fun _=>some true)):=by kernel_rfl
theorem ahu(s0 s1:sW)(s5:Int):aeu n (k+1) (s0,s1,s5,())=aw (decide (s5<(ac s0:Int))) ((idx s0 s5).bind fun v1=>(idx s1 s5).bind fun v2=>(ll n (v1,v2)).bind fun v3=>aw (!v3) (some (.inl (false,()))) (aeu n k (s0,s1,(ae .i64 (s5+1)),()))) (some (.inr ())):=by kernel_rfl
theorem ahw(a0:D4×iA)(a1:aq):ad9 n (a0,a1)=(oA n a0).bind fun v1=>aw (v1.2 !=0) (some 210) ((af4 n (a0,a1)).bind fun v2=>some v2):=by kernel_rfl
theorem aiT(a0:aq):agj n a0=(ac9 n n (a0,(-1),a0,(ac a0:Int),0,())).bind fun v1=>some v1.1:=by kernel_rfl
theorem agR(s0:aq)(s3:Int)(s6:aq)(s7 s8:Int):ac9 n (k+1) (s0,s3,s6,s7,s8,())=aw (decide (s8<s7)) ((idx s6 s8).bind fun v1=>(aw (decide (s3<0)) (some true) ((idx s0 s3).bind fun v3=>some (decide (v1>v3)))).bind fun v2=>(aw v2 (some s8) (some s3)).bind fun v4=>ac9 n k (s0,v4,s6,s7,(ae .i64 (s8+1)),())) (some (s3,())):=by kernel_rfl
theorem ahb(a0:D4×iA)(a1:aq)(a2:Int):agl n (a0,a1,a2)=(ad9 n (a0,a1)).bind fun v1=>aw (v1 !=0) (some ([],v1)) (aw (decide (a2<0)) (some ([],1)) ((app 8 [] a1).bind fun v2=>(aeP n n (a2,(),v2,[],a0,())).bind fun v3=>some (v3.1,0))):=by kernel_rfl
theorem agS(s2:Int)(s9 i1:aq)(o0:D4×iA):aeP n (k+1) (s2,(),s9,i1,o0,())=(aw (decide ((ac i1:Int)<s2)) (aw (decide ((ac s9:Int)≤o0.1.2.1)) (aw ((ac i1:Int)==0) (some true) ((idx i1 (ae .i64 ((ac i1:Int) -1))).bind fun v2=>some (v2 !=0))) (some false)) (some false)).bind fun v1=>aw v1 ((gA n (o0,s9)).bind fun v3=>(agj n v3.1).bind fun v4=>(app 8 i1 [v4]).bind fun v5=>(app 8 s9 [v4]).bind fun v6=>aeP n k (s2,(),v6,v5,o0,())) (some (i1,())):=by kernel_rfl
theorem ai9(a0:aq)(a1:Int):ae3 n (a0,a1)=(adr n n (a0,a1,0,0,())).bind fun v1=>some v1.1:=by kernel_rfl
theorem agZ(s0:aq)(s1 s5 s6:Int):adr n (k+1) (s0,s1,s5,s6,())=aw (decide (s6<(ac s0:Int))) (((idx s0 s6).bind fun v2=>(idx s0 s1).bind fun v3=>aw (decide (v2>v3)) (some true) ((idx s0 s6).bind fun v4=>(idx s0 s1).bind fun v5=>aw (v4==v5) (some (decide (s6<s1))) (some false))).bind fun v1=>(aw v1 (some (ae .i64 (s5+1))) (some s5)).bind fun v6=>adr n k (s0,s1,v6,(ae .i64 (s6+1)),())) (some (s5,())):=by kernel_rfl
theorem ahc(a0:D4×iA)(a1:aq)(a2:Int):agn n (a0,a1,a2)=(gD n (a0,a1)).bind fun v1=>aw (v1.2 !=0) (some ([],v1.2)) (aw (decide (a2<0)) (some ([],1)) ((aeV n n (a1,a2,(),[],a0,())).bind fun v2=>some (v2.1,0))):=by kernel_rfl
theorem agT(s1:aq)(s2:Int)(i1:aq)(o0:D4×iA):aeV n (k+1) (s1,s2,(),i1,o0,())=(aw (decide ((ac i1:Int)<s2)) (aw (decide ((ae .i64 ((ac s1:Int)+(ac i1:Int)))≤o0.1.2.1)) (aw ((ac i1:Int)==0) (some true) ((idx i1 (ae .i64 ((ac i1:Int) -1))).bind fun v2=>some (v2 !=0))) (some false)) (some false)).bind fun v1=>aw v1 ((app 8 [] s1).bind fun v3=>(app 8 v3 i1).bind fun v4=>(gD n (o0,v4)).bind fun v5=>(acJ n n (s1,s2,(),i1,v5.1,0,o0,())).bind fun v6=>(app 8 v6.2.2.2.1 [v6.2.2.2.2.1]).bind fun v7=>aeV n k (v6.1,v6.2.1,(),v7,v6.2.2.2.2.2.1,())) (some (i1,())):=by kernel_rfl
theorem agH(s1:aq)(s2:Int)(i1 py:aq)(sb:Int)(o0:D4×iA):acJ n (k+1) (s1,s2,(),i1,py,sb,o0,())=(ae3 n (py,sb)).bind fun v1=>aw (v1 !=0) (acJ n k (s1,s2,(),i1,py,(ae .i64 (sb+1)),o0,())) (some (s1,s2,(),i1,sb,o0,())):=by kernel_rfl
end
section
variable (n k:Nat)
theorem ahD(a0:Int):aeX n a0=some []:=by kernel_rfl
theorem aee(a0:OX)(a1:aq)(a2:Unit):aa2 n (a0,a1,a2)=(aaJ n n (a0,(),[],a1,(ac a1:Int),0,())).bind fun v1=>(aaK n n (v1.1,(),v1.2.2.1,[],v1.1.1.2.2.2.2.2.2.1,(ac v1.1.1.2.2.2.2.2.2.1:Int),0,())).bind fun v2=>some (v2.1,v2.2.1):=by kernel_rfl
theorem acy(s0:OX)(s8:List aq)(KY:aq)(KZ DZ:Int):aaJ n (k+1) (s0,(),s8,KY,KZ,DZ,())=aw (decide (DZ<KZ)) ((idx KY DZ).bind fun v1=>(lA n (s0,v1)).bind fun v2=>(app 24 s8 [v2]).bind fun v3=>aaJ n k (s0,(),v3,KY,KZ,(ae .i64 (DZ+1)),())) (some (s0,(),s8,())):=by kernel_rfl
theorem acC(s0:OX)(s8:sW)(py:List (List ou))(RN:List kT)(V9 s36:Int):aaK n (k+1) (s0,(),s8,py,RN,V9,s36,())=aw (decide (s36<V9)) ((idx RN s36).bind fun v1=>(aeX n s36).bind fun v2=>(qX n (v1,s0.2,s8,v2)).bind fun v3=>(app 24 py [v3.2.1]).bind fun v4=>aaK n k (s0,(),v3.1,v4,RN,V9,(ae .i64 (s36+1)),())) (some (s8,py,())):=by kernel_rfl
theorem aeI(a0:OX)(a1:aq)(a2:Unit):aba n (a0,a1,a2)=(aa2 n (a0,a1,())).bind fun v1=>(aaL n n (a0,v1.2,[],v1.1,(ac v1.1:Int),0,())).bind fun v2=>some (v2.2.1,v2.1):=by kernel_rfl
theorem ac4(s0:OX)(s9:D44)(i1:List aq)(Hn:sW)(zt ru:Int):aaL n (k+1) (s0,s9,i1,Hn,zt,ru,())=aw (decide (ru<zt)) ((idx Hn ru).bind fun v1=>(eQ n (s0,v1)).bind fun v2=>(app 24 i1 [v2]).bind fun v3=>aaL n k (s0,s9,v3,Hn,zt,(ae .i64 (ru+1)),())) (some (s9,i1,())):=by kernel_rfl
theorem agI(a0:D4×iA)(a1:aq):aey n (a0,a1)=(ad9 n (a0,a1)).bind fun v1=>aw (v1 !=0) (some ([],v1)) ((rG n a0).bind fun v2=>(aba n (v2,a1,())).bind fun v3=>(slc a1 1 (ac a1:Int)).bind fun v4=>(acr n n (v3.1,[],v4,(ac v4:Int),0,())).bind fun v5=>some (v5.1,0)):=by kernel_rfl
theorem agq(s8:sW)(i1 V8:aq)(EB Uj:Int):acr n (k+1) (s8,i1,V8,EB,Uj,())=aw (decide (Uj<EB)) ((idx V8 Uj).bind fun v1=>(idx s8 Uj).bind fun v2=>(abW n n (s8,i1,Uj,v1,0,V8,EB,Uj,v2,(ac v2:Int),0,())).bind fun v3=>(app 8 v3.2.1 [v3.2.2.1]).bind fun v4=>acr n k (v3.1,v4,v3.2.2.2.1,v3.2.2.2.2.1,(ae .i64 (v3.2.2.2.2.2.1+1)),())) (some (i1,())):=by kernel_rfl
theorem afS(s8:sW)(i1:aq)(py pQ sb:Int)(V8:aq)(EB Uj:Int)(s40:aq)(s41 s42:Int):abW n (k+1) (s8,i1,py,pQ,sb,V8,EB,Uj,s40,s41,s42,())=aw (decide (s42<s41)) ((idx s40 s42).bind fun v1=>((idx s8 py).bind fun v3=>(idx v3 pQ).bind fun v4=>aw (decide (v1>v4)) (some true) ((idx s8 py).bind fun v5=>(idx v5 pQ).bind fun v6=>aw (v1==v6) (some (decide (s42<pQ))) (some false))).bind fun v2=>(aw v2 (some (ae .i64 (sb+1))) (some sb)).bind fun v7=>abW n k (s8,i1,py,pQ,v7,V8,EB,Uj,s40,s41,(ae .i64 (s42+1)),())) (some (s8,i1,sb,V8,EB,Uj,())):=by kernel_rfl
theorem agJ(a0:D4×iA)(a1:aq):aez n (a0,a1)=(gD n (a0,a1)).bind fun v1=>aw (v1.2 !=0) (some ([],v1.2)) ((tT n (a0,a1)).bind fun v2=>(acs n n (a1,v2,[],1,())).bind fun v3=>some (v3.1,0)):=by kernel_rfl
theorem agr(s1:aq)(s8:sW)(s9:aq)(i1:Int):acs n (k+1) (s1,s8,s9,i1,())=aw (decide (i1<(ac s1:Int))) ((idx s8 (ae .i64 (i1 -1))).bind fun v1=>(idx s1 i1).bind fun v2=>(ae3 n (v1,v2)).bind fun v3=>(app 8 s9 [v3]).bind fun v4=>acs n k (s1,s8,v4,(ae .i64 (i1+1)),())) (some (s9,())):=by kernel_rfl
theorem ajb(a0:Int):ahl n a0=some []:=by kernel_rfl
theorem aeY(a0:OX)(a1:aq)(a2:Unit):abg n (a0,a1,a2)=(aaM n n (a0,(),[],a1,(ac a1:Int),0,())).bind fun v1=>(aaT n n (v1.1,(),v1.2.2.1,[],v1.1.1.2.2.2.2.2.2.1,(ac v1.1.1.2.2.2.2.2.2.1:Int),0,())).bind fun v2=>some (v2.1,v2.2.1):=by kernel_rfl
theorem adj(s0:OX)(s8:List aq)(KY:aq)(KZ DZ:Int):aaM n (k+1) (s0,(),s8,KY,KZ,DZ,())=aw (decide (DZ<KZ)) ((idx KY DZ).bind fun v1=>(lA n (s0,v1)).bind fun v2=>(app 24 s8 [v2]).bind fun v3=>aaM n k (s0,(),v3,KY,KZ,(ae .i64 (DZ+1)),())) (some (s0,(),s8,())):=by kernel_rfl
theorem adk(s0:OX)(s8:sW)(py:List (List ou))(RN:List kT)(V9 s36:Int):aaT n (k+1) (s0,(),s8,py,RN,V9,s36,())=aw (decide (s36<V9)) ((idx RN s36).bind fun v1=>(ahl n s36).bind fun v2=>(qX n (v1,s0.2,s8,v2)).bind fun v3=>(app 24 py [v3.2.1]).bind fun v4=>aaT n k (s0,(),v3.1,v4,RN,V9,(ae .i64 (s36+1)),())) (some (s8,py,())):=by kernel_rfl
theorem aic(a0:D4×iA)(a1:aq):ag4 n (a0,a1)=(ad9 n (a0,a1)).bind fun v1=>aw (v1 !=0) (some ([],v1)) ((rG n a0).bind fun v2=>(abg n (v2,a1,())).bind fun v3=>(idx v3.1 (ae .i64 ((ac v3.1:Int) -1))).bind fun v4=>(lP n (v4,a0.2.2.2.2.2.2.2.2.1)).bind fun v5=>some (v5.1,0)):=by kernel_rfl
theorem ait(a0:D4×iA)(a1:aq):ag8 n (a0,a1)=(gD n (a0,a1)).bind fun v1=>aw (v1.2 !=0) (some ([],v1.2)) ((mP n (a0,a1)).bind fun v2=>(idx v2 (ae .i64 ((ac v2:Int) -1))).bind fun v3=>(idx v3 (ae .i64 ((ac v3:Int) -1))).bind fun v4=>(kc n (v4,a0.2.2.2.2.2.2.2.2.1)).bind fun v5=>some (v5.1,0)):=by kernel_rfl
theorem ajp(a0 a1:aq):agp n (a0,a1)=aw ((ac a0:Int)!=(ac a1:Int)) (some false) ((aea n n (a0,a1,0,())).bind fun v1=>ea v1 (fun v2=>some v2.1) (fun _=>some true)):=by kernel_rfl
theorem ahe(s0 s1:aq)(s5:Int):aea n (k+1) (s0,s1,s5,())=aw (decide (s5<(ac s0:Int))) ((idx s0 s5).bind fun v1=>(idx s1 s5).bind fun v2=>aw (v1 !=v2) (some (.inl (false,()))) (aea n k (s0,s1,(ae .i64 (s5+1)),()))) (some (.inr ())):=by kernel_rfl
theorem aiu(a0:D4×iA)(a1:sW)(a2:Int):acU n (a0,a1,a2)=(rQ n a0).bind fun v1=>(agU n (a0,a1)).bind fun v2=>(agV n (v1,a1)).bind fun v3=>((fZ n ()).bind fun v5=>aw (!v5) (some true) ((ag0 n (v2.1,v3.1)).bind fun v6=>aw (!v6) (some true) (aw (v2.2.1 !=v3.2.1) (some true) (some (v2.2.2 !=v3.2.2))))).bind fun v4=>aw v4 (some false) ((acu n n (a1,a2,(),(),0,a0,v1,())).bind fun v7=>ea v7 (fun v8=>some v8.1) (fun _=>some true)):=by kernel_rfl
theorem ags(s1:sW)(s2 Pv:Int)(o0 o4:D4×iA):acu n (k+1) (s1,s2,(),(),Pv,o0,o4,())=aw (decide (Pv<(ac s1:Int))) ((idx s1 Pv).bind fun v1=>(agl n (o0,v1,s2)).bind fun v2=>(agn n (o4,v1,s2)).bind fun v3=>(aey n (o0,v1)).bind fun v4=>(aez n (o4,v1)).bind fun v5=>(ag4 n (o0,v1)).bind fun v6=>(ag8 n (o4,v1)).bind fun v7=>((agp n (v2.1,v3.1)).bind fun v9=>aw (!v9) (some true) (aw (v2.2 !=v3.2) (some true) ((agp n (v4.1,v5.1)).bind fun v10=>aw (!v10) (some true) (aw (v4.2 !=v5.2) (some true) (aw (v6.2 !=v7.2) (some true) (some ((ac v6.1:Int)!=(ac v7.1:Int)))))))).bind fun v8=>aw v8 (some (.inl (false,()))) ((abX n n (s1,s2,(),(),Pv,v6.1,v7.1,0,o0,o4,())).bind fun v11=>ea v11 (fun v12=>some (.inl v12)) (fun kw=>acu n k (kw.1,kw.2.1,(),(),(ae .i64 (kw.2.2.2.2.1+1)),kw.2.2.2.2.2.1,kw.2.2.2.2.2.2.1,())))) (some (.inr ())):=by kernel_rfl
theorem af0(s1:sW)(s2 Pv:Int)(Xg Uk:aq)(s28:Int)(o0 o4:D4×iA):abX n (k+1) (s1,s2,(),(),Pv,Xg,Uk,s28,o0,o4,())=aw (decide (s28<(ac Xg:Int))) ((idx Xg s28).bind fun v1=>(idx Uk s28).bind fun v2=>aw (v1 !=v2) (some (.inl (false,()))) (abX n k (s1,s2,(),(),Pv,Xg,Uk,(ae .i64 (s28+1)),o0,o4,()))) (some (.inr (s1,s2,(),(),Pv,o0,o4,()))):=by kernel_rfl
end
section
variable (n k:Nat)
theorem ajx:ar prog 135 (ahW n):=bn (X:=ahU n) c0 func135
theorem aeW:ar prog 190 (adq n):=bn (X:=aco n) (cc (ajx n) c0) func190
theorem aew:ar prog 134 (ac8 n):=bn (X:=ac5 n) (cc (aeW n) c0) func134
theorem aiW:ar prog 76 (ahy n):=bn (X:=aiN n) (cc (aew n) c0) func76
theorem ajN:ar prog 27 (aiO n):=bn (X:=ahz n) (cc (Dm n) (cc (aiW n) (cc (Bf n) c0))) func27
theorem ajO:ar prog 28 (aiP n):=bn (X:=ahA n) (cc (PM n) (cc (Bk n) c0)) func28
theorem ajZ:ar prog 29 (ajg n):=bn (X:=ah1 n) (cc (Dr n) c0) func29
theorem ahm:ar prog 77 (agA n):=bn (X:=aiJ n) (cc (Dm n) (cc (aiW n) c0)) func77
theorem ajy:ar prog 79 (ah3 n):=bn (X:=agX n) c0 func79
theorem ajz:ar prog 30 (ah4 n):=mr (X:=agY n) (fn:=f30) mixed ⟨iX,cc (ahm n) (cc (Bf n) (cc (ajy n) (c0))),oc ak9 (o0),s0,v0⟩ func30 (by kernel_rfl) (by kernel_rfl) (by kernel_rfl)
theorem aiM:ar prog 80 (ahh n):=bn (X:=ahg n) c0 func80
theorem ajA:ar prog 31 (ah5 n):=bn (X:=agm n) (cc (Bk n) (cc (aiM n) c0)) func31
end
section
variable (n k:Nat)
theorem aiC:ar prog 81 (agM n):=bn (X:=agL n) c0 func81
theorem aeJ:ar prog 82 (adh n):=bn (X:=aaU n) (cc (Ly n) (cc (aiC n) (cc (GC n) c0))) func82
theorem aeZ:ar prog 64 (adX n):=bn (X:=acq n) (cc (aeJ n) (cc (Eg n) c0)) func64
theorem aiX:ar prog 32 (ag2 n):=bn (X:=aex n) (cc (ahm n) (cc (Bc n) (cc (aeZ n) c0))) func32
theorem aiY:ar prog 33 (ag3 n):=bn (X:=ago n) (cc (Bk n) (cc (Uv n) (cc (aiM n) c0))) func33
theorem ajG:ar prog 83 (aiL n):=bn (X:=aiK n) c0 func83
theorem af2:ar prog 82 (ad7 n):=bn (X:=abf n) (cc (Ly n) (cc (ajG n) (cc (GC n) c0))) func82
theorem aj0:ar prog 34 (aji n):=bn (X:=ajh n) (cc (ahm n) (cc (Bc n) (cc (af2 n) (cc (sE n) c0)))) func34
theorem aj1:ar prog 35 (ajk n):=bn (X:=ajj n) (cc (Bk n) (cc (GH n) (cc (Bh n) c0))) func35
theorem ajP:ar prog 36 (aiR n):=bn (X:=ahC n) c0 func36
theorem ai1:ar prog 6 (aa5 n):=bn (X:=aeD n) (fn:=f6) (cc (N1 n) (cc (ajN n) (cc (ajO n) (cc (Dq n) (cc (ajZ n) (cc (ajz n) (cc (ajA n) (cc (aiX n) (cc (aiY n) (cc (aj0 n) (cc (aj1 n) (cc (ajP n) c0)))))))))))) func6
end
end Go.Am
namespace Go.Am.Pu
open Go Go.Am
theorem aiD{n:Nat}{m:Mod}{D H half C Hd V L E:Nat}(h:zB m D H half C Hd V L E){l:List Int}(N:P1 m l)(J:l.length≤C)(O:ii n):∃pr,aa2 n ((m,pK m),l,())=some (lw m l L,pr):=by
 have o:=h.r.ok;have F:=o.kp;have W:=F.cm;have g1:=F.dm;have g3:=F.pos;have K:=o.v2;have B:=o.bs;have Y:=o.l8;have hC:=o.c;have hV:=o.v;have hD:=o.d;have X:=h.r.es;have m1:V*D≤512*64:=aT K.2 g1;have a:=h.rows N J;have I:=h.frm;have w:=acf h (n:=n) N O;have g:∀i,i≤L→∀x∈lw m l i,eJ x∧x.length≤1000000000:=by
  intro i b x hx;obtain⟨P,M,Q,R,-⟩:=a i b;obtain⟨u1,u2⟩:=M x hx;exact⟨fun y hy=>by have:=u2 y hy;omega,by omega⟩
 rw[aee];have u:=aQ (L:=fun k j s=>aaJ n k ((m,pK m),(),s,l,(l.length:Int),j,())) (len:=l.length) (r:=((m,pK m),(),Vs m l,())) (fun i=>(Vs m l).take i) (by
  intro k i b;show aaJ n (k+1) _=_;rw[acy,xY,cO b];simp only[aa];rw[w _ (ap b)];simp only[aa];rw[hA (by rw[aR];simp;omega) (by omega)];simp only[aa];rw[bu];have e:(Vs m l).take i++[Dv m.2.2.1 m.1.2.2.1.toNat l[i].toNat m.2.2.2.1.toNat]=(Vs m l).take (i+1):=(Mg (f:=fun t:Int=>Dv m.2.2.1 m.1.2.2.1.toNat t.toNat m.2.2.2.1.toNat) b).symm;rw[e]) (by
  intro k;show aaJ n (k+1) _=_;rw[acy,ag,if_neg (by simp),bp (by unfold Vs;simp)]) n (by omega)
 rw[abZ]at u;rw[u];simp only[aa];obtain⟨q,z,U⟩:=aau (L:=fun k j s=>aaK n k ((m,pK m),(),s.1,s.2,m.2.2.2.2.2.2.1,(m.2.2.2.2.2.2.1.length:Int),j,())) (len:=m.2.2.2.2.2.2.1.length) (fun i s=>s.1=lw m l i∧s.2.length=i) (fun q=>q.1=lw m l L) (by
  intro k i s b ⟨u,z⟩;right;obtain⟨P,M,Q,R,S⟩:=a i (by omega);obtain⟨c1,T⟩:=S b;show ∃s',aaK n (k+1) _=_∧_;rw[acC,xY,cO b];simp only[aa];rw[ahD];simp only[aa];rw[u,WA (h.r.b8 _ (ap b)) I.2 (g i (by omega)) (fun p Z=>by cases Z) (by simp;omega) O];simp only[aa];rw[hA (by simp;omega) (by omega)];simp only[aa];rw[bu];exact⟨((sO m.2.2.2.2.2.2.1[i] (pK m) (lw m l i) []).1,s.2++[(sO m.2.2.2.2.2.2.1[i] (pK m) (lw m l i) []).2.1]),rfl,T.symm,by simp;omega⟩) (by
  intro k s ⟨u,z⟩;show ∃r,aaK n (k+1) _=some r∧_;rw[acC,ag,if_neg (by simp)];exact⟨_,rfl,by rw[←B];exact u⟩) n (Vs m l,[]) (by omega) ⟨rfl,rfl⟩
 rw[z];simp only[aa];exact⟨q.2.1,by rw[U]⟩
theorem ajH{n:Nat}{m:Mod}{D H half C Hd V L E:Nat}(h:zB m D H half C Hd V L E){l:List Int}(N:P1 m l)(J:l.length≤C)(O:ii n):∃pr,abg n ((m,pK m),l,())=some (lw m l L,pr):=by
 have o:=h.r.ok;have F:=o.kp;have W:=F.cm;have g1:=F.dm;have g3:=F.pos;have K:=o.v2;have B:=o.bs;have Y:=o.l8;have hC:=o.c;have hV:=o.v;have hD:=o.d;have X:=h.r.es;have m1:V*D≤512*64:=aT K.2 g1;have a:=h.rows N J;have I:=h.frm;have w:=acf h (n:=n) N O;have g:∀i,i≤L→∀x∈lw m l i,eJ x∧x.length≤1000000000:=by
  intro i b x hx;obtain⟨P,M,Q,R,-⟩:=a i b;obtain⟨u1,u2⟩:=M x hx;exact⟨fun y hy=>by have:=u2 y hy;omega,by omega⟩
 rw[aeY];have u:=aQ (L:=fun k j s=>aaM n k ((m,pK m),(),s,l,(l.length:Int),j,())) (len:=l.length) (r:=((m,pK m),(),Vs m l,())) (fun i=>(Vs m l).take i) (by
  intro k i b;show aaM n (k+1) _=_;rw[adj,xY,cO b];simp only[aa];rw[w _ (ap b)];simp only[aa];rw[hA (by rw[aR];simp;omega) (by omega)];simp only[aa];rw[bu];have e:(Vs m l).take i++[Dv m.2.2.1 m.1.2.2.1.toNat l[i].toNat m.2.2.2.1.toNat]=(Vs m l).take (i+1):=(Mg (f:=fun t:Int=>Dv m.2.2.1 m.1.2.2.1.toNat t.toNat m.2.2.2.1.toNat) b).symm;rw[e]) (by
  intro k;show aaM n (k+1) _=_;rw[adj,ag,if_neg (by simp),bp (by unfold Vs;simp)]) n (by omega)
 rw[abZ]at u;rw[u];simp only[aa];obtain⟨q,z,U⟩:=aau (L:=fun k j s=>aaT n k ((m,pK m),(),s.1,s.2,m.2.2.2.2.2.2.1,(m.2.2.2.2.2.2.1.length:Int),j,())) (len:=m.2.2.2.2.2.2.1.length) (fun i s=>s.1=lw m l i∧s.2.length=i) (fun q=>q.1=lw m l L) (by
  intro k i s b ⟨u,z⟩;right;obtain⟨P,M,Q,R,S⟩:=a i (by omega);obtain⟨c1,T⟩:=S b;show ∃s',aaT n (k+1) _=_∧_;rw[adk,xY,cO b];simp only[aa];rw[ajb];simp only[aa];rw[u,WA (h.r.b8 _ (ap b)) I.2 (g i (by omega)) (fun p Z=>by cases Z) (by simp;omega) O];simp only[aa];rw[hA (by simp;omega) (by omega)];simp only[aa];rw[bu];exact⟨((sO m.2.2.2.2.2.2.1[i] (pK m) (lw m l i) []).1,s.2++[(sO m.2.2.2.2.2.2.1[i] (pK m) (lw m l i) []).2.1]),rfl,T.symm,by simp;omega⟩) (by
  intro k s ⟨u,z⟩;show ∃r,aaT n (k+1) _=some r∧_;rw[adk,ag,if_neg (by simp)];exact⟨_,rfl,by rw[←B];exact u⟩) n (Vs m l,[]) (by omega) ⟨rfl,rfl⟩
 rw[z];simp only[aa];exact⟨q.2.1,by rw[U]⟩
theorem ajc{n:Nat}{m:Mod}{D H half C Hd V L E:Nat}(h:zB m D H half C Hd V L E){l:List Int}(z:P1 m l)(g:l.length≤C)(B:ii n):∃o,aba n ((m,pK m),l,())=some ((lw m l L).map (OH m),o):=by
 have a:=h.r.ok;have p:=a.kp;have J:=p.cm;have g1:=p.dm;have W:=p.pos;have u:=a.v2;have I:=a.bs;have N:=a.l8;have X:=a.c;have Z:=a.v;have Y:=a.d;have K:=h.r.es;have m1:V*D≤512*64:=aT u.2 g1;have b:=h.rows z g;have M:=h.frm;obtain⟨S,F,T,U,-⟩:=b L (av _);have t:∀x∈lw m l L,(OH m x).length=V∧(∀y∈OH m x,-1040384≤y∧y≤1040384)∧eQ n ((m,pK m),x)=some (OH m x)∧iS n (m,x)=some (OH m x):=by
  intro x O;obtain⟨Q,R⟩:=F x O;exact h.sc Q (fun y P=>by have:=R y P;omega) B
 obtain⟨o,t1⟩:=aiD h z g B;rw[aeI,t1];simp only[aa];have w:=aQ (L:=fun k j s=>aaL n k ((m,pK m),o,s,lw m l L,(((lw m l L).length:Nat):Int),j,())) (len:=(lw m l L).length) (r:=(o,(lw m l L).map (OH m),())) (fun i=>((lw m l L).map (OH m)).take i) (by
  intro k i q;show aaL n (k+1) _=_;rw[ac4,xY,cO q];simp only[aa];rw[(t _ (ap q)).2.2.1];simp only[aa];rw[hA (by rw[aR];simp;omega) (by omega)];simp only[aa];rw[bu,←Mg q]) (by
  intro k;show aaL n (k+1) _=_;rw[ac4,ag,if_neg (by simp),bp (by simp)]) n (by omega)
 rw[abZ]at w;rw[w];exact⟨_,rfl⟩
def agy(s:List Int)(t j:Nat):Bool:=decide (s.getD j 0>s.getD t 0∨(s.getD j 0=s.getD t 0∧j<t))
def abv(s:List Int)(t:Nat):Nat→Nat
 |0=>0
 |k+1=>abv s t k+if agy s t k=true then 1 else 0
theorem aj3(s:List Int)(t:Nat):∀k,abv s t k≤k
 |0=>av _
 |k+1=>by have:=aj3 s t k;simp only[abv];split<;>omega
theorem ajB{s:List Int}{t:Nat}:∀k,abv s t k=0↔∀j,j<k→agy s t j=false
 |0=>by simp[abv]
 |k+1=>by
  have:=ajB (s:=s) (t:=t) k;simp only[abv];constructor
  ·intro h j d;have b:abv s t k=0:=by omega
   by_cases a:j=k
   ·subst a
    cases c:agy s t j with
    |false=>rfl
    |true=>rw[c]at h;simp at h
   ·exact this.1 b j (by omega)
  ·intro h;rw[this.2 fun j d=>h j (by omega),h k (by omega)];simp
theorem aiv{n:Nat}{s:List Int}{t:Nat}(q:t<s.length)(w:s.length≤1000000000)(u:ii n):ae3 n (s,(t:Int))=some ((abv s t s.length:Nat):Int):=by
 have h:=aQ (L:=fun k j (c:Int)=>adr n k (s,(t:Int),c,j,())) (len:=s.length) (r:=(((abv s t s.length:Nat):Int),())) (fun i=>((abv s t i:Nat):Int)) (by
  intro k i o;have p:=aj3 s t i;show adr n (k+1) _=_;rw[agZ,xY,Bu o 0,Bu q 0];simp only[aa,ag,dU,beq_iff_eq];have g:abv s t (i+1)=abv s t i+if agy s t i=true then 1 else 0:=rfl;rw[g,bu (x:=(i:Int)+1)]
  by_cases b:s.getD i 0>s.getD t 0
  ·have a:agy s t i=true:=by unfold agy;rw[dU];exact .inl b
   rw[if_pos b,a];simp only[aa,if_true];rw[bu];rfl
  ·rw[if_neg b]
   by_cases d:s.getD i 0=s.getD t 0
   ·rw[if_pos d];simp only[aa]
    by_cases l:i<t
    ·have a:agy s t i=true:=by unfold agy;rw[dU];exact .inr ⟨d,l⟩
     rw[if_pos (by rw[dU];omega),a];simp only[aa,if_true];rw[bu];rfl
    ·have a:agy s t i=false:=by unfold agy;rw[decide_eq_false_iff_not];rintro(h |h);exact b h;exact l h.2
     rw[if_neg (by rw[dU];omega),a];rfl
   ·have a:agy s t i=false:=by unfold agy;rw[decide_eq_false_iff_not];rintro(h |h);exact b h;exact d h.1
    rw[if_neg d,a];rfl) (by
  intro k;show adr n (k+1) _=_;rw[agZ,ag,if_neg (by simp)]) n (by omega)
 have h:adr n n (s,(t:Int),0,0,())=_:=h;rw[ai9,h];rfl
def amx(s:List Int):Nat→Int
 |0=> -1
 |k+1=>if amx s k<0 then(k:Int)else if s.getD k 0>s.getD (amx s k).toNat 0 then(k:Int)else amx s k
theorem ai2{s:List Int}:∀k,1≤k→∃t,t<k∧amx s k=(t:Int)∧∀j,j<k→agy s t j=false
 |0,h=>by omega
 |1,_=>by
  refine⟨0,by omega,?_,fun j b=> ?_⟩
  ·simp[amx]
  ·have:j=0:=by omega
   subst this;unfold agy;rw[decide_eq_false_iff_not];omega
 |k+2,_=>by
  obtain⟨t,l,i,g⟩:=ai2 (s:=s) (k+1) (by omega);have e:amx s (k+2)=if amx s (k+1)<0 then((k+1:Nat):Int)else if s.getD (k+1) 0>s.getD (amx s (k+1)).toNat 0 then((k+1:Nat):Int)else amx s (k+1):=rfl;rw[e,i,fu,aH];have d:∀j,j<k+1→¬ (s.getD j 0>s.getD t 0∨(s.getD j 0=s.getD t 0∧j<t)):=fun j b=>by have:=g j b;unfold agy at this;rwa[decide_eq_false_iff_not]at this
  by_cases c:s.getD (k+1) 0>s.getD t 0
  ·rw[if_pos c];refine⟨k+1,by omega,rfl,fun j b=> ?_⟩;unfold agy;rw[decide_eq_false_iff_not]
   by_cases a:j=k+1
   ·subst a;omega
   ·have:=d j (by omega);omega
  ·rw[if_neg c];refine⟨t,by omega,rfl,fun j b=> ?_⟩
   by_cases a:j=k+1
   ·subst a;unfold agy;rw[decide_eq_false_iff_not];omega
   ·exact g j (by omega)
theorem ajQ{n:Nat}{s:List Int}(u:s.length≤1000000000)(p:ii n):agj n s=some (amx s s.length):=by
 have b:∀i,i≤s.length→amx s i<(i:Int)∧-1≤amx s i:=by
  intro i _
  cases i with
  |zero=>simp[amx]
  |succ i=>obtain⟨t,o,g,_⟩:=ai2 (s:=s) (i+1) (by omega);rw[g];omega
 have h:=aQ (L:=fun k j (c:Int)=>ac9 n k (s,c,s,(s.length:Int),j,())) (len:=s.length) (r:=(amx s s.length,())) (fun i=>amx s i) (by
  intro k i l;have q:=b i (by omega);show ac9 n (k+1) _=_;rw[agR,xY,Bu l 0];simp only[aa,ag,dU];have e:amx s (i+1)=if amx s i<0 then(i:Int)else if s.getD i 0>s.getD (amx s i).toNat 0 then(i:Int)else amx s i:=rfl;rw[bu (x:=(i:Int)+1),e]
  by_cases c:amx s i<0
  ·rw[if_pos c,if_pos c];simp only[aa,if_true]
  ·rw[if_neg c,if_neg c];have d:amx s i=(((amx s i).toNat:Nat):Int):=by omega
   rw[show idx s (amx s i)=some (s.getD (amx s i).toNat 0)by rw[d];simp only[aH];exact Bu (by omega) 0];simp only[aa,dU]
   by_cases a:s.getD i 0>s.getD (amx s i).toNat 0
   ·rw[if_pos a,if_pos a];rfl
   ·rw[if_neg a,if_neg a];rfl) (by
  intro k;show ac9 n (k+1) _=_;rw[agR,ag,if_neg (by simp)]) n (by omega)
 have h:ac9 n n (s,-1,s,(s.length:Int),0,())=_:=h;rw[aiT,h];rfl
theorem aj4{n:Nat}{l a s:List Int}{most:Int}{m:Mod}(b:1≤s.length)(q:s.length≤1000000000)(p:ii n):
  acJ n n (l,most,(),a,s,0,m,())=some (l,most,(),a,amx s s.length,m,()):=by
 obtain⟨t,c,u,d⟩:=ai2 (s:=s) s.length b;have h:=aQ (L:=fun k j (_:Unit)=>acJ n k (l,most,(),a,s,j,m,())) (len:=t) (r:=(l,most,(),a,amx s s.length,m,())) (fun _=>()) (by
  intro k i y;show acJ n (k+1) _=_;rw[agH,aiv (by omega) q p];simp only[aa];have x:abv s i s.length≠0:=fun w=>by
   have g:=(ajB s.length).1 w t c;have o:=d i (by omega);unfold agy at g o;rw[decide_eq_false_iff_not]at g o;omega
  rw[show((((abv s i s.length:Nat):Int))!=0)=true by rw[bne_iff_ne];omega,Q7,bu]) (by
  intro k;show acJ n (k+1) _=_;rw[agH,aiv c q p];simp only[aa];rw[(ajB s.length).2 d,u];rfl) n (by omega)
 exact h
theorem ajC{n:Nat}{m:Mod}{D H half C Hd V L E:Nat}(h:zB m D H half C Hd V L E){l:List Int}(z:l.length≤1048576)(B:ii n):af4 n (m,l)=some (Hf C V l):=by
 have u:=h.r.ok.c;have p:m.1.1=(V:Int):=h.r.ok.v;rw[ajm,u]
 by_cases a:l.length=0∨C<l.length
 ·have e:Hf C V l=212:=by unfold Hf;rw[if_pos a]
  rw[e];rcases a with a |a
  ·rw[a];rfl
  ·rw[show((l.length:Int)==0)=false by rw[beq_eq_false_iff_ne];omega,jT];simp only[aa];rw[xY]
 ·rw[show((l.length:Int)==0)=false by rw[beq_eq_false_iff_ne];omega,jT];simp only[aa];rw[Sx,aeb,aev];have lm:=fM (L:=fun k j (_:Unit)=>aaI n k (l,(m,()),(l.length:Int),j,())) (len:=l.length) (fun _=>()) (fun i=>0≤l.getD i 0∧l.getD i 0<m.1.1) (fun i=> .inl ((i:Int),())) (.inr ()) (by
   intro k j q _;show(_∧aaI n (k+1) _=_)∨(_∧aaI n (k+1) _=_);rw[acV,xY,kq q];simp only[aa];rw[aiS]
   by_cases c:0≤l.getD j 0∧l.getD j 0<m.1.1
   ·refine .inl ⟨c,?_⟩;rw[Sx];simp only[aa];rw[Sx,bu]
   ·refine .inr ⟨c,?_⟩
    by_cases y:l.getD j 0<0
    ·rw[xY];simp only[aa];rfl
    ·rw[Sx];simp only[aa];rw[xY]) (by
   intro k;show aaI n (k+1) _=_;rw[acV,ag,if_neg (by simp)]) n (by omega)
  rcases lm with⟨d,b⟩|⟨i,o,q,g,b⟩
  ·have e:Hf C V l=0:=by
    unfold Hf;rw[if_neg a,if_pos];intro t x;obtain⟨i,o,rfl⟩:=cZ x;have:=d i o;rw[p,bd,ai o]at this;exact this
   have b:aaI n n (l,(m,()),(l.length:Int),0,())=_:=b;rw[e,b];rfl
  ·have e:Hf C V l=133:=by
    unfold Hf;rw[if_neg a,if_neg];intro w;apply g;have:=w l[i] (ap o);rw[p,bd,ai o];exact this
   have b:aaI n n (l,(m,()),(l.length:Int),0,())=_:=b;rw[e,b];simp only[aa,ea];rw[xY]
theorem aiw{n:Nat}{m:Mod}{D H half C Hd V L E:Nat}(h:zB m D H half C Hd V L E)(c:Eu m){l:List Int}(b:l.length≤1048576)(a:ii n):ad9 n (m,l)=some (Hf C V l):=by
 obtain⟨r,d,g⟩:=Bw h.ok.o a;rw[ahw,d];simp only[aa];rw[show(r.2 !=0)=false by simp[g.2 c],jT,ajC h b a,aa]
theorem agK{n:Nat}{m:Mod}(h:WN m)(c:¬ Eu m){l:List Int}(b:ii n):ad9 n (m,l)=some 210:=by
 obtain⟨r,d,g⟩:=Bw h.o b;rw[ahw,d];simp only[aa];rw[show(r.2 !=0)=true by rw[bne_iff_ne];exact fun a=>c (g.1 a),Q7]
theorem aiy{C V:Nat}{l:List Int}(h:Hf C V l=0):l.length≠0∧l.length≤C∧∀t∈l,0≤t∧t<(V:Int):=by
 unfold Hf at h
 split at h
 ·cases h
 ·split at h
  ·rename_i b a;exact⟨by omega,by omega,a⟩
  ·cases h
theorem akE{C V:Nat}{l:List Int}(b:l.length≠0)(c:l.length≤C)(a:∀t∈l,0≤t∧t<(V:Int)):Hf C V l=0:=by
 unfold Hf;rw[fu,if_pos a]
theorem ajR{n:Nat}{m:Mod}{D H half C Hd V L E:Nat}(h:zB m D H half C Hd V L E)(X:Eu m){l:List Int}{most:Int}(R:∀t∈l,0≤t∧t<(V:Int))(U:l.length≠0)(S:l.length≤1048576)(z:ii n):
  ∀(r:Nat) (a:List Int) (d g:Nat),(∀t∈a,0≤t∧t<(V:Int))→C+1≤l.length+a.length+r→a.length≤3000000→l.length+a.length≤C+1→r<d→r<g→
   ∃o,aeP n d (most,(),l++a,a,m,())=some (o,())∧aeV n g (l,most,(),a,m,())=some (o,())∧o.length≤C+1:=by
 have q:=h.r.ok.c;have Q:=h.r.ok.kp.cm;have O:=h.r.ok.v2;intro r
 induction r with
 |zero=>
  intro a d g B W F I w y;obtain⟨d,rfl⟩:∃k,d=k+1:=⟨d -1,by omega⟩;obtain⟨g,rfl⟩:∃k,g=k+1:=⟨g -1,by omega⟩;refine⟨a,?_,?_,by omega⟩
  ·rw[agS,q,ag (decide (((l++a).length:Int)≤(C:Int))),if_neg (by rw[dU,aE];omega)];rw[ag]
   split<;>rfl
  ·rw[agT,q,bu,ag (decide ((l.length:Int)+(a.length:Int)≤(C:Int))),if_neg (by rw[dU];omega)];rw[ag]
   split<;>rfl
 |succ r Z=>
  intro a d g B W F I w y;obtain⟨d,rfl⟩:∃k,d=k+1:=⟨d -1,by omega⟩;obtain⟨g,rfl⟩:∃k,g=k+1:=⟨g -1,by omega⟩;obtain⟨b,P,u⟩:∃b,aw (decide ((a.length:Int)<most)) (aw (decide ((l.length:Int)+(a.length:Int)≤(C:Int))) (aw ((a.length:Int)==0) (some true)
    ((idx a (ae bx ((a.length:Int) -1))).bind fun v2=>some (v2 !=0))) (some false)) (some false)=some b∧(b=true→l.length+a.length≤C):=by
   rw[ag,ag]
   split
   ·split
    ·rename_i c1 M;rw[dU]at M;rw[ag]
     split
     ·exact⟨_,rfl,fun _=>by omega⟩
     ·rename_i N;rw[beq_iff_eq]at N;rw[bu,show(a.length:Int) -1=((a.length -1:Nat):Int)by omega,Bu (by omega) 0,aa];exact⟨_,rfl,fun _=>by omega⟩
    ·exact⟨_,rfl,fun j=>by cases j⟩
   ·exact⟨_,rfl,fun j=>by cases j⟩
  rw[agS,agT,q,bu (x:=(l.length:Int)+(a.length:Int)),show(((l++a).length:Nat):Int)=(l.length:Int)+(a.length:Int)by rw[aE];omega,P];simp only[aa]
  cases b with
  |false=>exact⟨a,rfl,rfl,by omega⟩
  |true=>
   have T:=u rfl;have p:∀t∈l++a,0≤t∧t<(V:Int):=fun t i=>(List.mem_append.1 i).elim (R t) (B t);have Y:Hf C V (l++a)=0:=akE (by rw[aE];omega) (by rw[aE];omega) p;obtain⟨J,K⟩:=SN h X (l:=l++a) (by rw[aE];omega) z;rw[Y,if_pos rfl]at J K;obtain⟨g1,g2⟩:=Q9 h (l:=l++a) (fun t j=>by rw[h.r.ok.v];exact p t j) (by rw[aE];omega) (by rw[aE];omega);obtain⟨t,t1,t2,-⟩:=ai2 (s:=Bx m (l++a)) (Bx m (l++a)).length (by omega);rw[Q7,Q7,J,hA (l:=([]:List Int)) (m:=l) (by simp;omega) (by decide)];simp only[aa,ct];rw[hA (l:=l) (m:=a) (by omega) (by decide)];simp only[aa];rw[K,ajQ (by omega) z];simp only[aa];rw[aj4 (by omega) (by omega) z,hA (by simp;omega) (by decide),hA (l:=l++a) (by simp;omega) (by decide)];simp only[aa];rw[hA (by simp;omega) (by decide)];simp only[aa];rw[bI];refine Z (a++[amx (Bx m (l++a)) (Bx m (l++a)).length]) d g (fun t' i=> ?_) (by simp;omega) (by simp;omega) (by simp;omega) (by omega) (by omega);rcases List.mem_append.1 i with i |i
   ·exact B t' i
   ·rw[List.mem_singleton]at i;rw[i,t2];omega
theorem aj5{n:Nat}{m:Mod}(h:WN m){l:List Int}{most:Int}(d:l.length≤1048576)(b:ii n):∃o e,agl n (m,l,most)=some (o,e)∧agn n (m,l,most)=some (o,e)∧o.length≤1000000000:=by
 by_cases a:Eu m
 ·obtain⟨D,H,i,C,w,V,L,E,c⟩:=ace h a;have k:=c.r.ok.kp.cm;obtain⟨y,q⟩:=SN c a (l:=l) d b;rw[ahb,ahc,aiw c a d b,q];simp only[aa]
  by_cases g:Hf C V l=0
  ·obtain⟨t,z,u⟩:=aiy g;rw[g,show((0:Int)!=0)=false from rfl,jT,jT,ag,ag]
   split
   ·exact⟨_,_,rfl,rfl,by simp⟩
   ·obtain⟨o,j,p,x⟩:=ajR c a (most:=most) u t d b (C+1) [] n n (by simp) (by simp) (by simp) (by simp;omega) (by omega) (by omega);rw[ab1]at j;rw[hA (by simp;omega) (by decide)];simp only[aa,ct];rw[j,p];exact⟨o,0,rfl,rfl,by omega⟩
  ·rw[show(Hf C V l !=0)=true by rw[bne_iff_ne];exact g,Q7,Q7];exact⟨_,_,rfl,rfl,by simp⟩
 ·rw[ahb,ahc,agK h a b,(Jb h a b).2];exact⟨[],210,rfl,rfl,by simp⟩
theorem ajM{n:Nat}{a:List Int}(h:a.length≤1000000000)(d:ii n):agp n (a,a)=some true:=by
 rw[ajp,ag,if_neg (by simp)];have b:=aQ (L:=fun k i (_:Unit)=>aea n k (a,a,i,())) (len:=a.length) (r:=Sum.inr ()) (fun _=>()) ?_ ?_ n (by omega)
 ·rw[b];rfl
 ·intro k i c;show aea n (k+1) _=_;rw[ahe,xY,aS c 0];simp only[aa,ag];rw[if_neg (by simp),bu]
 ·intro k;show aea n (k+1) _=_;rw[ahe,ag,if_neg (by simp)]
theorem akb{n:Nat}{a:List (List Int)}(h:a.length≤1000000000)(c:∀x∈a,x.length≤1000000000)(g:ii n):ag0 n (a,a)=some true:=by
 rw[ajw,ag,if_neg (by simp)];have d:=aQ (L:=fun k i (_:Unit)=>aeu n k (a,a,i,())) (len:=a.length) (r:=Sum.inr ()) (fun _=>()) ?_ ?_ n (by omega)
 ·rw[d];rfl
 ·intro k i b;show aeu n (k+1) _=_;rw[ahu,xY,cO b];simp only[aa];rw[OL (c _ (ap b)) g];simp only[aa];rw[cD,jT,bu]
 ·intro k;show aeu n (k+1) _=_;rw[ahu,ag,if_neg (by simp)]
theorem aj6{n:Nat}{m:Mod}{D H half C Hd V L E:Nat}(h:zB m D H half C Hd V L E)(N:Eu m){cs:List (List Int)}(I:∀x∈cs,x.length≤1048576)(W:cs.length≤1048576)(B:ii n):
  ∀(r i:Nat) (a:List (List Int)) (b c:Nat),i+r=cs.length→a.length=i→(∀x∈a,x.length≤512)→r<b→r<c→
   ∃o,aeK n b ((),a,cs,(cs.length:Int),(i:Int),m,())=some o∧aeM n c (cs,(),a,(i:Int),m,())=some o∧
    (∀q,o= .inr q→q.1.length≤1048576∧∀x∈q.1,x.length≤512)∧∀q,o= .inl q→q.1=[]:=by
 intro r
 induction r with
 |zero=>
  intro i a b c K M d w y;obtain⟨b,rfl⟩:∃k,b=k+1:=⟨b -1,by omega⟩;obtain⟨c,rfl⟩:∃k,c=k+1:=⟨c -1,by omega⟩;refine⟨.inr (a,()),?_,?_,fun q g=> ?_,fun q g=>by cases g⟩
  ·rw[ag9,Sx]
  ·rw[aha,Sx]
  ·cases g;exact⟨by show a.length≤_;omega,d⟩
 |succ r O=>
  intro i a b c K M d w y;obtain⟨b,rfl⟩:∃k,b=k+1:=⟨b -1,by omega⟩;obtain⟨c,rfl⟩:∃k,c=k+1:=⟨c -1,by omega⟩;have p:i<cs.length:=by omega
  have u:=I _ (ap p);obtain⟨P,Q⟩:=SN h N (l:=cs[i]) u B;rw[ag9,aha,xY,xY,cO p];simp only[aa];rw[ajC h u B,P,Q];simp only[aa]
  by_cases z:Hf C V cs[i]=0
  ·obtain⟨R,S,T⟩:=aiy z;have F:=h.r.ok.v2;obtain⟨g1,U⟩:=Q9 h (l:=cs[i]) (fun t J=>by rw[h.r.ok.v];exact T t J) R S;rw[z,show((0:Int)!=0)=false from rfl,jT,jT,if_pos rfl];rw[hA (by simp;omega) (by decide)];simp only[aa];rw[bu];refine O (i+1) (a++[Bx m cs[i]]) b c (by omega) (by simp;omega) (fun x j=> ?_) (by omega) (by omega);rcases List.mem_append.1 j with j |j
   ·exact d x j
   ·rw[List.mem_singleton]at j;rw[j];omega
  ·rw[show(Hf C V cs[i]!=0)=true by rw[bne_iff_ne];exact z,Q7,Q7];exact⟨_,rfl,rfl,fun q g=>(by cases g),fun q g=>by cases g;rfl⟩
theorem akc{n:Nat}{m:Mod}(h:WN m){cs:List (List Int)}(u:∀x∈cs,x.length≤1048576)(w:cs.length≤1048576)(g:ii n):
  ∃a i e,agU n (m,cs)=some (a,i,e)∧agV n (m,cs)=some (a,i,e)∧a.length≤1048576∧∀x∈a,x.length≤512:=by
 obtain⟨r,J,t⟩:=Bw h.o g;obtain⟨q,I,p⟩:=Bv h.o g;rw[ajn,ajo,J,I];simp only[aa]
 by_cases b:Eu m
 ·obtain⟨D,H,l,C,K,V,L,E,c⟩:=ace h b;rw[show(r.2 !=0)=false by simp[t.2 b],show(q.2.2 !=0)=false by simp[p.2 b],jT,jT];obtain⟨o,j,k,y,z⟩:=aj6 c b u w g cs.length 0 [] n n (by omega) rfl (by simp) (by omega) (by omega);have j:aeK n n ((),[],cs,(cs.length:Int),0,m,())=some o:=j;have k:aeM n n (cs,(),[],0,m,())=some o:=k;rw[j,k];simp only[aa]
  cases o with
  |inl v=>
   refine⟨v.1,v.2.1,v.2.2.1,rfl,rfl,?_⟩;rw[z v rfl];exact⟨by simp,by simp⟩
  |inr v=>
   obtain⟨B,F⟩:=y v rfl;exact⟨v.1,0,0,rfl,rfl,B,F⟩
 ·rw[show(r.2 !=0)=true by rw[bne_iff_ne];exact fun d=>b (t.1 d),show(q.2.2 !=0)=true by rw[bne_iff_ne];exact fun d=>b (p.1 d),Q7,Q7];exact⟨[],0,210,rfl,rfl,by simp,by simp⟩
theorem akF{n:Nat}{all:List (List Int)}{a:List Int}{p t:Nat}{s:List Int}{b:List Int}{d g:Int}(B:p<all.length)(D:all.getD p []=s)(F:t<s.length)(E:s.length≤1000000000)(H:ii n):
  abW n n (all,a,(p:Int),(t:Int),0,b,d,g,s,(s.length:Int),0,())=some (all,a,((abv s t s.length:Nat):Int),b,d,g,()):=by
 have h:=aQ (L:=fun k j (c:Int)=>abW n k (all,a,(p:Int),(t:Int),c,b,d,g,s,(s.length:Int),j,())) (len:=s.length) (r:=(all,a,((abv s t s.length:Nat):Int),b,d,g,())) (fun i=>((abv s t i:Nat):Int)) (by
  intro k i y;have z:=aj3 s t i;show abW n (k+1) _=_;rw[afS,xY,Bu y 0,Bu B []];simp only[aa];rw[D,Bu F 0];simp only[aa,ag,dU,beq_iff_eq];have u:abv s t (i+1)=abv s t i+if agy s t i=true then 1 else 0:=rfl;rw[u,bu (x:=(i:Int)+1)]
  by_cases o:s.getD i 0>s.getD t 0
  ·have l:agy s t i=true:=by unfold agy;rw[dU];exact .inl o
   rw[if_pos o,l];simp only[aa,if_true];rw[bu];rfl
  ·rw[if_neg o]
   by_cases q:s.getD i 0=s.getD t 0
   ·rw[if_pos q];simp only[aa]
    by_cases w:i<t
    ·have l:agy s t i=true:=by unfold agy;rw[dU];exact .inr ⟨q,w⟩
     rw[if_pos (by rw[dU];omega),l];simp only[aa,if_true];rw[bu];rfl
    ·have l:agy s t i=false:=by unfold agy;rw[decide_eq_false_iff_not];rintro(h |h);exact o h;exact w h.2
     rw[if_neg (by rw[dU];omega),l];rfl
   ·have l:agy s t i=false:=by unfold agy;rw[decide_eq_false_iff_not];rintro(h |h);exact o h;exact q h.1
    rw[if_neg q,l];rfl) (by
  intro k;show abW n (k+1) _=_;rw[afS,ag,if_neg (by simp)]) n (by omega)
 exact h
def ahH(all:List (List Int))(l:List Int)(i:Nat):Int:=((abv (all.getD i []) (l.getD (i+1) 0).toNat (all.getD i []).length:Nat):Int)
theorem aj8{n:Nat}{m:Mod}(h:WN m){l:List Int}(P:l.length≤1048576)(g:ii n):∃o e,aey n (m,l)=some (o,e)∧aez n (m,l)=some (o,e)∧o.length≤1000000000:=by
 by_cases u:Eu m
 ·obtain⟨D,H,O,C,Hd,V,L,E,d⟩:=ace h u;have W:=d.r.ok.kp.cm;have T:=d.r.ok.v2;obtain⟨s1,Z⟩:=SN d u (l:=l) P g;rw[agI,agJ,aiw d u P g,Z];simp only[aa]
  by_cases M:Hf C V l=0
  ·obtain⟨z1,N,Q⟩:=aiy M;have K:P1 m l:=fun t X=>by rw[d.r.ok.v];exact Q t X
   obtain⟨pr,z⟩:=ajc d K N g;obtain⟨R,S,b3,b4,-⟩:=d.rows K N L (av _);obtain⟨all,c⟩:∃a,(lw m l L).map (OH m)=a:=⟨_,rfl⟩;have U:all.length=l.length:=by rw[←c,aci,R]
   have w:∀p,p<l.length→(all.getD p []).length=V:=fun p hp=>by
    have B:p<(lw m l L).length:=by omega
    rw[←c,bd,List.getElem?_map,ai B];obtain⟨u1,u2⟩:=S _ (ap B);exact(d.sc u1 (fun y Y=>by have:=u2 y Y;omega) g).1
   have q:∀i,i<l.length→∃t:Nat,l.getD i 0=(t:Int)∧t<V:=fun i F=>by
    have:=Q _ (ap F);rw[dy F];exact⟨l[i].toNat,by omega,by omega⟩
   rw[c]at z;rw[M,show((0:Int)!=0)=false from rfl,jT,jT,Yz d K N g,c,Gh];simp only[aa];rw[show((m,m.1.2.2.2.1,m.2.2.2.2.1,m.2.2.2.2.2.1,m.2.2.2.2.2.2.2.1):Mod×En)=(m,pK m)from rfl,z];simp only[aa];rw[show(l.length:Int)=(1:Int)+((l.length -1:Nat):Int)by omega,show slc l (1:Int) ((1:Int)+((l.length -1:Nat):Int))=some ((l.drop 1).take (l.length -1))from nG (a:=1)];simp only[aa];rw[bp (by simp)];have b:∀i,(abY (i+1)).map (ahH all l)=(abY i).map (ahH all l)++[ahH all l i]:=fun i=>by rw[List.range_succ,acl];rfl
   have J:=aQ (L:=fun k j (s:List Int)=>acr n k (all,s,l.drop 1,(((l.drop 1).length:Nat):Int),j,())) (len:=l.length -1) (r:=((abY (l.length -1)).map (ahH all l),())) (fun i=>(abY i).map (ahH all l)) (by
    intro k i F;obtain⟨t,t1,t2⟩:=q (i+1) (by omega);have u:=w i (by omega);show acr n (k+1) _=_;rw[agq,ag,if_pos (by rw[dU,cy];omega),Bu (show i<(l.drop 1).length by rw[cy];omega) 0,show(l.drop 1).getD i 0=(t:Int)by rw[←t1];simp[bd,Nat.add_comm],Bu (show i<all.length by omega) []];simp only[aa];rw[akF (by omega) rfl (by omega) (by omega) g];simp only[aa];rw[hA (by simp;omega) (by decide)];simp only[aa];rw[b,bu];unfold ahH;rw[t1,aH]) (by
    intro k;show acr n (k+1) _=_;rw[agq,ag,if_neg (by rw[dU,cy];omega)]) n (by omega)
   have I:=aQ (L:=fun k j (s:List Int)=>acs n k (l,all,s,j+1,())) (len:=l.length -1) (r:=((abY (l.length -1)).map (ahH all l),())) (fun i=>(abY i).map (ahH all l)) (by
    intro k i F;obtain⟨t,t1,t2⟩:=q (i+1) (by omega);have u:=w i (by omega);show acs n (k+1) _=_;rw[agr,xY,bu (x:=(i:Int)+1 -1),show(i:Int)+1 -1=(i:Int)by omega,Bu (show i<all.length by omega) [],
     show idx l ((i:Int)+1)=some (t:Int)by rw[←t1];exact Bu (i:=i+1) (by omega) 0]
    simp only[aa];rw[aiv (by omega) (by omega) g];simp only[aa];rw[hA (by simp;omega) (by decide)];simp only[aa];rw[b,bu];unfold ahH;rw[t1,aH]) (by
    intro k;show acs n (k+1) _=_;rw[agr,Sx]) n (by omega)
   have J:acr n n (all,[],l.drop 1,(((l.drop 1).length:Nat):Int),0,())=_:=J;have I:acs n n (l,all,[],1,())=_:=I;rw[J,I];exact⟨_,0,rfl,rfl,by simp;omega⟩
  ·rw[show(Hf C V l !=0)=true by rw[bne_iff_ne];exact M,Q7,Q7];exact⟨_,_,rfl,rfl,by simp⟩
 ·rw[agI,agJ,agK h u g,(Jb h u g).2];exact⟨[],210,rfl,rfl,by simp⟩
theorem row_one{n:Nat}{m:Mod}(h:WN m){l:List Int}(u:l.length≤1048576)(b:ii n):∃o e,ag4 n (m,l)=some (o,e)∧ag8 n (m,l)=some (o,e)∧o.length≤1000000000:=by
 by_cases c:Eu m
 ·obtain⟨D,H,q,C,J,V,L,E,a⟩:=ace h c;have y:=a.r.ok.kp.cm;obtain⟨P,F⟩:=SN a c (l:=l) u b;rw[aic,ait,aiw a c u b,F];simp only[aa]
  by_cases j:Hf C V l=0
  ·obtain⟨Q,k,I⟩:=aiy j;have d:P1 m l:=fun t z=>by rw[a.r.ok.v];exact I t z
   obtain⟨O,i⟩:=ajH a d k b;obtain⟨p,K,M,N,-⟩:=a.rows d k L (av _);have B:=a.r.ok.l8;rw[j,show((0:Int)!=0)=false from rfl,jT,jT,OJ a d k b,Gh];simp only[aa];rw[show((m,m.1.2.2.2.1,m.2.2.2.2.1,m.2.2.2.2.2.1,m.2.2.2.2.2.2.2.1):Mod×En)=(m,pK m)from rfl,i];simp only[aa,xZ];obtain⟨x,w⟩:∃x,idx (lw m l L) ((l.length -1:Nat):Int)=some x:=⟨_,cO (by omega)⟩;rw[p,bu,bu,show(l.length:Int) -1=((l.length -1:Nat):Int)by omega,show(((L+1:Nat)):Int) -1=(L:Int)by omega,Bu (show L<(cM (lw m l) (L+1)).length by simp) [],kn _ (by omega),w];simp only[aa];rw[GP a.ok.g b];simp only[aa];rw[p,bu,show(l.length:Int) -1=((l.length -1:Nat):Int)by omega,w];simp only[aa];rw[BS a.ok.g b];have:=Oq (l:=x) (dZ:=m.2.2.2.2.2.2.2.2.1);exact⟨_,0,rfl,rfl,by omega⟩
  ·rw[show(Hf C V l !=0)=true by rw[bne_iff_ne];exact j,Q7,Q7];exact⟨_,_,rfl,rfl,by simp⟩
 ·rw[aic,ait,agK h c b,(Jb h c b).2];exact⟨[],210,rfl,rfl,by simp⟩
theorem ahI{n:Nat}{m:Mod}{cs:List (List Int)}{most:Int}(D:fZ n ()=some true)(hm:WN m)(l:∀x∈cs,x.length≤1048576)(E:cs.length≤1048576)(b:ii n):acU n (m,cs,most)=some true:=by
 obtain⟨a,i,e,u,w,N,y⟩:=akc hm l E b;rw[aiu,US hm.o.len b,aa,u,aa,w,aa,D,aa,cD,jT,akb (show a.length≤1000000000 by omega) (fun x d=>by have:=y x d;omega) b,aa,cD,jT];simp only[bne_self_eq_false,jT,aa];have h:=aQ (L:=fun k j (_:Unit)=>acu n k (cs,most,(),(),j,m,m,())) (len:=cs.length) (r:=.inr ()) (fun _=>()) (by
  intro k i t;have d:=l _ (ap t);obtain⟨g,O,g1,z,B⟩:=aj5 hm (most:=most) d b;obtain⟨p,P,H,I,J⟩:=aj8 hm d b;obtain⟨r,R,K,M,Q⟩:=row_one hm d b;show acu n (k+1) _=_;rw[ags,xY,cO t];simp only[aa];rw[g1,z,H,I,K,M];simp only[aa];rw[ajM B b,ajM J b];simp only[aa,cD,jT,bne_self_eq_false];have c:=aQ (L:=fun k q (_:Unit)=>abX n k (cs,most,(),(),(i:Int),r,r,q,m,m,())) (len:=r.length) (r:=.inr (cs,most,(),(),(i:Int),m,m,())) (fun _=>()) (by
   intro k q F;show abX n (k+1) _=_;rw[af0,xY,cO F];simp only[aa,bne_self_eq_false,jT];rw[bu]) (by
   intro k;show abX n (k+1) _=_;rw[af0,ag,if_neg (by simp)]) n (by omega)
  have c:abX n n (cs,most,(),(),(i:Int),r,r,0,m,m,())=_:=c;rw[c];simp only[aa,ea];rw[bu]) (by
  intro k;show acu n (k+1) _=_;rw[ags,ag,if_neg (by simp)]) n (by omega)
 have h:acu n n (cs,most,(),(),0,m,m,())=_:=h;rw[h];rfl
theorem ajq(x:(g6 (aa5 0).ps).den)(h:OW (g6 (aa5 0).ps) x)(b:bB (g6 (aa5 0).ps) x≤1048576):∃n,acU n x=some true:=by
 obtain⟨m,a,c⟩:=x;have b:bB WO m+(bB (.sl acg) a+1)≤1048576:=b;have g:ac (α:=List Int) a+1≤bB (.sl acg) a:=wR (e:=acg) (fun x=>by have:=aeo x;omega) a;exact⟨2000000000,ahI J4 (agE h.1 (by omega)) (fun x d=>acH (by have:=Ve (e:=acg) d;omega)) (show ac (α:=List Int) a≤1048576 by omega) (av _)⟩
end Go.Am.Pu
