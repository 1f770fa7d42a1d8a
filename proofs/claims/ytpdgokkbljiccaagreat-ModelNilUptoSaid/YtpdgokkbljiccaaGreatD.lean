import Derived.Test.YtpdgokkbljiccaaGreatGT
set_option linter.unusedVariables false
set_option linter.unusedSimpArgs false
namespace Go.Am
open Go.Proofs.Tryz
noncomputable section
variable (n:Nat)
open Go Go.Proofs
def lI:Cx:=aW [] [] [(1,[(6,.bool)])] [] [] 15 n
def tV(x:Int×Int×Int):Option (Bool):=au (lI n) f181 [ak,ak,ak] [.bool] x
def fN:Entry:=⟨[ak,ak,ak],[.bool],tV n⟩
def oB:Cx:=aW [(181,fN n)] [] [(1,[(3,.bool)]),(2,[(52,.bool)])] [] [] 53 n
def xz(x:D4):Option (Int):=au (oB n) f121 [Y4] [ak] x
def kt:Entry:=⟨[Y4],[ak],xz n⟩
def qr:Cx:=aW [] [] [(1,[(4,.bool)])] [] [] 14 n
def z3(x:(D5×(List D1))×Int):Option (Bool):=au (qr n) f218 [Y7,ak] [.bool] x
def qs:Entry:=⟨[Y7,ak],[.bool],z3 n⟩
def tW:NS:=⟨[(1,.fix (.v false [.ptr 0 0])),(4,.fix (.v false [.mp 7])),(21,.data Y5),(22,aZ),(23,aZ)],[(0,.obj Y7),(7,.map .str ak)],13⟩
def tX:LS:=⟨tW,[(.ret,⟨[(2,aZ),(3,aZ)],[],13⟩),(.exit 0,⟨[(1,.fix (.v false [.ptr 0 0]))],[(0,.obj Y7)],13⟩)]⟩
def sj:NS:=⟨[(1,.fix (.v false [.ptr 0 0])),(9,.fix (.v false [.mp 23])),(67,.data Y6),(68,aZ),(69,aZ)],[(0,.obj Y7),(23,.map Y0 ak)],29⟩
def sk:LS:=⟨sj,[(.ret,⟨[(2,aZ),(3,aZ)],[],29⟩),(.exit 3,⟨[],[],29⟩)]⟩
def oC:Cx:=aW [(218,qs n)] [] [(8,[(46,.bool)]),(22,[(128,.bool)])] [(5,tX),(18,sk)] [] 134 n
def xA(x:D5×(List D1)):Option (Int×Int):=au (oC n) f182 [Y7] [ak,ak] x
def oD:Entry:=⟨[Y7],[ak,ak],xA n⟩
def oE:Cx:=aW [(182,oD n)] [] [] [] [] 30 n
def xB(x:D4×BW):Option ((Int×Int)×Int):=au (oE n) f122 [mI] [Y0,ak] x
def oF:Entry:=⟨[mI],[Y0,ak],xB n⟩
def qu:Cx:=aW [(121,kt n)] [] [] [] [] 12 n
def z5(x:D4):Option (Int):=au (qu n) f183 [Y4] [ak] x
def qv:Entry:=⟨[Y4],[ak],z5 n⟩
def od:NS:=⟨[(0,aZ),(7,.data mJ),(8,aZ),(9,aZ)],[],4⟩
def oe:LS:=⟨od,[(.ret,⟨[(4,Nz)],[],4⟩),(.exit 0,⟨[],[],4⟩)]⟩
def j6:Cx:=aW [] [] [] [(2,oe)] [] 18 n
def qw(x:Int×Hi):Option (Bool):=au (j6 n) f219 [ak,mJ] [.bool] x
def j7:Entry:=⟨[ak,mJ],[.bool],qw n⟩
def kQ:Cx:=aW [(181,fN n)] [] [] [] [] 6 n
def sm(x:Int):Option (Bool):=au (kQ n) f220 [ak] [.bool] x
def kR:Entry:=⟨[ak],[.bool],sm n⟩
def eD:NS:=⟨[(0,.data cP),(1,.fix (.v false [.clos 220 []])),(7,aZ),(8,aZ)],[],4⟩
def eE:LS:=⟨eD,[(.ret,⟨[(4,aZ)],[],4⟩),(.exit 0,⟨[],[],4⟩)]⟩
def db:Cx:=aW [(220,kR n)] [] [] [(2,eE)] [] 19 n
def eV(x:bB×Unit):Option (Int):=au (db n) f190 [cP,(.fn 220)] [ak] x
def dc:Entry:=⟨[cP,(.fn 220)],[ak],eV n⟩
def cM:Cx:=aW [(190,dc n)] [] [] [] [] 9 n
def eu(x:bB×Unit):Option (Bool):=au (cM n) f134 [cP,(.fn 220)] [.bool] x
def cN:Entry:=⟨[cP,(.fn 220)],[.bool],eu n⟩
def mL:Cx:=aW [(134,cN n)] [] [] [] [] 6 n
def wk(x:bB):Option (Bool):=au (mL n) f185 [cP] [.bool] x
def ji:Entry:=⟨[cP],[.bool],wk n⟩
def oG:Cx:=aW [(219,j7 n),(185,ji n)] [] [] [] [] 68 n
def xC(x:D4×tf):Option (Int):=au (oG n) f184 [Y4,td] [ak] x
def oH:Entry:=⟨[Y4,td],[ak],xC n⟩
def sn:NS:=⟨[(1,.fix (.v false [.ptr 0 0])),(2,.fix (.v false [.ptr 1 0])),(4,.fix (.v false [.ptr 5 0])),(54,aZ),(55,aZ)],[(0,.obj mI),(1,.obj Y0),(5,.obj Y4)],50⟩
def sq:LS:=⟨sn,[(.ret,⟨[(2,.fix (.v false [.ptr 1 0])),(3,aZ)],[(1,.obj Y0)],50⟩),(.exit 1,⟨[(1,.fix (.v false [.ptr 0 0])),(2,.fix (.v false [.ptr 1 0])),(4,.fix (.v false [.ptr 5 0]))],[(0,.obj mI),(1,.obj Y0),(5,.obj Y4)],50⟩)]⟩
def oI:Cx:={ tt:=tt,calls:=[(183,qv n),(181,fN n),(184,oH n),(185,ji n)],owns:=[],A6:=[(15,[(68,.bool)])],lcs:=[(68,[(7,ak)],8)],loops:=[(12,sq)],bu:=[],nt:=115,fuel:=n }
def xD(x:D4×BW):Option ((Int×Int)×Int):=au (oI n) f123 [mI] [Y0,ak] x
def oJ:Entry:=⟨[mI],[Y0,ak],xD n⟩
def qx:Cx:=aW [] [] [] [] [] 19 n
def lr(x:bB×Int):Option (Int):=au (qx n) f206 [Y8,ak] [ak] x
def qy:Entry:=⟨[Y8,ak],[ak],lr n⟩
def Ca(x:bB×Int):Option (bB×Int):=wg (lr n) x
def ti:Entry:=⟨[Y8,ak],[cP,ak],Ca n⟩
def sr:NS:=⟨[(7,aZ),(8,aZ)],[],15⟩
def oK:Cx:=aW [] [] [] [] [(18,sr)] 26 n
def xE(x:Int×Int):Option (Int×Int×Int):=au (oK n) f224 [ak,ak] [ak,ak,ak] x
def g7:Entry:=⟨[ak,ak],[ak,ak,ak],xE n⟩
end
noncomputable section
variable (n:Nat)
def tY:NS:=⟨[(6,aZ)],[],31⟩
def qz:Cx:=aW [(224,g7 n)] [] [] [] [(35,tY)] 39 n
def z9(x:Int×Int):Option (Int×Int):=au (qz n) f194 [ak,ak] [ak,ak] x
def qA:Entry:=⟨[ak,ak],[ak,ak],z9 n⟩
def oL:Cx:=aW [(194,qA n)] [] [] [] [] 18 n
def xF(x:Int×Int):Option (Int×Int):=au (oL n) f138 [ak,ak] [ak,ak] x
def dS:Entry:=⟨[ak,ak],[ak,ak],xF n⟩
def wl:NS:=⟨[(2,aZ),(9,aZ),(20,.data cP),(21,aZ),(22,aZ)],[],13⟩
def wm:LS:=⟨wl,[(.exit 0,⟨[(9,aZ)],[],13⟩)]⟩
def qB:Cx:=aW [(221,ti n),(138,dS n)] [] [] [(4,wm)] [] 38 n
def Aa(x:bB×Int×Int):Option (Int):=au (qB n) f186 [Y8,ak,ak] [ak] x
def qC:Entry:=⟨[Y8,ak,ak],[ak],Aa n⟩
def qD:NS:=⟨[(1,.fix (.v false [.ptr 0 0])),(3,aZ),(10,.data Y8),(11,aZ),(12,aZ)],[(0,.obj mI)],7⟩
def qE:LS:=⟨qD,[(.exit 0,⟨[(1,.fix (.v false [.ptr 0 0])),(3,aZ)],[(0,.obj mI)],7⟩)]⟩
def qF:NS:=⟨[(1,.fix (.v false [.ptr 0 0])),(6,.own ak),(30,.data J8),(31,aZ),(32,aZ)],[(0,.obj mI)],17⟩
def qG:LS:=⟨qF,[(.exit 2,⟨[(6,.own ak)],[],17⟩)]⟩
def lJ:Cx:=aW [(186,qC n)] [] [] [(3,qE),(9,qG)] [] 76 n
def tZ(x:D4×BW):Option bB:=au (lJ n) f124 [mI] [cP] x
def lK:Entry:=⟨[mI],[cP],tZ n⟩
def ss:NS:=⟨[(2,.fix (.v false [.ptr 1 0])),(37,.data cP),(38,aZ),(39,aZ)],[(1,.obj Y0)],33⟩
def su:LS:=⟨ss,[(.ret,⟨[(2,.fix (.v false [.ptr 1 0])),(3,aZ)],[(1,.obj Y0)],33⟩),(.exit 0,⟨[(2,.fix (.v false [.ptr 1 0]))],[(1,.obj Y0)],33⟩)]⟩
def oM:Cx:=aW [(121,kt n),(122,oF n),(123,oJ n),(124,lK n)] [] [] [(11,su)] [] 50 n
def xG(x:D4×BW):Option ((Int×Int)×Int):=au (oM n) f61 [mI] [Y0,ak] x
def oN:Entry:=⟨[mI],[Y0,ak],xG n⟩
def mM:Cx:=aW [] [] [] [] [] 15 n
def wn(x:D4×BW):Option (Np):=au (mM n) f62 [mI] [KM] x
def mN:Entry:=⟨[mI],[KM],wn n⟩
def j8:Cx:=aW [] [] [(1,[(4,.bool)])] [] [] 17 n
def qH(x:Np×Int):Option (Bool):=au (j8 n) f63 [OW,ak] [.bool] x
def j9:Entry:=⟨[OW,ak],[.bool],qH n⟩
def zc:Cx:=aW [(206,qy n)] [(146,Lx)] [(4,[(24,.bool)])] [] [] 35 n
def ES(x:bB×Int×Int):Option (bB×Int):=au (zc n) f191 [Y8,ak,ak] [Y8,ak] x
def zd:Entry:=⟨[Y8,ak,ak],[Y8,ak],ES n⟩
def sv:NS:=⟨[(0,.data mJ),(7,.data mJ),(8,aZ),(9,aZ)],[],4⟩
def sw:LS:=⟨sv,[(.ret,⟨[(2,aZ)],[],4⟩),(.exit 0,⟨[(0,.data mJ)],[],4⟩)]⟩
def sx:NS:=⟨[(0,.data mJ),(17,.data mJ),(18,aZ),(19,aZ)],[],7⟩
def sy:LS:=⟨sx,[(.ret,⟨[(2,aZ)],[],7⟩),(.exit 2,⟨[],[],7⟩)]⟩
def mO:Cx:=aW [] [] [] [(2,sw),(8,sy)] [] 31 n
def wo(x:Hi):Option (Int):=au (mO n) f223 [mJ] [ak] x
def jj:Entry:=⟨[mJ],[ak],wo n⟩
def xH:NS:=⟨[(1,aZ),(7,.fix (.v false [.vec 16])),(25,.data Y8),(26,aZ),(27,aZ)],[(16,.row ak)],21⟩
def xI:LS:=⟨xH,[(.exit 0,⟨[(7,.fix (.v false [.vec 16]))],[(16,.row ak)],21⟩)]⟩
def tj:Cx:=aW [(223,jj n)] [] [(4,[(21,.bool)])] [(8,xI)] [] 41 n
def Cb(x:bB×Int):Option (bB×Int):=au (tj n) f192 [Y8,ak] [cP,ak] x
def tm:Entry:=⟨[Y8,ak],[cP,ak],Cb n⟩
def mP:Cx:=aW [] [] [] [] [] 77 n
def wu(x:(Int×J9)×bB×Int):Option (Int×bB×bB×Int):=au (mP n) f106 [DZ,cP,ak] [ak,Y8,Y8,ak] x
def jk:Entry:=⟨[DZ,cP,ak],[ak,Y8,Y8,ak],wu n⟩
def wv:NS:=⟨[(0,aZ),(4,aZ),(5,aZ)],[],6⟩
def ww:LS:=⟨wv,[(.exit 0,⟨[(4,aZ)],[],6⟩)]⟩
def ua:NS:=⟨[(0,aZ),(4,aZ),(5,aZ)],[],23⟩
def qI:Cx:=aW [] [] [] [(5,ww)] [(26,ua)] 29 n
def Ab(x:Int):Option (Int×Int):=au (qI n) f193 [ak] [ak,ak] x
def qJ:Entry:=⟨[ak],[ak,ak],Ab n⟩
def xJ:NS:=⟨[(0,.data cP),(4,aZ),(17,.data cP),(18,aZ),(19,aZ)],[],14⟩
def xK:LS:=⟨xJ,[(.ret,⟨[(2,aZ),(3,aZ)],[],14⟩),(.exit 0,⟨[(0,.data cP),(4,aZ)],[],14⟩)]⟩
def tn:Cx:=aW [(193,qJ n)] [] [] [(5,xK)] [] 45 n
def Cc(x:bB):Option (Int×Int):=au (tn n) f137 [cP] [ak,ak] x
def tp:Entry:=⟨[cP],[ak,ak],Cc n⟩
def oO:Cx:=aW [] [] [] [] [] 18 n
def xL(x:Int×Int×Int):Option (Int):=au (oO n) f195 [ak,ak,ak] [ak] x
def oP:Entry:=⟨[ak,ak,ak],[ak],xL n⟩
end
noncomputable section
variable (n:Nat)
def mQ:Cx:=aW [(195,oP n)] [] [] [] [] 6 n
def wx(x:Int):Option (Int):=au (mQ n) f139 [ak] [(.int .i8)] x
def fc:Entry:=⟨[ak],[(.int .i8)],wx n⟩
def Ac:NS:=⟨[(1,.data Y8),(6,aZ),(8,.fix (.v false [.vec 18])),(29,.data cP),(30,aZ),(31,aZ)],[(18,.row (.int .i8))],23⟩
def Ad:LS:=⟨Ac,[(.exit 0,⟨[(8,.fix (.v false [.vec 18]))],[(18,.row (.int .i8))],23⟩)]⟩
def wy:Cx:=aW [(137,tp n),(138,dS n),(139,fc n)] [] [] [(8,Ad)] [] 57 n
def DC(x:bB×bB):Option (bB×Int):=au (wy n) f84 [cP,Y8] [Y8,ak] x
def jl:Entry:=⟨[cP,Y8],[Y8,ak],DC n⟩
def Cd:NS:=⟨[(1,.data Y8),(5,aZ),(8,.data Y8),(9,aZ),(10,aZ)],[],5⟩
def Ce:LS:=⟨Cd,[(.exit 0,⟨[(5,aZ)],[],5⟩)]⟩
def ze:Cx:=aW [] [] [] [(3,Ce)] [] 27 n
def zf(x:bB×bB):Option (Int):=au (ze n) f208 [Y8,Y8] [ak] x
def zg:Entry:=⟨[Y8,Y8],[ak],zf n⟩
def Cf(x:bB×Int×bB):Option (bB×Int):=we (lr n) (zf n) x
def fW:Entry:=⟨[Y8,ak,Y8],[cP,ak],Cf n⟩
def qK:NS:=⟨[(0,.data qo),(7,.data qo),(8,aZ),(9,aZ)],[],4⟩
def qL:LS:=⟨qK,[(.ret,⟨[(2,aZ)],[],4⟩),(.exit 0,⟨[(0,.data qo)],[],4⟩)]⟩
def qM:NS:=⟨[(0,.data qo),(17,.data qo),(18,aZ),(19,aZ)],[],7⟩
def qN:LS:=⟨qM,[(.ret,⟨[(2,aZ)],[],7⟩),(.exit 2,⟨[],[],7⟩)]⟩
def lL:Cx:=aW [] [] [] [(2,qL),(8,qN)] [] 31 n
def ub(x:Is):Option (Int):=au (lL n) f171 [qo] [ak] x
def iC:Entry:=⟨[qo],[ak],ub n⟩
def xM:NS:=⟨[(1,aZ),(9,.fix (.v false [.vec 19])),(29,.data cP),(30,aZ),(31,aZ)],[(19,.row ak)],24⟩
def xN:LS:=⟨xM,[(.exit 0,⟨[(9,.fix (.v false [.vec 19]))],[(19,.row ak)],24⟩)]⟩
def tq:Cx:=aW [(171,iC n),(138,dS n)] [] [] [(9,xN)] [] 47 n
def Cg(x:bB×Int):Option (bB×Int):=au (tq n) f168 [cP,ak] [cP,ak] x
def ig:Entry:=⟨[cP,ak],[cP,ak],Cg n⟩
def wz:NS:=⟨[(8,.fix (.v false [.vec 14])),(23,.data cP),(24,aZ),(25,aZ)],[(14,.row (.int .i8))],19⟩
def wA:LS:=⟨wz,[(.exit 0,⟨[(8,.fix (.v false [.vec 14]))],[(14,.row (.int .i8))],19⟩)]⟩
def qO:Cx:=aW [(168,ig n),(139,fc n)] [] [] [(6,wA)] [] 37 n
def Ae(x:bB×Int):Option (bB×Int):=au (qO n) f164 [cP,ak] [Y8,ak] x
def ls:Entry:=⟨[cP,ak],[Y8,ak],Ae n⟩
def lM:Cx:=aW [(163,fW n),(164,ls n)] [] [] [] [] 26 n
def uc(x:bB×bB×Int):Option (bB×Int):=au (lM n) f107 [Y8,Y8,ak] [Y8,ak] x
def iD:Entry:=⟨[Y8,Y8,ak],[Y8,ak],uc n⟩
def oQ:Cx:=aW [] [] [] [] [] 24 n
def xO(x:Int×Int×Int×Int):Option (Int×Int):=au (oQ n) f166 [ak,ak,ak,ak] [ak,ak] x
def oR:Entry:=⟨[ak,ak,ak,ak],[ak,ak],xO n⟩
def oS:Cx:=aW [(138,dS n),(139,fc n)] [] [] [] [] 12 n
def xP(x:Int):Option (Int):=au (oS n) f209 [ak] [(.int .i8)] x
def oT:Entry:=⟨[ak],[(.int .i8)],xP n⟩
def iE:NS:=⟨[(0,.data Y8),(1,aZ),(2,.data Y8),(3,.data Y8),(4,.fix (.v false [.clos 166 []])),(12,.fix (.v false [.vec 30])),(13,aZ)],[(30,.row (.int .i8))],33⟩
def iF:LS:=⟨iE,[(.exit 0,⟨[(12,.fix (.v false [.vec 30]))],[(30,.row (.int .i8))],33⟩)]⟩
def fe:Cx:=aW [(166,oR n),(209,oT n)] [] [] [(7,iF)] [] 94 n
def jm(x:bB×Int×bB×bB×Unit):Option (bB×Int):=au (fe n) f165 [Y8,ak,Y8,Y8,(.fn 166)] [Y8,ak] x
def fg:Entry:=⟨[Y8,ak,Y8,Y8,(.fn 166)],[Y8,ak],jm n⟩
def tr:Cx:=aW [(165,fg n)] [] [] [] [] 17 n
def Ch(x:bB×Int×bB×bB):Option (bB×Int):=au (tr n) f108 [Y8,ak,Y8,Y8] [Y8,ak] x
def mR:Entry:=⟨[Y8,ak,Y8,Y8],[Y8,ak],Ch n⟩
def qP:Cx:=aW [(106,jk n),(84,jl n),(107,iD n),(108,mR n)] [] [] [] [] 82 n
def Af(x:tf×(Int×J9)×bB×Int):Option (CV×Int):=au (qP n) f56 [td,DZ,cP,ak] [sg,ak] x
def qQ:Entry:=⟨[td,DZ,cP,ak],[sg,ak],Af n⟩
def wB:NS:=⟨[(0,.data Y8),(25,.data mJ),(26,aZ),(27,aZ)],[],22⟩
def wC:LS:=⟨wB,[(.ret,⟨[(4,Nz)],[],22⟩),(.exit 0,⟨[],[],22⟩)]⟩
def qR:Cx:=aW [] [] [] [(4,wC)] [] 37 n
def Ag(x:bB×Hi):Option (Bool):=au (qR n) f210 [Y8,mJ] [.bool] x
def i3:Entry:=⟨[Y8,mJ],[.bool],Ag n⟩
def qS:NS:=⟨[(1,.ref ak),(2,.ref ak),(5,.own Y8),(8,.data mJ),(9,aZ),(10,aZ)],[],5⟩
def qT:LS:=⟨qS,[(.exit 0,⟨[(5,.own Y8)],[],5⟩)]⟩
def lN:Cx:=aW [] [] [] [(3,qT)] [] 25 n
def ud(x:Hi×Int×Int):Option (Hi):=au (lN n) f211 [mJ,Mq,Mq] [mJ] x
def lO:Entry:=⟨[mJ,Mq,Mq],[mJ],ud n⟩
def zh:Cx:=aW [(223,jj n),(208,zg n)] [] [] [] [] 17 n
def ET(x:bB×bB):Option (Int×Int):=au (zh n) f243 [Y8,Y8] [ak,ak] x
def zj:Entry:=⟨[Y8,Y8],[ak,ak],ET n⟩
end
noncomputable section
variable (n:Nat)
def qU:NS:=⟨[(0,.data Y8),(2,aZ),(8,.own ak),(25,.data mJ),(26,aZ),(27,aZ)],[],18⟩
def qV:LS:=⟨qU,[(.exit 1,⟨[(8,.own ak)],[],18⟩)]⟩
def lP:Cx:=aW [(210,i3 n),(243,zj n),(138,dS n)] [] [] [(7,qV)] [] 49 n
def ue(x:bB×Hi×Int):Option (bB×Int):=au (lP n) f233 [Y8,mJ,ak] [cP,ak] x
def lQ:Entry:=⟨[Y8,mJ,ak],[cP,ak],ue n⟩
def mS:NS:=⟨[(0,.data cP),(3,aZ),(4,aZ)],[],9⟩
def mT:LS:=⟨mS,[(.exit 0,⟨[(3,aZ)],[],9⟩)]⟩
def mU:NS:=⟨[(0,.data cP)],[],4⟩
def jn:Cx:=aW [] [] [] [(5,mT)] [(7,mU)] 25 n
def pN(x:bB):Option (Int):=au (jn n) f244 [cP] [ak] x
def jo:Entry:=⟨[cP],[ak],pN n⟩
def wD:NS:=⟨[(3,aZ),(4,aZ),(6,.fix (.v false [.ptr 16 0])),(7,aZ),(22,aZ)],[(16,.cells [.data ak,.data ak,.data ak,.data ak])],22⟩
def wE:LS:=⟨wD,[(.exit 0,⟨[(3,aZ),(7,aZ)],[],22⟩)]⟩
def qW:Cx:=aW [(224,g7 n)] [] [] [(8,wE)] [] 39 n
def Ah(x:Int):Option (Int):=au (qW n) f245 [ak] [ak] x
def qX:Entry:=⟨[ak],[ak],Ah n⟩
def sA:NS:=⟨[(4,aZ),(5,.own ak),(19,.data cP),(20,aZ),(21,aZ)],[],17⟩
def sB:LS:=⟨sA,[(.exit 0,⟨[(5,.own ak)],[],17⟩)]⟩
def mV:Cx:=aW [(244,jo n),(245,qX n)] [] [] [(6,sB)] [] 40 n
def wF(x:bB):Option (bB×Int):=au (mV n) f234 [cP] [cP,ak] x
def mW:Entry:=⟨[cP],[cP,ak],wF n⟩
def wG:NS:=⟨[(4,aZ),(7,.data cP),(8,aZ),(9,aZ)],[],6⟩
def wH:LS:=⟨wG,[(.ret,⟨[(2,aZ),(3,aZ)],[],6⟩),(.exit 0,⟨[(4,aZ)],[],6⟩)]⟩
def qY:Cx:=aW [] [] [] [(3,wH)] [] 26 n
def Ai(x:bB):Option (Int×Int):=au (qY n) f246 [cP] [ak,ak] x
def lu:Entry:=⟨[cP],[ak,ak],Ai n⟩
def xQ:NS:=⟨[(1,.data Y8),(6,aZ),(8,aZ),(32,.data cP),(33,aZ),(34,aZ)],[],25⟩
def xR:LS:=⟨xQ,[(.exit 0,⟨[(6,aZ),(8,aZ)],[],25⟩)]⟩
def tw:Cx:=aW [(246,lu n),(224,g7 n)] [] [] [(8,xR)] [] 62 n
def Ci(x:bB×bB):Option (Int×Int):=au (tw n) f247 [cP,Y8] [(.int .i8),ak] x
def tz:Entry:=⟨[cP,Y8],[(.int .i8),ak],Ci n⟩
def wI:NS:=⟨[(0,.data cP),(1,.data mJ),(27,.data mJ),(28,aZ),(29,aZ)],[],15⟩
def wJ:LS:=⟨wI,[(.ret,⟨[(4,.own (.int .i8)),(5,aZ)],[],15⟩),(.exit 0,⟨[(0,.data cP),(1,.data mJ)],[],15⟩)]⟩
def uf:NS:=⟨[(0,.data cP),(1,.data mJ),(10,.own (.int .i8)),(52,aZ),(53,aZ)],[],30⟩
def ug:LS:=⟨uf,[(.exit 2,⟨[(10,.own (.int .i8))],[],30⟩)]⟩
def uh:NS:=⟨[(0,.data cP),(1,.data mJ),(10,.own (.int .i8)),(11,aZ),(12,.own (.int .i8)),(52,aZ),(53,aZ),(56,.data mJ),(57,aZ),(58,aZ)],[],38⟩
def ui:LS:=⟨uh,[(.exit 4,⟨[(0,.data cP),(1,.data mJ),(10,.own (.int .i8)),(12,.own (.int .i8)),(52,aZ),(53,aZ)],[],38⟩)]⟩
def qZ:Cx:=aW [(246,lu n),(247,tz n)] [] [] [(4,wJ),(14,ug),(18,ui)] [] 82 n
def Aj(x:bB×Hi):Option (bB×Int):=au (qZ n) f235 [cP,mJ] [Y8,ak] x
def q8:Entry:=⟨[cP,mJ],[Y8,ak],Aj n⟩
def oU:Cx:=aW [(233,lQ n),(210,i3 n),(234,mW n),(235,q8 n)] [] [] [] [] 49 n
def xS(x:bB×Hi×Hi×Int):Option (bB×Int):=au (oU n) f212 [Y8,mJ,mJ,ak] [Y8,ak] x
def oV:Entry:=⟨[Y8,mJ,mJ,ak],[Y8,ak],xS n⟩
def uj:NS:=⟨[(0,.data Y8),(1,aZ),(3,aZ),(10,.own Y8),(11,.own Y8),(29,.data pS),(30,aZ),(31,aZ)],[],16⟩
def uk:LS:=⟨uj,[(.exit 0,⟨[(0,.data Y8),(1,aZ),(3,aZ),(10,.own Y8),(11,.own Y8)],[],16⟩)]⟩
def sC:NS:=⟨[(0,.data Y8),(3,aZ),(10,.own Y8),(11,.own Y8),(14,.fix (.v false [.ptr 40 0])),(15,.own (.int .i8)),(16,.box [.data ak])],[(40,.cells [.data ak])],45⟩
def sD:LS:=⟨sC,[(.ret,⟨[(8,.own (.int .i8)),(9,aZ)],[],45⟩),(.exit 3,⟨[(15,.own (.int .i8))],[],45⟩)]⟩
def oW:Cx:=aW [(210,i3 n),(211,lO n),(212,oV n)] [] [] [(5,uk),(16,sD)] [] 101 n
def xT(x:bB×Int×(List CV)×Int):Option (bB×Int):=au (oW n) f167 [Y8,ak,pS,ak] [Y8,ak] x
def oX:Entry:=⟨[Y8,ak,pS,ak],[Y8,ak],xT n⟩
def tA:Cx:=aW [] [] [] [] [] 23 n
def Cj(x:Int×Int):Option (Int×Bool):=au (tA n) f172 [ak,ak] [ak,.bool] x
def tB:Entry:=⟨[ak,ak],[ak,.bool],Cj n⟩
def Ck:NS:=⟨[(1,.data cP),(7,.fix (.v false [.vec 11])),(21,.data cP),(22,aZ),(23,aZ)],[(11,.row ak)],16⟩
def Cl:LS:=⟨Ck,[(.ret,⟨[(4,.own ak),(5,aZ)],[],16⟩),(.exit 0,⟨[(7,.fix (.v false [.vec 11]))],[(11,.row ak)],16⟩)]⟩
def zk:Cx:=aW [(171,iC n),(172,tB n)] [] [] [(6,Cl)] [] 44 n
def EU(x:bB×bB):Option (bB×Int):=au (zk n) f111 [cP,cP] [cP,ak] x
def sE:Entry:=⟨[cP,cP],[cP,ak],EU n⟩
def mX:Cx:=aW [(106,jk n),(84,jl n),(107,iD n),(108,mR n),(167,oX n),(163,fW n),(168,ig n),(111,sE n)] [] [] [] [] 105 n
def wK(x:tf×(Int×J9)×bB×(List CV)):Option (bB×Int):=au (mX n) f109 [td,DZ,cP,pS] [cP,ak] x
def mY:Entry:=⟨[td,DZ,cP,pS],[cP,ak],wK n⟩
def oY:Cx:=aW [(163,fW n),(164,ls n)] [] [] [] [] 26 n
def xU(x:bB×bB×Int):Option (bB×Int):=au (oY n) f169 [Y8,Y8,ak] [Y8,ak] x
def oZ:Entry:=⟨[Y8,Y8,ak],[Y8,ak],xU n⟩
def q9:Cx:=aW [(138,dS n),(139,fc n)] [] [] [] [] 15 n
def Ak(x:Int×Int):Option (Int):=au (q9 n) f213 [ak,ak] [(.int .i8)] x
def ra:Entry:=⟨[ak,ak],[(.int .i8)],Ak n⟩
def Al:NS:=⟨[(0,.data Y8),(2,.data Y8),(8,.fix (.v false [.vec 23])),(33,.data Y8),(34,aZ),(35,aZ)],[(23,.row (.int .i8))],28⟩
def An:LS:=⟨Al,[(.exit 1,⟨[(8,.fix (.v false [.vec 23]))],[(23,.row (.int .i8))],28⟩)]⟩
def wL:Cx:=aW [(213,ra n)] [] [] [(9,An)] [] 58 n
def DD(x:bB×bB×bB):Option (bB×Int):=au (wL n) f170 [Y8,Y8,Y8] [Y8,ak] x
def wM:Entry:=⟨[Y8,Y8,Y8],[Y8,ak],DD n⟩
def rb:Cx:=aW [(169,oZ n),(170,wM n),(163,fW n),(168,ig n)] [] [] [] [] 65 n
def Ao(x:OV×bB×bB):Option (bB×Int):=au (rb n) f110 [KL,Y8,Y8] [cP,ak] x
def rd:Entry:=⟨[KL,Y8,Y8],[cP,ak],Ao n⟩
end
noncomputable section
variable (n:Nat)
def tC:Cx:=aW [(109,mY n),(84,jl n),(110,rd n),(111,sE n)] [] [] [] [] 52 n
def Cm(x:tf×(Int×J9)×bB×(List CV)):Option (bB×Int):=au (tC n) f57 [td,DZ,cP,pS] [cP,ak] x
def tD:Entry:=⟨[td,DZ,cP,pS],[cP,ak],Cm n⟩
def wN:NS:=⟨[(3,.data pS),(4,.fix (.v false [.ptr 0 0])),(5,.fix (.v false [.ptr 1 0])),(11,.own sg),(12,.own cP),(20,.data qo),(21,aZ),(22,aZ)],[(0,.obj td),(1,.obj DZ)],12⟩
def wO:LS:=⟨wN,[(.ret,⟨[(8,.own cP),(9,.own sg),(10,aZ)],[],12⟩),(.exit 0,⟨[(3,.data pS),(11,.own sg),(12,.own cP)],[],12⟩)]⟩
def re:Cx:=aW [(56,qQ n),(57,tD n)] [(55,Pv)] [] [(4,wO)] [] 63 n
def Ap(x:tf×(Int×J9)×Is×(List CV)):Option (Is×(List CV)×Int):=au (re n) f13 [td,DZ,qo,pS] [qo,pS,ak] x
def rf:Entry:=⟨[td,DZ,qo,pS],[qo,pS,ak],Ap n⟩
def tE:Cx:=aW [] [] [] [] [] 6 n
def bL(x:bB):Option bB:=au (tE n) f69 [Y8] [Y8] x
def tF:Entry:=⟨[Y8],[Y8],bL n⟩
def mZ:Cx:=aW [] [] [(1,[(6,.bool)])] [] [] 15 n
def wP(x:Int×Int×Int):Option (Bool):=au (mZ n) f129 [ak,ak,ak] [.bool] x
def m6:Entry:=⟨[ak,ak,ak],[.bool],wP n⟩
def o2:Cx:=aW [(129,m6 n)] [] [(1,[(30,.bool)]),(3,[(50,.bool)])] [] [] 51 n
def fD(x:D4):Option (Int):=au (o2 n) f127 [Y4] [ak] x
def ku:Entry:=⟨[Y4],[ak],fD n⟩
def rg:Cx:=aW [(127,ku n)] [] [] [] [] 12 n
def gx(x:D4):Option (Int):=au (rg n) f130 [Y4] [ak] x
def rh:Entry:=⟨[Y4],[ak],gx n⟩
end
noncomputable section
variable (n:Nat)
def sF:NS:=⟨[(7,aZ),(8,aZ)],[],15⟩
def o3:Cx:=aW [] [] [] [] [(18,sF)] 26 n
def xV(x:Int×Int):Option (Int×Int×Int):=au (o3 n) f225 [ak,ak] [ak,ak,ak] x
def g8:Entry:=⟨[ak,ak],[ak,ak,ak],xV n⟩
def ul:NS:=⟨[(6,aZ)],[],31⟩
def ri:Cx:=aW [(225,g8 n)] [] [] [] [(35,ul)] 39 n
def Aq(x:Int×Int):Option (Int×Int):=au (ri n) f197 [ak,ak] [ak,ak] x
def rj:Entry:=⟨[ak,ak],[ak,ak],Aq n⟩
def un:NS:=⟨[(0,aZ),(1,aZ),(6,aZ),(7,aZ)],[],10⟩
def uo:LS:=⟨un,[(.exit 0,⟨[(0,aZ),(6,aZ)],[],10⟩)]⟩
def o4:Cx:=aW [(197,rj n)] [] [] [(5,uo)] [] 26 n
def xW(x:Int×Int):Option (Int×Int):=au (o4 n) f141 [ak,ak] [ak,ak] x
def o5:Entry:=⟨[ak,ak],[ak,ak],xW n⟩
end
noncomputable section
variable (n:Nat)
def o6:Cx:=aW [] [] [] [] [] 16 n
def xX(x:Int×Int×Int):Option (Int):=au (o6 n) f198 [ak,ak,ak] [ak] x
def o7:Entry:=⟨[ak,ak,ak],[ak],xX n⟩
def m7:Cx:=aW [(198,o7 n)] [] [] [] [] 6 n
def wQ(x:Int):Option (Int):=au (m7 n) f142 [ak] [(.int .i8)] x
def m8:Entry:=⟨[ak],[(.int .i8)],wQ n⟩
end
noncomputable section
variable (n:Nat)
def up:NS:=⟨[(6,aZ),(9,aZ),(10,aZ)],[],35⟩
def uq:LS:=⟨up,[(.exit 0,⟨[(9,aZ)],[],35⟩)]⟩
def ur:NS:=⟨[(0,aZ)],[],3⟩
def rk:Cx:=aW [(225,g8 n)] [] [] [(11,uq)] [(12,ur)] 45 n
def Ar(x:Int):Option (Int):=au (rk n) f237 [ak] [ak] x
def rl:Entry:=⟨[ak],[ak],Ar n⟩
end
noncomputable section
variable (n:Nat)
def mg:NS:=⟨[(4,.vt (.gp 0 0)),(5,aZ)],[(0,.gh true G0),(1,.gh true G1),(2,.gh true G2)],19⟩
def mh:LS:=⟨mg,[(.exit 0,⟨[(4,.vt (.gp 0 0))],[(0,.gh true G0),(1,.gh true G1),(2,.gh true G2)],19⟩)]⟩
def iQ:Cx:={ tt:=tt,calls:=[],owns:=[],la:=[(3,(.data ak)),(232,U0),(329,U1)],E3:=[(230,1),(232,0)],nc:=3,A6:=[(1,[(11,.bool)])],loops:=[(5,mh)],bu:=[],nt:=33,fuel:=n }
def og(x:Int)(h:H0×H1×H2×Unit)(o:Unit):Option (((Option Nat)×Int)×H0×H1×H2×Unit):=aO (iQ n) f86 [(.data ak)] [(.gp 0 0),(.data ak)] [(0,G0),(1,G1),(2,G2)] [] x h o
def iR:bl:=⟨[(.data ak)],[(.gp 0 0),(.data ak)],[(0,G0),(1,G1),(2,G2)],[],og n⟩
def Cn:Cx:={ tt:=tt,calls:=[],owns:=[],stats:=[(86,iR n)],la:=[(179,U6),(239,(.gp 7 0))],E3:=[(177,6),(179,3)],nc:=7,A6:=[(1,[(41,.bool)])],loops:=[],bu:=[],nt:=54,fuel:=n }
def rn(x:Int×Int×Int×Int)(h:H0×H1×H2×H3×H4×Unit)(o:Unit):Option (((Option Nat)×Int)×H0×H1×H2×H3×H4×Unit):=aO (Cn n) f37 [(.data ak),(.data ak),(.data ak),(.data ak)] [(.gp 3 0),(.data ak)] [(0,G0),(1,G1),(2,G2),(3,G3),(6,G4)] [] x h o
def Co:bl:=⟨[(.data ak),(.data ak),(.data ak),(.data ak)],[(.gp 3 0),(.data ak)],[(0,G0),(1,G1),(2,G2),(3,G3),(6,G4)],[],rn n⟩
def ut:NS:=⟨[(0,aZ),(2,.fix (.v false [.ptr 0 0])),(3,.fix (.v false [.ptr 3 0])),(4,aZ)],[(0,.cells [.own .str,.own Y1]),(3,.cells [.own .str,.own Y1])],6⟩
def uu:LS:=⟨ut,[(.exit 0,⟨[(2,.fix (.v false [.ptr 0 0])),(3,.fix (.v false [.ptr 3 0]))],[(0,.cells [.own .str,.own Y1]),(3,.cells [.own .str,.own Y1])],6⟩)]⟩
def sG:NS:=⟨[(0,aZ),(2,.fix (.v false [.ptr 0 0])),(3,.fix (.v false [.ptr 3 0])),(4,aZ)],[(0,.cells [.own .str,.own Y1]),(3,.cells [.own .str,.own Y1])],30⟩
def o8:Cx:=aW [] [] [] [(3,uu)] [(38,sG)] 49 n
def fE(x:Int):Option (D5×(List D1)):=au (o8 n) f157 [ak] [Y7] x
def o9:Entry:=⟨[ak],[Y7],fE n⟩
def wR:NS:=⟨[(0,aZ),(3,aZ),(4,aZ)],[],3⟩
def wS:LS:=⟨wR,[(.exit 0,⟨[(3,aZ)],[],3⟩)]⟩
def rp:Cx:=aW [] [] [] [(3,wS)] [] 13 n
def cD(x:Int):Option (Int):=au (rp n) f158 [ak] [ak] x
def rq:Entry:=⟨[ak],[ak],cD n⟩
def wT:NS:=⟨[(0,Rl),(1,aZ),(5,.own (.int .i8)),(6,aZ)],[],4⟩
def wU:LS:=⟨wT,[(.exit 0,⟨[(5,.own (.int .i8))],[],4⟩)]⟩
def rr:Cx:=aW [] [] [] [(3,wU)] [] 18 n
def ev(x:Int×Int):Option bB:=au (rr n) f159 [(.int .i8),ak] [Y8] x
def rt:Entry:=⟨[(.int .i8),ak],[Y8],ev n⟩
def ru:Cx:={ tt:=tt,calls:=[],owns:=[],lcs:=[(9,[(4,ak)],3)],loops:=[],bu:=[],nt:=39,fuel:=n }
def As(x:Int):Option (Int):=au (ru n) f204 [ak] [(.int .i8)] x
def rv:Entry:=⟨[ak],[(.int .i8)],As n⟩
def uv:NS:=⟨[(0,aZ),(1,aZ),(7,.own (.int .i8)),(8,.own (.int .i8)),(9,aZ)],[],22⟩
def uw:LS:=⟨uv,[(.exit 0,⟨[(7,.own (.int .i8)),(8,.own (.int .i8))],[],22⟩)]⟩
def ux:NS:=⟨[(0,aZ),(1,aZ),(7,.own (.int .i8)),(8,.own (.int .i8)),(9,aZ),(10,aZ),(11,aZ)],[],29⟩
def uy:LS:=⟨ux,[(.exit 2,⟨[(0,aZ),(1,aZ),(7,.own (.int .i8)),(8,.own (.int .i8)),(9,aZ)],[],29⟩)]⟩
def pd:Cx:=aW [(204,rv n)] [] [(1,[(26,.bool)])] [(5,uw),(9,uy)] [] 58 n
def fF(x:Int×Int):Option (bB×bB×Int):=au (pd n) f160 [ak,ak] [Y8,Y8,ak] x
def pe:Entry:=⟨[ak,ak],[Y8,Y8,ak],fF n⟩
def rx(R:Int→Option (Int)):Cx:=aW [(231,⟨[ak],[ak],R⟩),(237,rl n),(225,g8 n)] [] [] [] [] 22 n
def kw(n k:Nat)(x:Int):Option (Int):=Nat.rec (motive:=fun _=>Int→Option (Int)) (fun _=>none) (fun _ R=>au (rx n R) f231 [ak] [ak]) k x
def Au(x:Int):Option (Int):=kw n n x
def ry:Entry:=⟨[ak],[ak],Au n⟩
def rz:Cx:={ tt:=tt,calls:=[(231,ry n),(141,o5 n),(142,m8 n)],owns:=[],lcs:=[(7,[(5,ak)],16)],loops:=[],bu:=[],nt:=34,fuel:=n }
def bh(x:Int×Int):Option (Int):=au (rz n) f205 [ak,ak] [(.int .i8)] x
def rA:Entry:=⟨[ak,ak],[(.int .i8)],bh n⟩
def uz:NS:=⟨[(0,aZ),(4,.own (.int .i8)),(5,aZ)],[],11⟩
def lS:LS:=⟨uz,[(.exit 0,⟨[(4,.own (.int .i8))],[],11⟩)]⟩
def kx:Cx:={ tt:=tt,calls:=[(205,rA n)],owns:=[],A6:=[(1,[(12,.bool)])],lcs:=[(20,[(6,ak)],3)],loops:=[(5,lS)],bu:=[],nt:=30,fuel:=n }
def dT(x:Int):Option (bB×Int):=au (kx n) f161 [ak] [Y8,ak] x
def pf:Entry:=⟨[ak],[Y8,ak],dT n⟩
def dH(k:Nat)(v:Int×bB×Int×Unit):Option (bB×Unit):=nT (kx n) f161 lS 5 k v
def xY:NS:=⟨[(0,.data (.int .u64)),(1,aZ),(6,.own (.int .i8)),(7,aZ)],[],5⟩
def xZ:LS:=⟨xY,[(.exit 0,⟨[(0,.data (.int .u64)),(6,.own (.int .i8))],[],5⟩)]⟩
def tG:Cx:={ tt:=tt,calls:=[],owns:=[],lcs:=[(22,[(8,ak)],3)],loops:=[(3,xZ)],bu:=[],nt:=32,fuel:=n }
def aF(x:Int×Int):Option (bB×Int):=au (tG n) f162 [(.int .u64),ak] [Y8,(.int .u64)] x
def tH:Entry:=⟨[(.int .u64),ak],[Y8,(.int .u64)],aF n⟩
def rB:NS:=⟨[(2,.fix (.v false [.ptr 0 0])),(4,.fix (.v false [.ptr 1 0])),(7,aZ),(8,aZ),(9,.fix (.v false [.ptr 24 0])),(10,.data (.int .u64)),(11,aZ)],[(0,.obj Y4),(1,.cells [.data ak,.data ak,.data ak,.data ak,.data ak,.data ak,.own .str,.own Y1,.own (.int .i8),.data ak,.own (.int .i8),.own (.int .i8),.own td,.own (.int .i8),.own (.int .i8),.own (.int .i8),.data ak]),(24,.cells [.data ak,.data ak,.data ak,.data ak,.data ak,.data ak,.data Y5,.data Y6,.data Y8,.data ak,.data Y8,.data Y8,.own td,.data Y8,.data Y8,.own (.int .i8),.data ak])],61⟩
def ka:LS:=⟨rB,[(.exit 0,⟨[(2,.fix (.v false [.ptr 0 0])),(4,.fix (.v false [.ptr 1 0])),(7,aZ),(9,.fix (.v false [.ptr 24 0])),(10,.data (.int .u64))],[(0,.obj Y4),(1,.cells [.data ak,.data ak,.data ak,.data ak,.data ak,.data ak,.own .str,.own Y1,.own (.int .i8),.data ak,.own (.int .i8),.own (.int .i8),.own td,.own (.int .i8),.own (.int .i8),.own (.int .i8),.data ak]),(24,.cells [.data ak,.data ak,.data ak,.data ak,.data ak,.data ak,.data Y5,.data Y6,.data Y8,.data ak,.data Y8,.data Y8,.own td,.data Y8,.data Y8,.own (.int .i8),.data ak])],61⟩)]⟩
def jp:Cx:=aW [(127,ku n),(157,o9 n),(158,rq n),(159,rt n),(130,rh n),(160,pe n),(161,pf n),(162,tH n)] [] [] [(11,ka)] [] 182 n
def fh(x:D4×Int):Option ((D4×BW)×Int):=au (jp n) f105 [Y4,ak] [mI,ak] x
def na:Entry:=⟨[Y4,ak],[mI,ak],fh n⟩
def eQ(k:Nat)(v:Unit×Unit×Int×Int×Unit×Int×Int×D4×(Int×Int×Int×Int×Int×Int×(List (List UInt8))×(List D1)×bB×Int×bB×bB×(List tf)×bB×bB×bB×Int×Unit)×(Int×Int×Int×Int×Int×Int×D5×(List D1)×bB×Int×bB×bB×(List tf)×bB×bB×bB×Int×Unit)×Unit):Option (Unit×Unit×Int×Unit×Int×D4×(Int×Int×Int×Int×Int×Int×(List (List UInt8))×(List D1)×bB×Int×bB×bB×(List tf)×bB×bB×bB×Int×Unit)×(Int×Int×Int×Int×Int×Int×D5×(List D1)×bB×Int×bB×bB×(List tf)×bB×bB×bB×Int×Unit)×Unit):=nT (jp n) f105 ka 11 k v
def Av:NS:=⟨[(1,.fix (.v false [.ptr 0 0])),(2,.fix (.v false [.ptr 1 0])),(4,.fix (.v false [.ptr 24 0])),(63,.data Y6),(64,aZ),(65,aZ)],[(0,.obj mI),(1,.cells [.data ak,.data ak,.data ak,.data ak,.data ak,.data ak,.own .str,.own Y1,.own (.int .i8),.data ak,.own (.int .i8),.own (.int .i8),.own td,.own (.int .i8),.own (.int .i8),.own (.int .i8),.data ak]),(24,.cells [.data ak,.data ak,.data ak,.data ak,.data ak,.data ak,.own .str,.own Y1,.data Y8,.data ak,.data Y8,.data Y8,.own td,.data Y8,.data Y8,.data Y8,.data ak])],69⟩
def rC:LS:=⟨Av,[(.exit 0,⟨[(1,.fix (.v false [.ptr 0 0])),(2,.fix (.v false [.ptr 1 0])),(4,.fix (.v false [.ptr 24 0]))],[(0,.obj mI),(1,.cells [.data ak,.data ak,.data ak,.data ak,.data ak,.data ak,.own .str,.own Y1,.own (.int .i8),.data ak,.own (.int .i8),.own (.int .i8),.own td,.own (.int .i8),.own (.int .i8),.own (.int .i8),.data ak]),(24,.cells [.data ak,.data ak,.data ak,.data ak,.data ak,.data ak,.own .str,.own Y1,.data Y8,.data ak,.data Y8,.data Y8,.own td,.data Y8,.data Y8,.data Y8,.data ak])],69⟩)]⟩
def x2:NS:=⟨[(2,.fix (.v false [.ptr 1 0])),(4,.fix (.v false [.ptr 24 0])),(85,.data J8),(86,aZ),(87,aZ)],[(1,.cells [.data ak,.data ak,.data ak,.data ak,.data ak,.data ak,.own .str,.own Y1,.own (.int .i8),.data ak,.own (.int .i8),.own (.int .i8),.own td,.own (.int .i8),.own (.int .i8),.own (.int .i8),.data ak]),(24,.cells [.data ak,.data ak,.data ak,.data ak,.data ak,.data ak,.own .str,.own Y1,.data Y8,.data ak,.data Y8,.data Y8,.own td,.data Y8,.data Y8,.data Y8,.data ak])],85⟩
def pg:LS:=⟨x2,[(.exit 2,⟨[(2,.fix (.v false [.ptr 1 0])),(4,.fix (.v false [.ptr 24 0]))],[(1,.cells [.data ak,.data ak,.data ak,.data ak,.data ak,.data ak,.own .str,.own Y1,.own (.int .i8),.data ak,.own (.int .i8),.own (.int .i8),.own td,.own (.int .i8),.own (.int .i8),.own (.int .i8),.data ak]),(24,.cells [.data ak,.data ak,.data ak,.data ak,.data ak,.data ak,.own .str,.own Y1,.data Y8,.data ak,.data Y8,.data Y8,.own td,.data Y8,.data Y8,.data Y8,.data ak])],85⟩)]⟩
def lv:Cx:=aW [(69,tF n)] [] [] [(6,rC),(11,pg)] [] 151 n
def jq(x:D4×BW):Option (D4×BW):=au (lv n) f42 [mI] [mI] x
def wV:Entry:=⟨[mI],[mI],jq n⟩
def lw(k:Nat)(v:Unit×Unit×Unit×(List D1)×Int×Int×(D4×BW)×(Int×Int×Int×Int×Int×Int×(List (List UInt8))×(List D1)×bB×Int×bB×bB×(List tf)×bB×bB×bB×Int×Unit)×(Int×Int×Int×Int×Int×Int×(List (List UInt8))×(List D1)×bB×Int×bB×bB×(List tf)×bB×bB×bB×Int×Unit)×Unit):Option (Unit×Unit×Unit×(D4×BW)×(Int×Int×Int×Int×Int×Int×(List (List UInt8))×(List D1)×bB×Int×bB×bB×(List tf)×bB×bB×bB×Int×Unit)×(Int×Int×Int×Int×Int×Int×(List (List UInt8))×(List D1)×bB×Int×bB×bB×(List tf)×bB×bB×bB×Int×Unit)×Unit):=nT (lv n) f42 rC 6 k v
def ky(k:Nat)(v:Unit×Unit×(List tf)×Int×Int×(Int×Int×Int×Int×Int×Int×(List (List UInt8))×(List D1)×bB×Int×bB×bB×(List tf)×bB×bB×bB×Int×Unit)×(Int×Int×Int×Int×Int×Int×(List (List UInt8))×(List D1)×bB×Int×bB×bB×(List tf)×bB×bB×bB×Int×Unit)×Unit):Option (Unit×Unit×(Int×Int×Int×Int×Int×Int×(List (List UInt8))×(List D1)×bB×Int×bB×bB×(List tf)×bB×bB×bB×Int×Unit)×(Int×Int×Int×Int×Int×Int×(List (List UInt8))×(List D1)×bB×Int×bB×bB×(List tf)×bB×bB×bB×Int×Unit)×Unit):=nT (lv n) f42 pg 11 k v
def ph:Cx:=aW [(105,na n),(42,wV n)] [] [] [] [] 10 n
def fG(x:Unit):Option (D4×BW):=au (ph n) f70 [] [mI] x
def pi:Entry:=⟨[],[mI],fG n⟩
end
noncomputable section
variable (n:Nat)
def kc:Cx:={ tt:=tt,calls:=[],owns:=[],nc:=4,loops:=[],bu:=[],nt:=9,fuel:=n }
def rD(x:(Option Nat))(h:Unit)(o:H3×Unit):Option (Int×Unit):=aO (kc n) f87 [(.gp 3 0)] [(.data ak)] [] [(3,G3)] x h o
def gy:bl:=⟨[(.gp 3 0)],[(.data ak)],[],[(3,G3)],rD n⟩
def kS:Cx:={ tt:=tt,calls:=[],owns:=[],nc:=4,loops:=[],bu:=[],nt:=9,fuel:=n }
def sH(x:(Option Nat))(h:Unit)(o:H3×Unit):Option (Int×Unit):=aO (kS n) f88 [(.gp 3 0)] [(.data ak)] [] [(3,G3)] x h o
def g4:bl:=⟨[(.gp 3 0)],[(.data ak)],[],[(3,G3)],sH n⟩
def x4(n:Nat)(x:D4×BW):Option (D4×BW):=zT x
def pj:Entry:=⟨[mI],[mI],x4 n⟩
def lT:Cx:={ tt:=tt,calls:=[],owns:=[],la:=[(239,(.gp 7 0)),(241,U7)],E3:=[(241,7)],nc:=8,loops:=[],bu:=[],nt:=25,fuel:=n }
def uA(x:(Option Nat))(h:H3×H4×H5×Unit)(o:Unit):Option (Int×H3×H4×H5×Unit):=aO (lT n) f90 [(.gp 3 0)] [(.data ak)] [(3,G3),(6,G4),(7,G5)] [] x h o
def lU:bl:=⟨[(.gp 3 0)],[(.data ak)],[(3,G3),(6,G4),(7,G5)],[],uA n⟩
def tI:Cx:={ tt:=tt,calls:=[(61,oN n),(89,pj n),(62,mN n)],owns:=[],stats:=[(87,gy n),(88,g4 n),(90,lU n)],la:=[(182,Ns)],E3:=[(182,9)],nc:=10,loops:=[],bu:=[],nt:=41,fuel:=n }
def kd(x:(D4×BW)×(Option Nat))(h:H3×H4×H5×H6×Unit)(o:Unit):Option (((Option Nat)×Int)×H3×H4×H5×H6×Unit):=aO (tI n) f38 [(.data mI),(.gp 3 0)] [(.gp 9 0),(.data ak)] [(3,G3),(6,G4),(7,G5),(9,G6)] [] x h o
def tJ:bl:=⟨[(.data mI),(.gp 3 0)],[(.gp 9 0),(.data ak)],[(3,G3),(6,G4),(7,G5),(9,G6)],[],kd n⟩
def ii:Cx:={ tt:=tt,calls:=[],owns:=[],nc:=10,A6:=[(1,[(2,.bool)])],loops:=[],bu:=[],nt:=12,fuel:=n }
def bi(x:(Option Nat))(h:Unit)(o:H6×Unit):Option (Bool×Unit):=aO (ii n) f91 [(.gp 9 0)] [(.data .bool)] [] [(9,G6)] x h o
def b5:bl:=⟨[(.gp 9 0)],[(.data .bool)],[],[(9,G6)],bi n⟩
def nd:Cx:={ tt:=tt,calls:=[],owns:=[],la:=[(239,(.gp 7 0))],nc:=7,A6:=[(1,[(16,.bool)])],loops:=[],bu:=[],nt:=23,fuel:=n }
def wW(x:(Option Nat)×Int)(h:Unit)(o:H3×H4×Unit):Option (((Option Nat)×Int)×Unit):=aO (nd n) f147 [(.gp 3 0),(.data ak)] [(.gp 7 0),(.data ak)] [] [(3,G3),(6,G4)] x h o
def dB:bl:=⟨[(.gp 3 0),(.data ak)],[(.gp 7 0),(.data ak)],[],[(3,G3),(6,G4)],wW n⟩
def fH:Cx:={ tt:=tt,calls:=[],owns:=[],la:=[(329,U1)],nc:=2,A6:=[(1,[(4,.bool)])],loops:=[],bu:=[],nt:=30,fuel:=n }
def kA(x:(Option Nat)×Int)(h:Unit)(o:H0×H1×Unit):Option (Bool×Unit):=aO (fH n) f227 [(.gp 0 0),(.data ak)] [(.data .bool)] [] [(0,G0),(1,G1)] x h o
def dU:bl:=⟨[(.gp 0 0),(.data ak)],[(.data .bool)],[],[(0,G0),(1,G1)],kA n⟩
def fI:Cx:={ tt:=tt,calls:=[],owns:=[],stats:=[(227,dU n)],la:=[(329,U1)],nc:=2,loops:=[],bu:=[],nt:=20,fuel:=n }
def kB(x:(Option Nat)×Int)(h:Unit)(o:H0×H1×Unit):Option (((Option Nat)×Bool)×Unit):=aO (fI n) f202 [(.gp 0 0),(.data ak)] [(.gp 4 0),(.data .bool)] [] [(0,G0),(1,G1)] x h o
def dd:bl:=⟨[(.gp 0 0),(.data ak)],[(.gp 4 0),(.data .bool)],[],[(0,G0),(1,G1)],kB n⟩
def lV:Cx:={ tt:=tt,calls:=[],owns:=[],stats:=[(202,dd n)],la:=[(3,(.data ak))],nc:=9,loops:=[],bu:=[],nt:=28,fuel:=n }
def uB(x:(Option Nat)×(Option Nat))(h:Unit)(o:H0×H1×H3×H5×H2×Unit):Option ((Option Nat)×Unit):=aO (lV n) f152 [(.gp 3 0),(.gp 7 0)] [(.gp 4 0)] [] [(0,G0),(1,G1),(3,G3),(7,G5),(8,G2)] x h o
def fO:bl:=⟨[(.gp 3 0),(.gp 7 0)],[(.gp 4 0)],[],[(0,G0),(1,G1),(3,G3),(7,G5),(8,G2)],uB n⟩
def ke:Cx:={ tt:=tt,calls:=[],owns:=[],stats:=[(152,fO n)],nc:=9,loops:=[],bu:=[],nt:=24,fuel:=n }
def rE(x:(Option Nat)×(Option Nat))(h:Unit)(o:H0×H1×H3×H7×H5×H2×Unit):Option (Bool×Unit):=aO (ke n) f148 [(.gp 3 0),(.gp 7 0)] [(.data .bool)] [] [(0,G0),(1,G1),(3,G3),(4,G7),(7,G5),(8,G2)] x h o
def gz:bl:=⟨[(.gp 3 0),(.gp 7 0)],[(.data .bool)],[],[(0,G0),(1,G1),(3,G3),(4,G7),(7,G5),(8,G2)],rE n⟩
def fq:Cx:={ tt:=tt,calls:=[],owns:=[],nc:=1,loops:=[],bu:=[],nt:=10,fuel:=n }
def jM(x:(Option Nat))(h:Unit)(o:H0×Unit):Option (Int×Unit):=aO (fq n) f99 [(.gp 0 0)] [(.data ak)] [] [(0,G0)] x h o
def dE:bl:=⟨[(.gp 0 0)],[(.data ak)],[],[(0,G0)],jM n⟩
def lW:Cx:={ tt:=tt,calls:=[],owns:=[],stats:=[(99,dE n)],nc:=4,loops:=[],bu:=[],nt:=10,fuel:=n }
def eF(x:(Option Nat))(h:Unit)(o:H0×H3×Unit):Option (Int×Unit):=aO (lW n) f46 [(.gp 3 0)] [(.data ak)] [] [(0,G0),(3,G3)] x h o
def iG:bl:=⟨[(.gp 3 0)],[(.data ak)],[],[(0,G0),(3,G3)],eF n⟩
def lX:Cx:={ tt:=tt,calls:=[],owns:=[],stats:=[(147,dB n),(148,gz n),(46,iG n)],nc:=9,loops:=[],bu:=[],nt:=56,fuel:=n }
def iH(x:(Option Nat)×Int)(h:Unit)(o:H0×H1×H3×H7×H4×H5×H2×Unit):Option (Int×Unit):=aO (lX n) f92 [(.gp 3 0),(.data ak)] [(.data ak)] [] [(0,G0),(1,G1),(3,G3),(4,G7),(6,G4),(7,G5),(8,G2)] x h o
def iI:bl:=⟨[(.gp 3 0),(.data ak)],[(.data ak)],[],[(0,G0),(1,G1),(3,G3),(4,G7),(6,G4),(7,G5),(8,G2)],iH n⟩
def iS:Cx:={ tt:=tt,calls:=[(191,zd n),(192,tm n)],owns:=[],nc:=10,loops:=[],bu:=[],nt:=36,fuel:=n }
def oh(x:(Option Nat)×Int)(h:Unit)(o:H6×Unit):Option (bB×Unit):=aO (iS n) f136 [(.gp 9 0),(.data ak)] [(.data cP)] [] [(9,G6)] x h o
def iT:bl:=⟨[(.gp 9 0),(.data ak)],[(.data cP)],[],[(9,G6)],oh n⟩
def lY:Cx:={ tt:=tt,calls:=[],owns:=[],stats:=[(202,dd n)],la:=[(3,(.data ak)),(50,(.data (.int .i8)))],nc:=9,loops:=[],bu:=[],nt:=87,fuel:=n }
def uC(x:(Option Nat)×(Option Nat)×Int×Int)(h:Unit)(o:H0×H1×H3×H7×H8×H5×H2×Unit):Option (CV×Unit):=aO (lY n) f154 [(.gp 3 0),(.gp 7 0),(.data ak),(.data ak)] [(.data sg)] [] [(0,G0),(1,G1),(3,G3),(4,G7),(5,G8),(7,G5),(8,G2)] x h o
def lZ:bl:=⟨[(.gp 3 0),(.gp 7 0),(.data ak),(.data ak)],[(.data sg)],[],[(0,G0),(1,G1),(3,G3),(4,G7),(5,G8),(7,G5),(8,G2)],uC n⟩
end
noncomputable section
variable (n:Nat)
def rF:NS:=⟨[(0,.vt (.gp 3 0)),(2,aZ),(10,.vt (.gp 7 0)),(12,.vt (.gs 11)),(50,aZ),(51,aZ)],[(0,.gh false G0),(1,.gh false G1),(3,.gh false G3),(4,.gh false G7),(5,.gh false G8),(6,.gh false G4),(7,.gh false G5),(8,.gh false G2),(11,.gh true G9)],54⟩
def rG:LS:=⟨rF,[(.exit 1,⟨[(12,.vt (.gs 11))],[(0,.gh false G0),(1,.gh false G1),(3,.gh false G3),(4,.gh false G7),(5,.gh false G8),(6,.gh false G4),(7,.gh false G5),(8,.gh false G2),(11,.gh true G9)],54⟩)]⟩
def l4:Cx:={ tt:=tt,calls:=[],owns:=[],stats:=[(147,dB n),(154,lZ n)],la:=[(49,(.data sg))],E3:=[(29,11)],nc:=12,A6:=[(4,[(24,.bool)])],loops:=[(8,rG)],bu:=[],nt:=64,fuel:=n }
def uD(x:(Option Nat)×Int×Int×Int)(h:H9×Unit)(o:H0×H1×H3×H7×H8×H4×H5×H2×Unit):Option (((Option (Nat×Nat×Nat))×Int)×H9×Unit):=aO (l4 n) f149 [(.gp 3 0),(.data ak),(.data ak),(.data ak)] [(.gs 11),(.data ak)] [(11,G9)] [(0,G0),(1,G1),(3,G3),(4,G7),(5,G8),(6,G4),(7,G5),(8,G2)] x h o
def l5:bl:=⟨[(.gp 3 0),(.data ak),(.data ak),(.data ak)],[(.gs 11),(.data ak)],[(11,G9)],[(0,G0),(1,G1),(3,G3),(4,G7),(5,G8),(6,G4),(7,G5),(8,G2)],uD n⟩
def lx:NS:=⟨[(0,.vt (.gp 9 0)),(5,.vt (.gs 11)),(28,.vt (.gs 11)),(29,aZ),(30,aZ)],[(0,.gh false G0),(1,.gh false G1),(3,.gh false G3),(4,.gh false G7),(5,.gh false G8),(6,.gh false G4),(7,.gh false G5),(8,.gh false G2),(9,.gh false G6),(11,.gh true G9)],36⟩
def ly:LS:=⟨lx,[(.exit 0,⟨[(5,.vt (.gs 11))],[(0,.gh false G0),(1,.gh false G1),(3,.gh false G3),(4,.gh false G7),(5,.gh false G8),(6,.gh false G4),(7,.gh false G5),(8,.gh false G2),(9,.gh false G6),(11,.gh true G9)],36⟩)]⟩
def ij:Cx:={ tt:=tt,calls:=[],owns:=[],stats:=[(149,l5 n)],la:=[(49,(.data sg))],loc:=[(11,G9)],nc:=12,loops:=[(3,ly)],bu:=[],nt:=56,fuel:=n }
def ng(x:(Option Nat)×Int)(h:Unit)(o:H0×H1×H3×H7×H8×H4×H5×H2×H6×Unit):Option ((List CV)×Unit):=aO (ij n) f93 [(.gp 9 0),(.data ak)] [(.data pS)] [] [(0,G0),(1,G1),(3,G3),(4,G7),(5,G8),(6,G4),(7,G5),(8,G2),(9,G6)] x h o
def ik:bl:=⟨[(.gp 9 0),(.data ak)],[(.data pS)],[],[(0,G0),(1,G1),(3,G3),(4,G7),(5,G8),(6,G4),(7,G5),(8,G2),(9,G6)],ng n⟩
def dV:NS:=⟨[(0,.vt (.gp 9 0)),(2,.vt (.cl 93 [(9,0)] [])),(8,.own cP),(17,.data cP),(18,aZ),(19,aZ)],[(0,.gh false G0),(1,.gh false G1),(3,.gh false G3),(4,.gh false G7),(5,.gh false G8),(6,.gh false G4),(7,.gh false G5),(8,.gh false G2),(9,.gh false G6)],16⟩
def dW:LS:=⟨dV,[(.exit 0,⟨[(0,.vt (.gp 9 0)),(2,.vt (.cl 93 [(9,0)] [])),(8,.own cP)],[(0,.gh false G0),(1,.gh false G1),(3,.gh false G3),(4,.gh false G7),(5,.gh false G8),(6,.gh false G4),(7,.gh false G5),(8,.gh false G2),(9,.gh false G6)],16⟩)]⟩
def dX:NS:=⟨[(0,.vt (.gp 9 0)),(2,.vt (.cl 93 [(9,0)] [])),(8,.data qo),(11,.own pS),(34,.data J8),(35,aZ),(36,aZ)],[(0,.gh false G0),(1,.gh false G1),(3,.gh false G3),(4,.gh false G7),(5,.gh false G8),(6,.gh false G4),(7,.gh false G5),(8,.gh false G2),(9,.gh false G6)],25⟩
def dY:LS:=⟨dX,[(.exit 2,⟨[(8,.data qo),(11,.own pS)],[(0,.gh false G0),(1,.gh false G1),(3,.gh false G3),(4,.gh false G7),(5,.gh false G8),(6,.gh false G4),(7,.gh false G5),(8,.gh false G2),(9,.gh false G6)],25⟩)]⟩
def cH:Cx:={ tt:=tt,calls:=[(13,rf n)],owns:=[],stats:=[(136,iT n),(93,ik n)],nc:=10,loops:=[(3,dW),(9,dY)],bu:=[],nt:=63,fuel:=n }
def ef(x:(Option Nat)×bB×(Option (List Nat×List Nat)))(h:Unit)(o:H0×H1×H3×H7×H8×H4×H5×H2×H6×Unit):Option ((Is×Nq)×Unit):=aO (cH n) f82 [(.gp 9 0),(.data cP),(.cl 93 [(9,0)] [])] [(.data qo),(.data Gc)] [] [(0,G0),(1,G1),(3,G3),(4,G7),(5,G8),(6,G4),(7,G5),(8,G2),(9,G6)] x h o
def cI:bl:=⟨[(.gp 9 0),(.data cP),(.cl 93 [(9,0)] [])],[(.data qo),(.data Gc)],[],[(0,G0),(1,G1),(3,G3),(4,G7),(5,G8),(6,G4),(7,G5),(8,G2),(9,G6)],ef n⟩
def gA:Cx:={ tt:=tt,calls:=[(84,jl n),(163,fW n),(168,ig n)],owns:=[],nc:=10,loops:=[],bu:=[],nt:=46,fuel:=n }
def lz(x:(Option Nat)×bB)(h:Unit)(o:H6×Unit):Option (bB×Unit):=aO (gA n) f125 [(.gp 9 0),(.data cP)] [(.data cP)] [] [(9,G6)] x h o
def gB:bl:=⟨[(.gp 9 0),(.data cP)],[(.data cP)],[],[(9,G6)],lz n⟩
def ej:NS:=⟨[(0,.vt (.gp 9 0)),(9,.data Gc),(10,.own cP),(20,.data qo),(21,aZ),(22,aZ)],[(0,.gh false G0),(1,.gh false G1),(3,.gh false G3),(4,.gh false G7),(5,.gh false G8),(6,.gh false G4),(7,.gh false G5),(8,.gh false G2),(9,.gh false G6)],25⟩
def ek:LS:=⟨ej,[(.exit 0,⟨[(9,.data Gc),(10,.own cP)],[(0,.gh false G0),(1,.gh false G1),(3,.gh false G3),(4,.gh false G7),(5,.gh false G8),(6,.gh false G4),(7,.gh false G5),(8,.gh false G2),(9,.gh false G6)],25⟩)]⟩
def cQ:Cx:={ tt:=tt,calls:=[],owns:=[],stats:=[(82,cI n),(125,gB n)],nc:=10,loops:=[(4,ek)],bu:=[],nt:=35,fuel:=n }
def cR(x:(Option Nat)×bB×(Option (List Nat×List Nat)))(h:Unit)(o:H0×H1×H3×H7×H8×H4×H5×H2×H6×Unit):Option ((Is×Nq)×Unit):=aO (cQ n) f64 [(.gp 9 0),(.data cP),(.cl 93 [(9,0)] [])] [(.data qo),(.data Gc)] [] [(0,G0),(1,G1),(3,G3),(4,G7),(5,G8),(6,G4),(7,G5),(8,G2),(9,G6)] x h o
def cS:bl:=⟨[(.gp 9 0),(.data cP),(.cl 93 [(9,0)] [])],[(.data qo),(.data Gc)],[],[(0,G0),(1,G1),(3,G3),(4,G7),(5,G8),(6,G4),(7,G5),(8,G2),(9,G6)],cR n⟩
def il:Cx:={ tt:=tt,calls:=[],owns:=[],stats:=[(88,g4 n)],nc:=10,loops:=[],bu:=[],nt:=16,fuel:=n }
def nh(x:(Option Nat)×bB)(h:Unit)(o:H3×H6×Unit):Option (bB×Unit):=aO (il n) f94 [(.gp 9 0),(.data Y8)] [(.data Y8)] [] [(3,G3),(9,G6)] x h o
def im:bl:=⟨[(.gp 9 0),(.data Y8)],[(.data Y8)],[],[(3,G3),(9,G6)],nh n⟩
def kf:Cx:={ tt:=tt,calls:=[],owns:=[],nc:=13,A6:=[(1,[(3,.bool)])],loops:=[],bu:=[],nt:=22,fuel:=n }
def rH(x:CV×(Option Nat))(h:Unit)(o:H3×Nw×Unit):Option (Bool×Unit):=aO (kf n) f200 [(.data sg),(.gp 12 0)] [(.data .bool)] [] [(3,G3),(12,Gr)] x h o
def kg:bl:=⟨[(.data sg),(.gp 12 0)],[(.data .bool)],[],[(3,G3),(12,Gr)],rH n⟩
def dO:NS:=⟨[(0,.data pS),(1,.vt (.cl 200 [] [(12,0)])),(7,aZ),(8,aZ)],[(3,.gh false G3),(12,.gh false Gr)],17⟩
def dP:LS:=⟨dO,[(.ret,⟨[(4,aZ)],[(3,.gh false G3),(12,.gh false Gr)],17⟩),(.exit 0,⟨[],[(3,.gh false G3),(12,.gh false Gr)],17⟩)]⟩
def cE:Cx:={ tt:=tt,calls:=[],owns:=[],stats:=[(200,kg n)],nc:=13,loops:=[(2,dP)],bu:=[],nt:=19,fuel:=n }
def eb(x:(List CV)×(Option (List Nat×List Nat)))(h:Unit)(o:H3×Nw×Unit):Option (Int×Unit):=aO (cE n) f226 [(.data pS),(.cl 200 [] [(12,0)])] [(.data ak)] [] [(3,G3),(12,Gr)] x h o
def cF:bl:=⟨[(.data pS),(.cl 200 [] [(12,0)])],[(.data ak)],[],[(3,G3),(12,Gr)],eb n⟩
def cy:Cx:={ tt:=tt,calls:=[],owns:=[],stats:=[(226,cF n)],nc:=13,loops:=[],bu:=[],nt:=9,fuel:=n }
def dF(x:(List CV)×(Option (List Nat×List Nat)))(h:Unit)(o:H3×Nw×Unit):Option (Bool×Unit):=aO (cy n) f199 [(.data pS),(.cl 200 [] [(12,0)])] [(.data .bool)] [] [(3,G3),(12,Gr)] x h o
def cz:bl:=⟨[(.data pS),(.cl 200 [] [(12,0)])],[(.data .bool)],[],[(3,G3),(12,Gr)],dF n⟩
def l6:Cx:={ tt:=tt,calls:=[],owns:=[],stats:=[(199,cz n)],la:=[(98,(.gp 3 0))],E3:=[(98,12)],loc:=[(12,Gr)],nc:=13,loops:=[],bu:=[],nt:=18,fuel:=n }
def uE(x:(Option Nat)×(List CV))(h:Unit)(o:H3×Unit):Option (Bool×Unit):=aO (l6 n) f150 [(.gp 3 0),(.data pS)] [(.data .bool)] [] [(3,G3)] x h o
def l7:bl:=⟨[(.gp 3 0),(.data pS)],[(.data .bool)],[],[(3,G3)],uE n⟩
def fr:Cx:={ tt:=tt,calls:=[],owns:=[],stats:=[(99,dE n)],la:=[(3,(.data ak)),(329,U1)],nc:=3,loops:=[],bu:=[],nt:=42,fuel:=n }
def jN(x:(Option Nat)×(Option Nat))(h:H0×H1×Unit)(o:H2×Unit):Option ((Int×Int)×H0×H1×Unit):=aO (fr n) f201 [(.gp 0 0),(.gp 4 0)] [(.data ak),(.data ak)] [(0,G0),(1,G1)] [(2,G2)] x h o
def ft:bl:=⟨[(.gp 0 0),(.gp 4 0)],[(.data ak),(.data ak)],[(0,G0),(1,G1)],[(2,G2)],jN n⟩
def oi:NS:=⟨[(0,.vt (.gp 3 0)),(1,.vt (.gp 7 0)),(5,Nz),(6,.vt (.gp 4 0))],[(0,.gh true G0),(1,.gh true G1),(2,.gh false G2),(3,.gh false G3),(4,.gh true G7),(5,.gh true G8),(7,.gh true G5),(8,.gh true G2)],48⟩
def oj:NS:=⟨[(1,.vt (.gp 7 0)),(7,aZ)],[(0,.gh true G0),(1,.gh true G1),(2,.gh false G2),(3,.gh false G3),(4,.gh true G7),(5,.gh true G8),(7,.gh true G5),(8,.gh true G2)],62⟩
def kT:Cx:={ tt:=tt,calls:=[],owns:=[],stats:=[(148,gz n),(152,fO n),(201,ft n)],la:=[(3,(.data ak)),(50,(.data (.int .i8))),(250,Nu)],E3:=[(22,5),(250,4)],nc:=9,A6:=[(2,[(25,.bool)])],loops:=[],bu:=[(44,oi),(67,oj)],nt:=101,fuel:=n }
def sI(x:(Option Nat)×(Option Nat))(h:H0×H1×H7×H8×H5×H2×Unit)(o:H2×H3×Unit):Option (Int×H0×H1×H7×H8×H5×H2×Unit):=aO (kT n) f151 [(.gp 3 0),(.gp 7 0)] [(.data ak)] [(0,G0),(1,G1),(4,G7),(5,G8),(7,G5),(8,G2)] [(2,G2),(3,G3)] x h o
def kU:bl:=⟨[(.gp 3 0),(.gp 7 0)],[(.data ak)],[(0,G0),(1,G1),(4,G7),(5,G8),(7,G5),(8,G2)],[(2,G2),(3,G3)],sI n⟩
def ni:NS:=⟨[(7,.vt (.gp 7 0)),(10,.vt (.gs 5)),(11,aZ),(61,.data pS),(62,aZ),(63,aZ)],[(0,.gh true G0),(1,.gh true G1),(2,.gh false G2),(3,.gh false G3),(4,.gh true G7),(5,.gh true G8),(6,.gh false G4),(7,.gh true G5),(8,.gh true G2)],63⟩
def nj:LS:=⟨ni,[(.exit 1,⟨[(7,.vt (.gp 7 0))],[(0,.gh true G0),(1,.gh true G1),(2,.gh false G2),(3,.gh false G3),(4,.gh true G7),(5,.gh true G8),(6,.gh false G4),(7,.gh true G5),(8,.gh true G2)],63⟩)]⟩
def kh:Cx:={ tt:=tt,calls:=[],owns:=[],stats:=[(147,dB n),(150,l7 n),(151,kU n),(152,fO n)],la:=[(50,(.data (.int .i8)))],nc:=9,loops:=[(12,nj)],bu:=[],nt:=91,fuel:=n }
def rI(x:(Option Nat)×Int×(List CV))(h:H0×H1×H7×H8×H5×H2×Unit)(o:H2×H3×H4×Unit):Option (Int×H0×H1×H7×H8×H5×H2×Unit):=aO (kh n) f95 [(.gp 3 0),(.data ak),(.data pS)] [(.data ak)] [(0,G0),(1,G1),(4,G7),(5,G8),(7,G5),(8,G2)] [(2,G2),(3,G3),(6,G4)] x h o
def ki:bl:=⟨[(.gp 3 0),(.data ak),(.data pS)],[(.data ak)],[(0,G0),(1,G1),(4,G7),(5,G8),(7,G5),(8,G2)],[(2,G2),(3,G3),(6,G4)],rI n⟩
def kC:NS:=⟨[(0,.vt (.gp 9 0)),(1,.data cP),(17,.data cP),(18,aZ),(19,aZ)],[(0,.gh true G0),(1,.gh true G1),(2,.gh false G2),(3,.gh false G3),(4,.gh true G7),(5,.gh true G8),(6,.gh false G4),(7,.gh true G5),(8,.gh true G2),(9,.gh true G6),(10,.gh true G2)],19⟩
def fJ:LS:=⟨kC,[(.ret,⟨[(4,.own cP),(5,aZ)],[(0,.gh true G0),(1,.gh true G1),(2,.gh false G2),(3,.gh false G3),(4,.gh true G7),(5,.gh true G8),(6,.gh false G4),(7,.gh true G5),(8,.gh true G2),(9,.gh true G6),(10,.gh true G2)],19⟩),(.exit 0,⟨[(0,.vt (.gp 9 0)),(1,.data cP)],[(0,.gh true G0),(1,.gh true G1),(2,.gh false G2),(3,.gh false G3),(4,.gh true G7),(5,.gh true G8),(6,.gh false G4),(7,.gh true G5),(8,.gh true G2),(9,.gh true G6),(10,.gh true G2)],19⟩)]⟩
def jO:NS:=⟨[(0,.vt (.gp 9 0)),(1,.data cP),(8,.data qo),(9,.data Gc),(71,aZ),(72,aZ)],[(0,.gh true G0),(1,.gh true G1),(2,.gh false G2),(3,.gh false G3),(4,.gh true G7),(5,.gh true G8),(6,.gh false G4),(7,.gh true G5),(8,.gh true G2),(9,.gh true G6),(10,.gh true G2)],64⟩
def fu:LS:=⟨jO,[(.exit 3,⟨[(0,.vt (.gp 9 0)),(1,.data cP),(8,.data qo)],[(0,.gh true G0),(1,.gh true G1),(2,.gh false G2),(3,.gh false G3),(4,.gh true G7),(5,.gh true G8),(6,.gh false G4),(7,.gh true G5),(8,.gh true G2),(9,.gh true G6),(10,.gh true G2)],64⟩)]⟩
def jP:NS:=⟨[(0,.vt (.gp 9 0)),(1,.data cP),(8,.data qo),(9,.data Gc),(10,aZ),(11,.fix (.v false [.vec 72])),(71,aZ),(72,aZ),(82,aZ),(83,aZ)],[(0,.gh true G0),(1,.gh true G1),(2,.gh false G2),(3,.gh false G3),(4,.gh true G7),(5,.gh true G8),(6,.gh false G4),(7,.gh true G5),(8,.gh true G2),(9,.gh true G6),(10,.gh true G2),(72,.row sg)],77⟩
def jQ:LS:=⟨jP,[(.exit 5,⟨[(0,.vt (.gp 9 0)),(1,.data cP),(8,.data qo),(9,.data Gc),(11,.fix (.v false [.vec 72])),(71,aZ),(72,aZ)],[(0,.gh true G0),(1,.gh true G1),(2,.gh false G2),(3,.gh false G3),(4,.gh true G7),(5,.gh true G8),(6,.gh false G4),(7,.gh true G5),(8,.gh true G2),(9,.gh true G6),(10,.gh true G2),(72,.row sg)],77⟩)]⟩
def jR:NS:=⟨[(0,.vt (.gp 9 0)),(1,.data cP),(8,.data qo),(9,.data Gc),(10,aZ),(11,.fix (.v false [.vec 72])),(12,aZ),(13,.fix (.v false [.ptr 80 0])),(71,aZ),(72,aZ),(82,aZ),(83,aZ)],[(0,.gh true G0),(1,.gh true G1),(2,.gh false G2),(3,.gh false G3),(4,.gh true G7),(5,.gh true G8),(6,.gh false G4),(7,.gh true G5),(8,.gh true G2),(9,.gh true G6),(10,.gh true G2),(72,.row sg),(80,.obj sg)],85⟩
def dp:Cx:={ tt:=tt,calls:=[(63,j9 n)],owns:=[],stats:=[(91,b5 n),(92,iI n),(64,cS n),(87,gy n),(94,im n),(95,ki n)],la:=[(3,(.data ak))],nc:=11,loops:=[(4,fJ),(15,fu),(19,jQ)],bu:=[(89,jR)],nt:=131,fuel:=n }
def cv(x:(Option Nat)×bB)(h:H0×H1×H7×H8×H5×H2×H6×H2×Unit)(o:H2×H3×H4×Unit):Option ((Is×Int)×H0×H1×H7×H8×H5×H2×H6×H2×Unit):=aO (dp n) f39 [(.gp 9 0),(.data cP)] [(.data qo),(.data ak)] [(0,G0),(1,G1),(4,G7),(5,G8),(7,G5),(8,G2),(9,G6),(10,G2)] [(2,G2),(3,G3),(6,G4)] x h o
def ew:bl:=⟨[(.gp 9 0),(.data cP)],[(.data qo),(.data ak)],[(0,G0),(1,G1),(4,G7),(5,G8),(7,G5),(8,G2),(9,G6),(10,G2)],[(2,G2),(3,G3),(6,G4)],cv n⟩
def kD(k:Nat)(v:(Option Nat)×bB×bB×Int×Int×H0×H1×H2×H3×H7×H8×H4×H5×H2×H6×H2×Unit):Option (((List bB)×Int×H0×H1×H2×H3×H7×H8×H4×H5×H2×H6×H2×Unit)⊕((Option Nat)×bB×H0×H1×H2×H3×H7×H8×H4×H5×H2×H6×H2×Unit)):=nT (dp n) f39 fJ 4 k v
def jS(k:Nat)(v:(Option Nat)×bB×Is×Nq×Int×Int×H0×H1×H2×H3×H7×H8×H4×H5×H2×H6×H2×Unit):Option ((Option Nat)×bB×Is×H0×H1×H2×H3×H7×H8×H4×H5×H2×H6×H2×Unit):=nT (dp n) f39 fu 15 k v
def gC:Cx:={ tt:=tt,calls:=[],owns:=[],stats:=[(91,b5 n)],nc:=10,loops:=[],bu:=[],nt:=11,fuel:=n }
def cw(x:(Option Nat))(h:Unit)(o:H6×Unit):Option (Int×Unit):=aO (gC n) f47 [(.gp 9 0)] [(.data ak)] [] [(9,G6)] x h o
def ey:bl:=⟨[(.gp 9 0)],[(.data ak)],[],[(9,G6)],cw n⟩
def pq:Cx:={ tt:=tt,calls:=[(70,pi n)],owns:=[],stats:=[(37,Co n),(38,tJ n),(39,ew n),(47,ey n)],loc:=[(0,G0),(1,G1),(2,G2),(3,G3),(4,G7),(5,G8),(6,G4),(7,G5),(8,G2),(9,G6),(10,G2)],nc:=11,A6:=[(2,[(16,.bool)]),(5,[(28,.bool)])],loops:=[],bu:=[],nt:=54,fuel:=n }
def eK(x:Unit):Option (Bool):=au (pq n) f23 [] [.bool] x
def pr:Entry:=⟨[],[.bool],eK n⟩
end
noncomputable section
variable (n:Nat)
def eR:Cx:=aW [] [] [] [] [] 8 n
def i4(x:Int×Int):Option (Int):=au (eR n) f229 [ak,ak] [ak] x
def eS:Entry:=⟨[ak,ak],[ak],i4 n⟩
def cU:NS:=⟨[(0,.vt (.gs 2)),(1,aZ),(2,.fix (.v false [.clos 229 []])),(8,aZ),(9,aZ),(10,aZ)],[(2,.gh false G2)],11⟩
def cV:LS:=⟨cU,[(.exit 0,⟨[(0,.vt (.gs 2)),(1,aZ),(2,.fix (.v false [.clos 229 []])),(8,aZ),(9,aZ)],[(2,.gh false G2)],11⟩)]⟩
def bW:Cx:={ tt:=tt,calls:=[(229,eS n)],owns:=[],la:=[(3,(.data ak))],nc:=3,A6:=[(8,[(6,ak),(7,.bool)])],lcs:=[(31,[(9,ak),(10,ak)],3)],loops:=[(3,cV)],bu:=[],nt:=49,fuel:=n }
def dg(x:(Option (Nat×Nat×Nat))×Int×Unit)(h:Unit)(o:H2×Unit):Option ((Int×Bool)×Unit):=aO (bW n) f228 [(.gs 2),(.data ak),(.data (.fn 229))] [(.data ak),(.data .bool)] [] [(2,G2)] x h o
def bY:bl:=⟨[(.gs 2),(.data ak),(.data (.fn 229))],[(.data ak),(.data .bool)],[],[(2,G2)],dg n⟩
def ol(n:Nat)(x:(Option (Nat×Nat×Nat))×Int×bB)(h:H2×Unit)(o:Unit):Option ((Option (Nat×Nat×Nat))×H2×Unit):=DY x h o
def iU:bl:=⟨[(.gs 2),(.data ak),(.data cP)],[(.gs 2)],[(2,G2)],[],ol n⟩
def fv:Cx:={ tt:=tt,calls:=[],owns:=[],stats:=[(227,dU n),(228,bY n),(230,iU n)],la:=[(329,U1)],nc:=3,loops:=[],bu:=[],nt:=51,fuel:=n }
def jT(x:(Option Nat)×Int)(h:H0×H1×H2×Unit)(o:Unit):Option (((Option Nat)×Int)×H0×H1×H2×Unit):=aO (fv n) f203 [(.gp 0 0),(.data ak)] [(.gp 4 0),(.data ak)] [(0,G0),(1,G1),(2,G2)] [] x h o
def fw:bl:=⟨[(.gp 0 0),(.data ak)],[(.gp 4 0),(.data ak)],[(0,G0),(1,G1),(2,G2)],[],jT n⟩
def sJ:NS:=⟨[(0,.vt (.gp 3 0)),(1,.vt (.gp 7 0)),(2,aZ),(6,aZ),(28,.vt (.gs 8)),(29,aZ),(30,aZ)],[(0,.gh true G0),(1,.gh true G1),(2,.gh true G2),(3,.gh false G3),(4,.gh true G7),(7,.gh true G5),(8,.gh false G2)],30⟩
def sK:LS:=⟨sJ,[(.exit 0,⟨[(1,.vt (.gp 7 0)),(2,aZ),(6,aZ)],[(0,.gh true G0),(1,.gh true G1),(2,.gh true G2),(3,.gh false G3),(4,.gh true G7),(7,.gh true G5),(8,.gh false G2)],30⟩)]⟩
def rJ:NS:=⟨[(0,.vt (.gp 3 0)),(1,.vt (.gp 7 0)),(2,aZ),(6,aZ),(28,.vt (.gs 8)),(29,aZ),(30,aZ)],[(0,.gh true G0),(1,.gh true G1),(2,.gh true G2),(3,.gh false G3),(4,.gh true G7),(7,.gh true G5),(8,.gh false G2)],58⟩
def nk:Cx:={ tt:=tt,calls:=[],owns:=[],stats:=[(202,dd n),(203,fw n)],la:=[(3,(.data ak))],nc:=9,loops:=[(2,sK)],bu:=[(54,rJ)],nt:=75,fuel:=n }
def wX(x:(Option Nat)×(Option Nat)×Int)(h:H0×H1×H2×H7×H5×Unit)(o:H3×H2×Unit):Option (Unit×H0×H1×H2×H7×H5×Unit):=aO (nk n) f153 [(.gp 3 0),(.gp 7 0),(.data ak)] [] [(0,G0),(1,G1),(2,G2),(4,G7),(7,G5)] [(3,G3),(8,G2)] x h o
def jr:bl:=⟨[(.gp 3 0),(.gp 7 0),(.data ak)],[],[(0,G0),(1,G1),(2,G2),(4,G7),(7,G5)],[(3,G3),(8,G2)],wX n⟩
end
noncomputable section
variable (n:Nat)
def iV:Cx:={ tt:=tt,calls:=[],owns:=[],stats:=[(147,dB n),(153,jr n)],nc:=9,A6:=[(4,[(19,.bool)])],loops:=[],bu:=[],nt:=34,fuel:=n }
def iW(x:(Option Nat)×Int×Int)(h:H0×H1×H2×H7×H5×Unit)(o:H3×H4×H2×Unit):Option (Int×H0×H1×H2×H7×H5×Unit):=aO (iV n) f96 [(.gp 3 0),(.data ak),(.data ak)] [(.data ak)] [(0,G0),(1,G1),(2,G2),(4,G7),(7,G5)] [(3,G3),(6,G4),(8,G2)] x h o
def iX:bl:=⟨[(.gp 3 0),(.data ak),(.data ak)],[(.data ak)],[(0,G0),(1,G1),(2,G2),(4,G7),(7,G5)],[(3,G3),(6,G4),(8,G2)],iW n⟩
def fK:Cx:={ tt:=tt,calls:=[],owns:=[],stats:=[(91,b5 n),(96,iX n)],la:=[(3,(.data ak))],nc:=11,A6:=[(3,[(9,.bool)])],loops:=[],bu:=[],nt:=40,fuel:=n }
def dZ(x:(Option Nat)×Int)(h:H0×H1×H2×H7×H5×H6×Unit)(o:H3×H4×H2×H2×Unit):Option (Int×H0×H1×H2×H7×H5×H6×Unit):=aO (fK n) f40 [(.gp 9 0),(.data ak)] [(.data ak)] [(0,G0),(1,G1),(2,G2),(4,G7),(7,G5),(9,G6)] [(3,G3),(6,G4),(8,G2),(10,G2)] x h o
def fL:bl:=⟨[(.gp 9 0),(.data ak)],[(.data ak)],[(0,G0),(1,G1),(2,G2),(4,G7),(7,G5),(9,G6)],[(3,G3),(6,G4),(8,G2),(10,G2)],dZ n⟩
def js:Cx:={ tt:=tt,calls:=[],owns:=[],stats:=[(147,dB n),(153,jr n)],la:=[(239,(.gp 7 0))],nc:=9,loops:=[],bu:=[],nt:=24,fuel:=n }
def jt(x:(Option Nat)×Int)(h:H0×H1×H2×H7×H4×H5×Unit)(o:H3×H2×Unit):Option (Int×H0×H1×H2×H7×H4×H5×Unit):=aO (js n) f100 [(.gp 3 0),(.data ak)] [(.data ak)] [(0,G0),(1,G1),(2,G2),(4,G7),(6,G4),(7,G5)] [(3,G3),(8,G2)] x h o
def ju:bl:=⟨[(.gp 3 0),(.data ak)],[(.data ak)],[(0,G0),(1,G1),(2,G2),(4,G7),(6,G4),(7,G5)],[(3,G3),(8,G2)],jt n⟩
def gU:Cx:={ tt:=tt,calls:=[],owns:=[],stats:=[(91,b5 n),(100,ju n)],nc:=10,loops:=[],bu:=[],nt:=21,fuel:=n }
def eM(x:(Option Nat))(h:H0×H1×H2×H7×H4×H5×H6×Unit)(o:H3×H2×Unit):Option (Int×H0×H1×H2×H7×H4×H5×H6×Unit):=aO (gU n) f48 [(.gp 9 0)] [(.data ak)] [(0,G0),(1,G1),(2,G2),(4,G7),(6,G4),(7,G5),(9,G6)] [(3,G3),(8,G2)] x h o
def gV:bl:=⟨[(.gp 9 0)],[(.data ak)],[(0,G0),(1,G1),(2,G2),(4,G7),(6,G4),(7,G5),(9,G6)],[(3,G3),(8,G2)],eM n⟩
def io:Cx:={ tt:=tt,calls:=[],owns:=[],stats:=[(91,b5 n),(92,iI n)],nc:=10,loops:=[],bu:=[],nt:=29,fuel:=n }
def fi(x:(Option Nat))(h:Unit)(o:H0×H1×H3×H7×H4×H5×H2×H6×Unit):Option (Int×Unit):=aO (io n) f51 [(.gp 9 0)] [(.data ak)] [] [(0,G0),(1,G1),(3,G3),(4,G7),(6,G4),(7,G5),(8,G2),(9,G6)] x h o
def ip:bl:=⟨[(.gp 9 0)],[(.data ak)],[],[(0,G0),(1,G1),(3,G3),(4,G7),(6,G4),(7,G5),(8,G2),(9,G6)],fi n⟩
def gD:Cx:={ tt:=tt,calls:=[],owns:=[(78,Ny)],stats:=[(91,b5 n)],nc:=11,loops:=[],bu:=[],nt:=11,fuel:=n }
def ez(x:(Option Nat))(h:Unit)(o:H6×H2×Unit):Option (bB×Unit):=aO (gD n) f41 [(.gp 9 0)] [(.data cP)] [] [(9,G6),(10,G2)] x h o
def gE:bl:=⟨[(.gp 9 0)],[(.data cP)],[],[(9,G6),(10,G2)],ez n⟩
def kj:Cx:={ tt:=tt,calls:=[],owns:=[(78,Ny)],stats:=[(147,dB n)],nc:=9,loops:=[],bu:=[],nt:=22,fuel:=n }
def rK(x:(Option Nat)×Int)(h:Unit)(o:H3×H4×H5×H2×Unit):Option ((bB×Int)×Unit):=aO (kj n) f156 [(.gp 3 0),(.data ak)] [(.data cP),(.data ak)] [] [(3,G3),(6,G4),(7,G5),(8,G2)] x h o
def kl:bl:=⟨[(.gp 3 0),(.data ak)],[(.data cP),(.data ak)],[],[(3,G3),(6,G4),(7,G5),(8,G2)],rK n⟩
def l8:Cx:={ tt:=tt,calls:=[],owns:=[],nc:=4,loops:=[],bu:=[],nt:=9,fuel:=n }
def uF(x:(Option Nat))(h:Unit)(o:H3×Unit):Option (Int×Unit):=aO (l8 n) f97 [(.gp 3 0)] [(.data ak)] [] [(3,G3)] x h o
def l9:bl:=⟨[(.gp 3 0)],[(.data ak)],[],[(3,G3)],uF n⟩
def gF:Cx:={ tt:=tt,calls:=[],owns:=[],stats:=[(156,kl n),(97,l9 n)],nc:=10,loops:=[],bu:=[],nt:=35,fuel:=n }
def dq(x:(Option Nat)×Int)(h:Unit)(o:H3×H4×H5×H2×H6×Unit):Option (Int×Unit):=aO (gF n) f104 [(.gp 9 0),(.data ak)] [(.data ak)] [] [(3,G3),(6,G4),(7,G5),(8,G2),(9,G6)] x h o
def gG:bl:=⟨[(.gp 9 0),(.data ak)],[(.data ak)],[],[(3,G3),(6,G4),(7,G5),(8,G2),(9,G6)],dq n⟩
def tK:Cx:={ tt:=tt,calls:=[],owns:=[],stats:=[(91,b5 n),(104,gG n),(46,iG n)],nc:=10,loops:=[],bu:=[],nt:=92,fuel:=n }
def nm(x:(Option Nat)×Int×(Option Nat)×Int)(h:Unit)(o:H0×H3×H4×H5×H2×H6×Unit):Option (Bool×Unit):=aO (tK n) f52 [(.gp 9 0),(.data ak),(.gp 9 0),(.data ak)] [(.data .bool)] [] [(0,G0),(3,G3),(6,G4),(7,G5),(8,G2),(9,G6)] x h o
def tL:bl:=⟨[(.gp 9 0),(.data ak),(.gp 9 0),(.data ak)],[(.data .bool)],[],[(0,G0),(3,G3),(6,G4),(7,G5),(8,G2),(9,G6)],nm n⟩
def kW:Cx:={ tt:=tt,calls:=[(23,pr n)],owns:=[],stats:=[(39,ew n),(40,fL n),(48,gV n),(47,ey n),(51,ip n),(41,gE n),(52,tL n)],loc:=[(0,G0),(1,G1),(2,G2),(3,G3),(4,G7),(5,G8),(6,G4),(7,G5),(8,G2),(9,G6),(10,G2)],nc:=11,loops:=[],bu:=[],nt:=59,fuel:=n }
def cZ(x:bB×Int):Option (Bool):=au (kW n) f11 [cP,ak] [.bool] x
def bT:Entry:=⟨[cP,ak],[.bool],cZ n⟩
end
end Go.Am
