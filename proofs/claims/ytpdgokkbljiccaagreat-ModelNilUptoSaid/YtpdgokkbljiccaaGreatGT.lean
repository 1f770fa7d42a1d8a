import Derived.Test.YtpdgokkbljiccaaGreatA1
import Derived.Test.YtpdgokkbljiccaaGreatA4
import Derived.Test.YtpdgokkbljiccaaGreatProg
set_option linter.unusedVariables false
set_option linter.unusedSimpArgs false
open Go.IntKind renaming wrap→aB
open List renaming length→aa
namespace Go.Am
open Go
def upto{α:Type}(f:Nat→α)(k:Nat):List α:=(List.range k).map f
def zS(len sz:Nat):Nat:=(len+sz -1)/sz
def chunks{α:Type}(k:Nat)(l:List α):List (List α):=upto (fun j=>(l.drop (j*k)).take k) (zS l.length k)
def we(c:List Int×Int→Option Int)(Fd:List Int×List Int→Option Int)(x:List Int×Int×List Int):Option (List Int×Int):=
 (c (x.1,x.2.1)).bind fun e=>
  eN (!(e==0)) (some ([],e))
   (eN (!(((aa x.2.2:Nat):Int)==x.2.1)) (some ([],80))
    (eN (decide (1≤x.2.1)&&decide (x.2.1≤1000000000000)&&decide (x.1.length≤1000000000)) ((hI (fun b=>Fd (b,x.2.2)) (chunks x.2.1.toNat x.1)).bind fun a=>some (a,0)) none))
def Gb(s x:Int):Int:=aB .i64 (s+imax (aB .i64 x) (aB .i64 (0 -aB .i64 x)))
def mH(row:List Int):Int:=row.foldl Gb 0
def wg(a:List Int×Int→Option Int)(x:List Int×Int):Option (List Int×Int):=
 (a (x.1,x.2)).bind fun e=>
  eN (!(e==0)) (some ([],e))
   (eN (decide (1≤x.2)&&decide (x.2≤1000000000000)&&decide (x.1.length≤1000000000)) (some ((chunks x.2.toNat x.1).map mH,0)) none)
def iO(l:List Int):Bool:=decide (l.length≤1000000000)
def zT(x:(Int×Int×Int×Int×Int×Int)×(List (List UInt8)×List (Int×Int×Int))×List Int×Int×List Int×List Int×
  List (List Int×List Int×List Int×List Int×List Int×List Int×Int×Int×Int×Int×Int×List Int×List Int×List Int×Int×Int×Int)×List Int×List Int×List Int×Int):
  Option ((Int×Int×Int×Int×Int×Int)×(List (List UInt8)×List (Int×Int×Int))×List Int×Int×List Int×List Int×
  List (List Int×List Int×List Int×List Int×List Int×List Int×Int×Int×Int×Int×Int×List Int×List Int×List Int×Int×Int×Int)×List Int×List Int×List Int×Int):=
 eN (decide (x.2.1.1.length≤1000000000)&&decide (x.2.1.2.length≤1000000000)&&iO x.2.2.1&&iO x.2.2.2.2.1&&iO x.2.2.2.2.2.1&&decide (1≤x.2.2.2.2.2.2.1.length)&&decide (x.2.2.2.2.2.2.1.length≤1000000)&&iO x.2.2.2.2.2.2.2.1&&iO x.2.2.2.2.2.2.2.2.1&&iO x.2.2.2.2.2.2.2.2.2.1&&
  x.2.2.2.2.2.2.1.all fun b=>iO b.1&&iO b.2.1&&iO b.2.2.1&&iO b.2.2.2.1&&iO b.2.2.2.2.1&&iO b.2.2.2.2.2.1&&iO b.2.2.2.2.2.2.2.2.2.2.2.1&&iO b.2.2.2.2.2.2.2.2.2.2.2.2.1&&iO b.2.2.2.2.2.2.2.2.2.2.2.2.2.1)
  (some x) none
def DY(x:Option (Nat×Nat×Nat)×Int×List Int)(h:List (Option (List Int))×Unit)(_:Unit):Option (Option (Nat×Nat×Nat)×List (Option (List Int))×Unit):=none
theorem yZ{α β:Type}(f:α→Option β):∀(l:List α) (x:α) (c:List β) (y:β),hI f l=some c→f x=some y→hI f (l++[x])=some (c++[y])
 |[],x,c,y,h,g=>by cases h;simp[hI,g]
 |a::l,x,c,y,h,g=>by
  simp only[hI]at h
  split at h
  ·rename_i b j
   split at h
   ·rename_i i d
    cases h;have:=yZ f l x i y d g;simp[hI,j,this]
   ·cases h
  ·cases h
theorem BU{α β:Type}(f:α→Option β):∀(l:List α) (c:List β),hI f l=some c→∀x∈l,∃y,f x=some y
 |[],c,h,x,d=>by cases d
 |a::l,c,h,x,d=>by
  simp only[hI]at h
  split at h
  ·rename_i b j
   split at h
   ·rename_i i g;rcases List.mem_cons.1 d with rfl |d
    ·exact⟨b,j⟩
    ·exact BU f l i g x d
   ·cases h
  ·cases h
theorem BV{α β:Type}(f:α→Option β):∀(l:List α) (b:List β),hI f l=some b→b.length=l.length
 |[],b,h=>by cases h;rfl
 |a::l,b,h=>by
  simp only[hI]at h
  split at h
  ·split at h
   ·rename_i d c
    cases h;simp[BV f l d c]
   ·cases h
  ·cases h
open Go Go.Proofs
set_option maxRecDepth 100000
abbrev Y0:Ty:=.pair (.int .i64) (.int .i64)
abbrev Y1:Ty:=.pair (.int .i64) Y0
abbrev D1:Type:=Int×Int×Int
abbrev Y2:Ty:=.pair (.int .i64) Y1
abbrev Y3:Ty:=.pair (.int .i64) Y2
abbrev Y4:Ty:=.pair (.int .i64) Y3
abbrev D4:Type:=Int×Int×Int×D1
abbrev Y5:Ty:=.sl .str
abbrev D5:Type:=List (List UInt8)
abbrev Y6:Ty:=.sl Y1
abbrev Y7:Ty:=.pair Y5 Y6
abbrev Y8:Ty:=.sl (.int .i8)
abbrev Y9:Ty:=.pair Y8 Y1
abbrev D9:Type:=(List Int)×D1
abbrev Qs:Ty:=.pair Y8 Y9
abbrev Qt:Type:=(List Int)×D9
abbrev KL:Ty:=.pair Y8 Qs
abbrev OV:Type:=(List Int)×Qt
abbrev Qu:Ty:=.pair (.int .i64) KL
abbrev Qv:Ty:=.pair (.int .i64) Qu
abbrev Qw:Type:=Int×Int×OV
abbrev Qx:Ty:=.pair (.int .i64) Qv
abbrev Qy:Ty:=.pair (.int .i64) Qx
abbrev Qz:Type:=Int×Int×Qw
abbrev QA:Ty:=.pair (.int .i64) Qy
abbrev QB:Ty:=.pair Y8 QA
abbrev QC:Type:=(List Int)×Int×Qz
abbrev QD:Ty:=.pair Y8 QB
abbrev QE:Type:=(List Int)×QC
abbrev QF:Ty:=.pair Y8 QD
abbrev QG:Type:=(List Int)×QE
abbrev QH:Ty:=.pair Y8 QF
abbrev QI:Type:=(List Int)×QG
abbrev QJ:Ty:=.pair Y8 QH
abbrev QK:Type:=(List Int)×QI
abbrev td:Ty:=.pair Y8 QJ
abbrev tf:Type:=(List Int)×QK
abbrev J8:Ty:=.sl td
abbrev QL:Ty:=.pair Y8 (.int .i64)
abbrev QM:Type:=(List Int)×Int
abbrev QN:Ty:=.pair Y8 QL
abbrev QO:Type:=(List Int)×QM
abbrev QP:Ty:=.pair Y8 QN
abbrev QQ:Type:=(List Int)×QO
abbrev QR:Ty:=.pair J8 QP
abbrev QS:Type:=(List tf)×QQ
abbrev QT:Ty:=.pair Y8 QR
abbrev QU:Type:=(List Int)×QS
abbrev QV:Ty:=.pair Y8 QT
abbrev QW:Type:=(List Int)×QU
abbrev QX:Ty:=.pair (.int .i64) QV
abbrev QY:Ty:=.pair Y8 QX
abbrev QZ:Type:=(List Int)×Int×QW
abbrev Q0:Ty:=.pair Y7 QY
abbrev BW:Type:=(D5×(List D1))×QZ
abbrev mI:Ty:=.pair Y4 Q0
abbrev mJ:Ty:=.sl Y8
abbrev Hi:Type:=List (List Int)
abbrev cP:Ty:=.sl (.int .i64)
abbrev sg:Ty:=.pair Y8 Y8
abbrev CV:Type:=(List Int)×(List Int)
abbrev Q1:Ty:=.pair Y8 sg
abbrev J9:Type:=(List Int)×CV
abbrev DZ:Ty:=.pair (.int .i64) Q1
abbrev KM:Ty:=.pair mI DZ
abbrev Np:Type:=(D4×BW)×Int×J9
abbrev OW:Ty:=.ref KM
abbrev pS:Ty:=.sl sg
abbrev qo:Ty:=.sl cP
abbrev Is:Type:=List (List Int)
abbrev Mq:Ty:=.ref (.int .i64)
abbrev Gc:Ty:=.sl pS
abbrev Nq:Type:=List (List CV)
abbrev Q2:Ty:=.sl qo
abbrev U0:VT:=.pair (.gs 1) (.gs 2)
abbrev Q3:Type:=(Option (Nat×Nat×Nat))×(Option (Nat×Nat×Nat))
abbrev G0:GK:=.st U0
abbrev H0:Type:=List (Option Q3)
abbrev U1:VT:=.pair (.data .bool) (.gp 4 0)
abbrev Q4:Type:=Bool×(Option Nat)
abbrev G1:GK:=.bf U1
abbrev H1:Type:=List (Option (List Q4))
abbrev G2:GK:=.bf (.data (.int .i64))
abbrev H2:Type:=List (Option (List Int))
abbrev U2:VT:=.pair (.gm 6) (.data (.int .i64))
abbrev Q5:Type:=(Option Nat)×Int
abbrev U3:VT:=.pair (.gp 0 0) U2
abbrev Q6:Type:=(Option Nat)×Q5
abbrev U4:VT:=.pair (.data (.int .i64)) U3
abbrev Q7:Type:=Int×Q6
abbrev U5:VT:=.pair (.data (.int .i64)) U4
abbrev Q8:Type:=Int×Q7
abbrev U6:VT:=.pair (.data (.int .i64)) U5
abbrev Q9:Type:=Int×Q8
abbrev G3:GK:=.st U6
abbrev H3:Type:=List (Option Q9)
abbrev G4:GK:=.mp (.int .i64) (.gp 7 0)
abbrev H4:Type:=List (Option (List (Int×(Option Nat))))
abbrev U7:VT:=.pair (.data (.int .i64)) (.gs 8)
abbrev Ra:Type:=Int×(Option (Nat×Nat×Nat))
abbrev G5:GK:=.st U7
abbrev H5:Type:=List (Option Ra)
abbrev U8:VT:=.pair (.gs 10) (.data .bool)
abbrev Rb:Type:=(Option (Nat×Nat×Nat))×Bool
abbrev U9:VT:=.pair (.data (.int .i64)) U8
abbrev Rc:Type:=Int×Rb
abbrev Rd:VT:=.pair (.gp 3 0) U9
abbrev Nr:Type:=(Option Nat)×Rc
abbrev Ns:VT:=.pair (.data KM) Rd
abbrev Nt:Type:=Np×Nr
abbrev G6:GK:=.st Ns
abbrev H6:Type:=List (Option Nt)
abbrev Nu:VT:=.pair (.gs 5) (.data (.int .i64))
abbrev Nv:Type:=(Option (Nat×Nat×Nat))×Int
abbrev G7:GK:=.st Nu
abbrev H7:Type:=List (Option Nv)
abbrev G8:GK:=.bf (.data (.int .i8))
abbrev H8:Type:=List (Option (List Int))
abbrev G9:GK:=.bf (.data sg)
abbrev H9:Type:=List (Option (List CV))
abbrev Gr:GK:=.st (.gp 3 0)
abbrev Nw:Type:=List (Option (Option Nat))
abbrev Re:Ty:=.pair cP .bool
abbrev Rf:Ty:=.pair mI Re
abbrev Rg:Ty:=.pair (.int .i64) cP
abbrev Rh:Ty:=.pair (.int .i64) Rg
abbrev OX:Ty:=.pair .bool Rh
abbrev Ri:Ty:=.sl OX
abbrev Rj:Ty:=.pair mI mI
abbrev Rk:Ty:=.sl (.int .u8)
def T2:TD:=⟨.int .i64,1,8,false,some (.int .i64),true,[]⟩
def T3:TD:=⟨.int .i64,1,8,false,some (.int .i64),true,[]⟩
def T4:TD:=⟨.bool,1,1,false,some .bool,true,[]⟩
def T5:TD:=⟨.int .u8,1,1,false,some (.int .u8),true,[]⟩
def T9:TD:=⟨.str,1,16,false,some .str,true,[]⟩
def OY:TD:=⟨.slice 50,1,24,false,some Y8,true,[]⟩
def OZ:TD:=⟨.struct [(22,0),(22,1),(22,2),(3,3),(3,4),(3,5)],6,96,true,some KL,true,[]⟩
def O0:TD:=⟨.struct [(22,0),(22,1),(22,2),(22,3),(22,4),(22,5),(3,6),(3,7),(3,8),(3,9),(3,10),(24,11)],17,280,true,some td,true,[]⟩
def O1:TD:=⟨.struct [(3,0),(22,1),(22,2),(22,3)],4,80,true,some DZ,true,[]⟩
def O2:TD:=⟨.slice 49,1,24,false,some pS,true,[]⟩
def O3:TD:=⟨.slice 47,1,24,false,some qo,true,[]⟩
def O4:TD:=⟨.int .i64,1,8,false,some (.int .i64),true,[]⟩
def O5:TD:=⟨.slice 137,1,24,false,some pS,true,[]⟩
def O6:TD:=⟨.struct [(22,0),(22,1),(22,2),(3,3),(3,4),(3,5)],6,96,true,some KL,true,[]⟩
def O7:TD:=⟨.struct [(22,0),(22,1),(22,2),(22,3),(22,4),(22,5),(3,6),(3,7),(3,8),(3,9),(3,10),(40,11)],17,280,true,some td,true,[]⟩
def O8:TD:=⟨.struct [(3,0),(22,1),(22,2),(22,3)],4,80,true,some DZ,true,[]⟩
def O9:TD:=⟨.slice 2,1,24,false,some cP,true,[]⟩
def Pa:TD:=⟨.struct [(22,0),(22,1)],2,48,true,some sg,true,[]⟩
def Pb:TD:=⟨.int .i8,1,1,false,some (.int .i8),true,[]⟩
def Pc:TD:=⟨.struct [(3,0),(3,1),(3,2),(3,3),(3,4),(3,5)],6,48,true,some Y4,true,[]⟩
def Pf:TD:=⟨.slice 9,1,24,false,some Y5,true,[]⟩
def Pg:TD:=⟨.slice 160,1,24,false,some Y6,true,[]⟩
def Ph:TD:=⟨.struct [(56,0),(57,1)],2,48,true,some Y7,true,[]⟩
def Pj:TD:=⟨.slice 26,1,24,false,some J8,true,[]⟩
def Pk:TD:=⟨.struct [(55,0),(59,6),(22,8),(3,9),(22,10),(22,11),(60,12),(22,13),(22,14),(22,15),(3,16)],17,280,true,some mI,true,[]⟩
def Pl:TD:=⟨.slice 3,1,24,false,some cP,true,[]⟩
def Pm:TD:=⟨.struct [(3,0),(3,1),(3,2),(3,3),(3,4),(3,5)],6,48,true,some Y4,true,[]⟩
def Pn:TD:=⟨.slice 161,1,24,false,some Y6,true,[]⟩
def Po:TD:=⟨.struct [(56,0),(69,1)],2,48,true,some Y7,true,[]⟩
def Pp:TD:=⟨.slice 42,1,24,false,some J8,true,[]⟩
def Pq:TD:=⟨.struct [(68,0),(71,6),(22,8),(3,9),(22,10),(22,11),(72,12),(22,13),(22,14),(22,15),(3,16)],17,280,true,some mI,true,[]⟩
def Pr:TD:=⟨.slice 32,1,24,false,some Q2,true,[]⟩
def Ps:TD:=⟨.slice 63,1,24,false,some qo,true,[]⟩
def Pt:TD:=⟨.ptr 179,1,8,false,none,false,[]⟩
def KN:TD:=⟨.ptr 182,1,8,false,none,false,[]⟩
def KO:TD:=⟨.struct [(3,0),(3,1),(3,2),(3,3)],4,32,true,some Y2,true,[]⟩
def KP:TD:=⟨.struct [(62,0),(62,17)],34,560,true,some Rj,true,[]⟩
def KQ:TD:=⟨.slice 124,1,24,false,some Ri,true,[]⟩
def KR:TD:=⟨.struct [(74,0),(63,17),(4,18)],19,312,true,some Rf,true,[]⟩
def KS:TD:=⟨.struct [(4,0),(3,1),(3,2),(63,3)],4,48,true,some OX,true,[]⟩
def KT:TD:=⟨.struct [(22,0),(22,1)],2,48,true,some sg,true,[]⟩
def KU:TD:=⟨.struct [(3,0),(3,1)],2,16,true,some Y0,true,[]⟩
def KV:TD:=⟨.struct [(62,0),(28,17)],21,360,true,some KM,true,[]⟩
def KW:TD:=⟨.slice 29,1,24,false,some Gc,true,[]⟩
def KX:TD:=⟨.struct [(3,0),(3,1),(3,2)],3,24,true,some Y1,true,[]⟩
def KY:TD:=⟨.struct [(3,0),(3,1),(3,2)],3,24,true,some Y1,true,[]⟩
def KZ:TD:=⟨.ptr 232,1,8,false,none,false,[]⟩
def K0:TD:=⟨.ptr 250,1,8,false,none,false,[]⟩
def K1:TD:=⟨.map 3 239,1,8,false,none,false,[]⟩
def K4:TD:=⟨.struct [(3,0),(3,1),(3,2),(173,3),(177,4),(3,5)],6,48,true,none,false,[]⟩
def K5:TD:=⟨.struct [(147,0),(98,21),(3,22),(63,23),(4,24)],25,408,true,none,false,[]⟩
def K6:TD:=⟨.slice 22,1,24,false,some mJ,true,[]⟩
def K7:TD:=⟨.int .u64,1,8,false,some (.int .u64),true,[]⟩
def K8:TD:=⟨.slice 329,1,24,false,none,false,[]⟩
def K9:TD:=⟨.struct [(230,0),(63,1)],2,48,true,none,false,[]⟩
def La:TD:=⟨.ptr 241,1,8,false,none,false,[]⟩
def Lb:TD:=⟨.struct [(3,0),(63,1)],2,32,true,none,false,[]⟩
def Lc:TD:=⟨.struct [(22,0),(3,1)],2,32,true,none,false,[]⟩
def Ld:TD:=⟨.int .u64,1,8,false,some (.int .u64),true,[]⟩
def Lf:TD:=⟨.slice 5,1,24,false,some Rk,true,[]⟩
def Lh:TD:=⟨.map 9 3,1,8,false,none,false,[]⟩
def Li:TD:=⟨.map 319 3,1,8,false,none,false,[]⟩
def Lj:TD:=⟨.array 2 3,2,16,true,some Y0,true,[]⟩
def Lk:TD:=⟨.struct [(4,0),(176,1)],2,16,true,none,false,[]⟩
def Ll:TD:=⟨.array 4 2,4,32,true,some Y2,true,[]⟩
def tt:List (TypeId×TD):=[(2,T2),(3,T3),(4,T4),(5,T5),(9,T9),(22,OY),(24,OZ),(26,O0),(28,O1),(29,O2),(32,O3),(34,O4),(37,O5),(40,O6),(42,O7),(44,O8),(47,O9),(49,Pa),(50,Pb),(55,Pc),(56,Pf),(57,Pg),(59,Ph),(60,Pj),(62,Pk),(63,Pl),(68,Pm),(69,Pn),(71,Po),(72,Pp),(74,Pq),(79,Pr),(81,Ps),(98,Pt),(101,KN),(111,KO),(119,KP),(120,KQ),(122,KR),(124,KS),(137,KT),(143,KU),(147,KV),(150,KW),(160,KX),(161,KY),(173,KZ),(176,K0),(177,K1),(179,K4),(182,K5),(216,K6),(220,K7),(230,K8),(232,K9),(239,La),(241,Lb),(250,Lc),(261,Ld),(301,Lf),(316,Lh),(318,Li),(319,Lj),(329,Lk),(349,Ll)]
theorem dm{P:Program}{t:TypeId}{d:TD}{τ:Ty}(h2:D6 d.desc=d.agg)(h4:Fg d=true)(h5:d.zero=true)(h6:d.ty=some τ)(h8:d.eq=[]∨yz P t d.eq=true)(h1:(P.underlying t).map jb=some d.desc:=by kernel_rfl)(h3:(P.info? t).map (fun i=>(i.size,i.bytes))=some (d.size,d.bytes):=by kernel_rfl)
 (h7:(P.info? t).map (fun i=>i.zero.map fun z=>(z.cells.toList,xp z))=some (some (τ.dJ,d.agg)):=by kernel_rfl):cn P t d:=cn.z h1 h2 h3 h4 h5 h6 h7 h8
theorem Lm:cn Tryz.prog 2 T2:=dm rfl rfl rfl rfl (.inl rfl)
theorem Ln:cn Tryz.prog 3 T3:=dm rfl rfl rfl rfl (.inl rfl)
theorem Lo:cn Tryz.prog 4 T4:=dm rfl rfl rfl rfl (.inl rfl)
theorem Lp:cn Tryz.prog 5 T5:=dm rfl rfl rfl rfl (.inl rfl)
theorem Lq:cn Tryz.prog 9 T9:=dm rfl rfl rfl rfl (.inl rfl)
theorem Jm:cn Tryz.prog 22 OY:=dm rfl rfl rfl rfl (.inl rfl)
theorem Jn:cn Tryz.prog 24 OZ:=dm rfl rfl rfl rfl (.inl rfl)
theorem Jo:cn Tryz.prog 26 O0:=dm rfl rfl rfl rfl (.inl rfl)
theorem Jp:cn Tryz.prog 28 O1:=dm rfl rfl rfl rfl (.inl rfl)
theorem Jq:cn Tryz.prog 29 O2:=dm rfl rfl rfl rfl (.inl rfl)
theorem Jr:cn Tryz.prog 32 O3:=dm rfl rfl rfl rfl (.inl rfl)
theorem Js:cn Tryz.prog 34 O4:=dm rfl rfl rfl rfl (.inl rfl)
theorem Jt:cn Tryz.prog 37 O5:=dm rfl rfl rfl rfl (.inl rfl)
theorem Ju:cn Tryz.prog 40 O6:=dm rfl rfl rfl rfl (.inl rfl)
theorem Jv:cn Tryz.prog 42 O7:=dm rfl rfl rfl rfl (.inl rfl)
theorem Jw:cn Tryz.prog 44 O8:=dm rfl rfl rfl rfl (.inl rfl)
theorem Jx:cn Tryz.prog 47 O9:=dm rfl rfl rfl rfl (.inl rfl)
theorem Jy:cn Tryz.prog 49 Pa:=dm rfl rfl rfl rfl (.inl rfl)
theorem Jz:cn Tryz.prog 50 Pb:=dm rfl rfl rfl rfl (.inl rfl)
theorem JA:cn Tryz.prog 55 Pc:=dm rfl rfl rfl rfl (.inl rfl)
theorem JB:cn Tryz.prog 56 Pf:=dm rfl rfl rfl rfl (.inl rfl)
theorem JC:cn Tryz.prog 57 Pg:=dm rfl rfl rfl rfl (.inl rfl)
theorem JD:cn Tryz.prog 59 Ph:=dm rfl rfl rfl rfl (.inl rfl)
theorem JE:cn Tryz.prog 60 Pj:=dm rfl rfl rfl rfl (.inl rfl)
theorem JF:cn Tryz.prog 62 Pk:=dm rfl rfl rfl rfl (.inl rfl)
theorem JG:cn Tryz.prog 63 Pl:=dm rfl rfl rfl rfl (.inl rfl)
theorem JH:cn Tryz.prog 68 Pm:=dm rfl rfl rfl rfl (.inl rfl)
theorem JI:cn Tryz.prog 69 Pn:=dm rfl rfl rfl rfl (.inl rfl)
theorem JJ:cn Tryz.prog 71 Po:=dm rfl rfl rfl rfl (.inl rfl)
theorem JK:cn Tryz.prog 72 Pp:=dm rfl rfl rfl rfl (.inl rfl)
theorem JL:cn Tryz.prog 74 Pq:=dm rfl rfl rfl rfl (.inl rfl)
theorem JM:cn Tryz.prog 79 Pr:=dm rfl rfl rfl rfl (.inl rfl)
theorem JN:cn Tryz.prog 81 Ps:=dm rfl rfl rfl rfl (.inl rfl)
theorem JO:cn Tryz.prog 98 Pt:=.n (by kernel_rfl) rfl (by kernel_rfl) rfl rfl (.inl rfl)
theorem Hj:cn Tryz.prog 101 KN:=.n (by kernel_rfl) rfl (by kernel_rfl) rfl rfl (.inl rfl)
theorem Hk:cn Tryz.prog 111 KO:=dm rfl rfl rfl rfl (.inl rfl)
theorem Hl:cn Tryz.prog 119 KP:=dm rfl rfl rfl rfl (.inl rfl)
theorem Hm:cn Tryz.prog 120 KQ:=dm rfl rfl rfl rfl (.inl rfl)
theorem Hn:cn Tryz.prog 122 KR:=dm rfl rfl rfl rfl (.inl rfl)
theorem Ho:cn Tryz.prog 124 KS:=dm rfl rfl rfl rfl (.inl rfl)
theorem Hp:cn Tryz.prog 137 KT:=dm rfl rfl rfl rfl (.inl rfl)
theorem Hq:cn Tryz.prog 143 KU:=dm rfl rfl rfl rfl (.inl rfl)
theorem Hr:cn Tryz.prog 147 KV:=dm rfl rfl rfl rfl (.inl rfl)
theorem Hs:cn Tryz.prog 150 KW:=dm rfl rfl rfl rfl (.inl rfl)
theorem Ht:cn Tryz.prog 160 KX:=dm rfl rfl rfl rfl (.inl rfl)
theorem Hu:cn Tryz.prog 161 KY:=dm rfl rfl rfl rfl (.inl rfl)
theorem Hv:cn Tryz.prog 173 KZ:=.n (by kernel_rfl) rfl (by kernel_rfl) rfl rfl (.inl rfl)
theorem Hw:cn Tryz.prog 176 K0:=.n (by kernel_rfl) rfl (by kernel_rfl) rfl rfl (.inl rfl)
theorem Hx:cn Tryz.prog 177 K1:=.n (by kernel_rfl) rfl (by kernel_rfl) rfl rfl (.inl rfl)
theorem Hy:cn Tryz.prog 179 K4:=.n (by kernel_rfl) rfl (by kernel_rfl) rfl rfl (.inl rfl)
theorem Hz:cn Tryz.prog 182 K5:=.n (by kernel_rfl) rfl (by kernel_rfl) rfl rfl (.inl rfl)
theorem HA:cn Tryz.prog 216 K6:=dm rfl rfl rfl rfl (.inl rfl)
theorem HB:cn Tryz.prog 220 K7:=dm rfl rfl rfl rfl (.inl rfl)
theorem HC:cn Tryz.prog 230 K8:=.n (by kernel_rfl) rfl (by kernel_rfl) rfl rfl (.inl rfl)
theorem HD:cn Tryz.prog 232 K9:=.n (by kernel_rfl) rfl (by kernel_rfl) rfl rfl (.inl rfl)
theorem HE:cn Tryz.prog 239 La:=.n (by kernel_rfl) rfl (by kernel_rfl) rfl rfl (.inl rfl)
theorem HF:cn Tryz.prog 241 Lb:=.n (by kernel_rfl) rfl (by kernel_rfl) rfl rfl (.inl rfl)
theorem HG:cn Tryz.prog 250 Lc:=.n (by kernel_rfl) rfl (by kernel_rfl) rfl rfl (.inl rfl)
theorem HH:cn Tryz.prog 261 Ld:=dm rfl rfl rfl rfl (.inl rfl)
theorem HI:cn Tryz.prog 301 Lf:=dm rfl rfl rfl rfl (.inl rfl)
theorem HJ:cn Tryz.prog 316 Lh:=.n (by kernel_rfl) rfl (by kernel_rfl) rfl rfl (.inl rfl)
theorem HK:cn Tryz.prog 318 Li:=.n (by kernel_rfl) rfl (by kernel_rfl) rfl rfl (.inl rfl)
theorem HL:cn Tryz.prog 319 Lj:=dm rfl rfl rfl rfl (.inl rfl)
theorem HN:cn Tryz.prog 329 Lk:=.n (by kernel_rfl) rfl (by kernel_rfl) rfl rfl (.inl rfl)
theorem HO:cn Tryz.prog 349 Ll:=dm rfl rfl rfl rfl (.inl rfl)
theorem cX:pR Tryz.prog tt:=tc Lm (tc Ln (tc Lo (tc Lp (tc Lq (tc Jm (tc Jn (tc Jo (tc Jp (tc Jq (tc Jr (tc Js (tc Jt (tc Ju (tc Jv (tc Jw (tc Jx (tc Jy (tc Jz (tc JA (tc JB (tc JC (tc JD (tc JE (tc JF (tc JG (tc JH (tc JI (tc JJ (tc JK (tc JL (tc JM (tc JN (tc JO (tc Hj (tc Hk (tc Hl (tc Hm (tc Hn (tc Ho (tc Hp (tc Hq (tc Hr (tc Hs (tc Ht (tc Hu (tc Hv (tc Hw (tc Hx (tc Hy (tc Hz (tc HA (tc HB (tc HC (tc HD (tc HE (tc HF (tc HG (tc HH (tc HI (tc HJ (tc HK (tc HL (tc HN (tc HO (t0)))))))))))))))))))))))))))))))))))))))))))))))))))))))))))))))))
theorem HP:r0 Tryz.prog 3 (.data (.int .i64)):=⟨rfl,rfl,by decide,by kernel_rfl⟩
theorem Lr:r0 Tryz.prog 232 U0:=⟨rfl,rfl,by decide,by kernel_rfl⟩
theorem BX:r0 Tryz.prog 329 U1:=⟨rfl,rfl,by decide,by kernel_rfl⟩
theorem Ls:r0 Tryz.prog 179 U6:=⟨rfl,rfl,by decide,by kernel_rfl⟩
theorem D0:r0 Tryz.prog 239 (.gp 7 0):=⟨rfl,rfl,by decide,by kernel_rfl⟩
theorem Lt:r0 Tryz.prog 241 U7:=⟨rfl,rfl,by decide,by kernel_rfl⟩
theorem Lu:r0 Tryz.prog 182 Ns:=⟨rfl,rfl,by decide,by kernel_rfl⟩
theorem JP:r0 Tryz.prog 50 (.data (.int .i8)):=⟨rfl,rfl,by decide,by kernel_rfl⟩
theorem Lv:r0 Tryz.prog 49 (.data sg):=⟨rfl,rfl,by decide,by kernel_rfl⟩
theorem Nx:r0 Tryz.prog 98 (.gp 3 0):=⟨rfl,rfl,by decide,by kernel_rfl⟩
theorem Lw:r0 Tryz.prog 250 Nu:=⟨rfl,rfl,by decide,by kernel_rfl⟩
theorem mixed:Tryz.prog.follows .mixedOrders=true:=by kernel_rfl
def Pv:jc:=⟨[.sl sg],sg,fun x=>app 48 [] x⟩
def Ny:jc:=⟨[.sl (.int .i64)],(.int .i64),fun x=>app 8 [] x⟩
def Lx:jc:=⟨[.sl (.int .i8)],(.int .i8),fun x=>app 1 [] x⟩
theorem JQ:gu Tryz.prog 55 Pv:=fa (X:={ tt:=tt,calls:=[],owns:=[],loops:=[],bu:=[],nt:=8,fuel:=0 }) (fn:=Tryz.f55) (e0:=sg) (eT:=sg) mixed ⟨cX,c0,o0,s0,v0⟩ Tryz.func55 (by kernel_rfl) (by kernel_rfl) (by kernel_rfl) (by decide) fun x l h=>by
 have hb:gd { tt:=tt,calls:=[],owns:=[],loops:=[],bu:=[],nt:=8,fuel:=0 } Tryz.f55 sg [.v false [.sl sg x .nn]]=(app 48 [] x).bind fun l=>some l:=by kernel_rfl
 refine⟨?_,fun hx=> ?_⟩
 ·rw[hb,h];rfl
 ·subst hx
  cases h
  kernel_rfl
theorem Gd:gu Tryz.prog 78 Ny:=fa (X:={ tt:=tt,calls:=[],owns:=[],loops:=[],bu:=[],nt:=8,fuel:=0 }) (fn:=Tryz.f78) (e0:=(.int .i64)) (eT:=(.int .i64)) mixed ⟨cX,c0,o0,s0,v0⟩ Tryz.func78 (by kernel_rfl) (by kernel_rfl) (by kernel_rfl) (by decide) fun x l h=>by
 have hb:gd { tt:=tt,calls:=[],owns:=[],loops:=[],bu:=[],nt:=8,fuel:=0 } Tryz.f78 (.int .i64) [.v false [.sl (.int .i64) x .nn]]=(app 8 [] x).bind fun l=>some l:=by kernel_rfl
 refine⟨?_,fun hx=> ?_⟩
 ·rw[hb,h];rfl
 ·subst hx
  cases h
  kernel_rfl
theorem D2:gu Tryz.prog 146 Lx:=fa (X:={ tt:=tt,calls:=[],owns:=[],loops:=[],bu:=[],nt:=8,fuel:=0 }) (fn:=Tryz.f146) (e0:=(.int .i8)) (eT:=(.int .i8)) mixed ⟨cX,c0,o0,s0,v0⟩ Tryz.func146 (by kernel_rfl) (by kernel_rfl) (by kernel_rfl) (by decide) fun x l h=>by
 have hb:gd { tt:=tt,calls:=[],owns:=[],loops:=[],bu:=[],nt:=8,fuel:=0 } Tryz.f146 (.int .i8) [.v false [.sl (.int .i8) x .nn]]=(app 1 [] x).bind fun l=>some l:=by kernel_rfl
 refine⟨?_,fun hx=> ?_⟩
 ·rw[hb,h];rfl
 ·subst hx
  cases h
  kernel_rfl
abbrev aW(calls:List (FuncId×Entry))(owns:List (FuncId×jc))(A6:List (Nat×List (Nat×Ty)))(loops:List (Nat×LS))(bu:List (Nat×NS))(nt fuel:Nat):Cx:={ tt:=tt,calls:=calls,owns:=owns,A6:=A6,loops:=loops,bu:=bu,nt:=nt,fuel:=fuel }
abbrev bB:Type:=List Int
abbrev ak:Ty:=.int .i64
abbrev aZ:SK:=.data ak
abbrev Rl:SK:=.data (.int .i8)
abbrev Nz:SK:=.data .bool
theorem bQ{f:FuncId}{fn:Func}{ps rs:List Ty}{X:Cx}(hc:∀f E,ba f X.calls=some E→aw Tryz.prog f E)(hf:Tryz.prog.funcs[f]? =some fn)(h1:X.tt=tt:=by kernel_rfl)(ho:X.owns=[]:=by kernel_rfl)(hs:X.stats=[]:=by kernel_rfl)(hv:X.la=[]:=by kernel_rfl)
  (hn:(fn.name== "runtime.NumGoroutine")=false:=by kernel_rfl) (hb:fn.body.isNone=false:=by kernel_rfl) (Nd:rs.all Ty.aX=true:=by kernel_rfl):aw Tryz.prog f ⟨ps,rs,au X fn ps rs⟩:=
 fb mixed ⟨by rw[h1];exact cX,hc,by rw[ho];exact o0,by rw[hs];exact s0,by rw[hv];exact v0⟩ hf hn hb Nd
end Go.Am
