import Derived.Test.YtllhngpojglipaaGreatDoorA1
import Derived.Test.YtllhngpojglipaaGreatDoorA9
import Derived.Test.YtllhngpojglipaaGreatDoorProg
set_option linter.unusedVariables false
set_option linter.unusedSimpArgs false
open Go.IntKind renaming wrap→ap
open List renaming length→ae
namespace Go.Am
open Go
def upto{α:Type}(f:Nat→α)(k:Nat):List α:=(List.range k).map f
def pcs(len sz:Nat):Nat:=(len+sz -1)/sz
def chunks{α:Type}(k:Nat)(l:List α):List (List α):=upto (fun j=>(l.drop (j*k)).take k) (pcs l.length k)
def PP(Fm:List Int×Int→Option Int)(Fd:List Int×List Int→Option Int)(x:List Int×Int×List Int):Option (List Int×Int):=
 (Fm (x.1,x.2.1)).bind fun e=>
  av (!(e==0)) (some ([],e))
   (av (!(((ae x.2.2:Nat):Int)==x.2.1)) (some ([],80))
    (av (decide (1≤x.2.1)&&decide (x.2.1≤1000000000000)&&decide (x.1.length≤1000000000)) ((vo (fun row=>Fd (row,x.2.2)) (chunks x.2.1.toNat x.1)).bind fun out=>some (out,0)) none))
def acR(s x:Int):Int:=ap .i64 (s+imax (ap .i64 x) (ap .i64 (0 -ap .i64 x)))
def Fc(row:List Int):Int:=row.foldl acR 0
def PQ(Fm:List Int×Int→Option Int)(x:List Int×Int):Option (List Int×Int):=
 (Fm (x.1,x.2)).bind fun e=>
  av (!(e==0)) (some ([],e))
   (av (decide (1≤x.2)&&decide (x.2≤1000000000000)&&decide (x.1.length≤1000000000)) (some ((chunks x.2.toNat x.1).map Fc,0)) none)
theorem Vl{α β:Type}(f:α→Option β):∀(l:List α) (x:α) (out:List β) (y:β),vo f l=some out→f x=some y→vo f (l++[x])=some (out++[y])
 |[],x,out,y,h,hy=>by cases h;simp[vo,hy]
 |a::l,x,out,y,h,hy=>by
  simp only[vo]at h
  split at h
  ·rename_i b hb
   split at h
   ·rename_i bs hbs
    cases h;have:=Vl f l x bs y hbs hy;simp[vo,hb,this]
   ·cases h
  ·cases h
theorem al0{α β:Type}(f:α→Option β):∀(l:List α) (out:List β),vo f l=some out→∀x∈l,∃y,f x=some y
 |[],out,h,x,hx=>by cases hx
 |a::l,out,h,x,hx=>by
  simp only[vo]at h
  split at h
  ·rename_i b hb
   split at h
   ·rename_i bs hbs;rcases List.mem_cons.1 hx with rfl |hx
    ·exact⟨b,hb⟩
    ·exact al0 f l bs hbs x hx
   ·cases h
  ·cases h
theorem al1{α β:Type}(f:α→Option β):∀(l:List α) (out:List β),vo f l=some out→out.length=l.length
 |[],out,h=>by cases h;rfl
 |a::l,out,h=>by
  simp only[vo]at h
  split at h
  ·split at h
   ·rename_i bs hbs
    cases h;simp[al1 f l bs hbs]
   ·cases h
  ·cases h
open Go Go.Proofs
set_option maxRecDepth 100000
abbrev Y0:Ty:=.pair (.int .i64) (.int .i64)
abbrev Y1:Ty:=.pair (.int .i64) Y0
abbrev D1:Type:=Int×Int×Int
abbrev Y2:Ty:=.pair (.int .i64) Y1
abbrev Y3:Ty:=.pair (.int .i64) Y2
abbrev Y4:Ty:=.pair (.int .i64) Y3
abbrev D4:Type:=Int×Int×Int×D1
abbrev Y5:Ty:=.sl .str
abbrev D5:Type:=List (List UInt8)
abbrev Y6:Ty:=.sl Y1
abbrev Y7:Ty:=.pair Y5 Y6
abbrev Y8:Ty:=.sl (.int .i8)
abbrev Y9:Ty:=.pair Y8 Y1
abbrev D9:Type:=(List Int)×D1
abbrev Y10:Ty:=.pair Y8 Y9
abbrev D10:Type:=(List Int)×D9
abbrev Y11:Ty:=.pair Y8 Y10
abbrev D11:Type:=(List Int)×D10
abbrev Y12:Ty:=.pair (.int .i64) Y11
abbrev Y13:Ty:=.pair (.int .i64) Y12
abbrev D13:Type:=Int×Int×D11
abbrev Y14:Ty:=.pair (.int .i64) Y13
abbrev Y15:Ty:=.pair (.int .i64) Y14
abbrev D15:Type:=Int×Int×D13
abbrev Y16:Ty:=.pair (.int .i64) Y15
abbrev Y17:Ty:=.pair Y8 Y16
abbrev D17:Type:=(List Int)×Int×D15
abbrev Y18:Ty:=.pair Y8 Y17
abbrev D18:Type:=(List Int)×D17
abbrev Y19:Ty:=.pair Y8 Y18
abbrev D19:Type:=(List Int)×D18
abbrev Y20:Ty:=.pair Y8 Y19
abbrev D20:Type:=(List Int)×D19
abbrev Y21:Ty:=.pair Y8 Y20
abbrev D21:Type:=(List Int)×D20
abbrev Aj:Ty:=.pair Y8 Y21
abbrev qr:Type:=(List Int)×D21
abbrev Y23:Ty:=.sl Aj
abbrev Y24:Ty:=.pair Y8 (.int .i64)
abbrev D24:Type:=(List Int)×Int
abbrev Y25:Ty:=.pair Y8 Y24
abbrev D25:Type:=(List Int)×D24
abbrev Y26:Ty:=.pair Y8 Y25
abbrev D26:Type:=(List Int)×D25
abbrev Y27:Ty:=.pair Y23 Y26
abbrev D27:Type:=(List qr)×D26
abbrev Y28:Ty:=.pair Y8 Y27
abbrev D28:Type:=(List Int)×D27
abbrev Y29:Ty:=.pair Y8 Y28
abbrev D29:Type:=(List Int)×D28
abbrev Y30:Ty:=.pair (.int .i64) Y29
abbrev Y31:Ty:=.pair Y8 Y30
abbrev D31:Type:=(List Int)×Int×D29
abbrev Y32:Ty:=.pair Y7 Y31
abbrev gb:Type:=(D5×(List D1))×D31
abbrev iF:Ty:=.pair Y4 Y32
abbrev xY:Ty:=.sl Y8
abbrev sa:Type:=List (List Int)
abbrev aS:Ty:=.sl (.int .i64)
abbrev Y36:Ty:=.sl Y0
abbrev D36:Type:=List (Int×Int)
abbrev Y37:Ty:=.pair (.int .i64) Y36
abbrev Y38:Ty:=.pair (.int .i64) Y37
abbrev D38:Type:=Int×Int×D36
abbrev Y39:Ty:=.pair (.int .i64) Y38
abbrev Y40:Ty:=.pair (.int .i64) Y39
abbrev Ci:Type:=Int×Int×D38
abbrev GU:Ty:=.pair (.int .i64) Y40
abbrev Y42:Ty:=.ref Y0
abbrev Y43:Ty:=.pair Y42 .unit
abbrev D43:Type:=(Int×Int)×Unit
abbrev Y44:Ty:=.cl 115 Y43
abbrev JH:Ty:=.sl .bool
abbrev Y46:Ty:=.pair (.int .u8) (.int .i64)
abbrev Y47:Ty:=.pair (.int .u8) Y46
abbrev D47:Type:=Int×Int×Int
abbrev Y48:Ty:=.pair (.int .i64) Y47
abbrev Y49:Ty:=.sl Y48
abbrev D49:Type:=List (Int×D47)
abbrev sb:Ty:=.pair JH Y49
abbrev oZ:Type:=(List Bool)×D49
abbrev G0:GK:=.bf (.data (.int .i64))
abbrev H0:Type:=List (Option (List Int))
abbrev Y51:Ty:=.ref iF
abbrev Y52:Ty:=.pair Y51 .unit
abbrev D52:Type:=(D4×gb)×Unit
abbrev Y53:Ty:=.cl 119 Y52
abbrev Y54:Ty:=.pair Y8 Y8
abbrev Cj:Type:=(List Int)×(List Int)
abbrev Y55:Ty:=.pair Y8 Y54
abbrev D55:Type:=(List Int)×Cj
abbrev Zf:Ty:=.pair (.int .i64) Y55
abbrev Y57:Ty:=.pair iF Zf
abbrev D57:Type:=(D4×gb)×Int×D55
abbrev Y58:Ty:=.ref Y57
abbrev J9:Ty:=.sl Y54
abbrev NJ:Ty:=.sl aS
abbrev Ka:Type:=List (List Int)
abbrev Y61:Ty:=.ref (.int .i64)
abbrev Y62:Ty:=.sl J9
abbrev D62:Type:=List (List Cj)
abbrev Y63:Ty:=.ref JH
abbrev Y64:Ty:=.pair Y63 .unit
abbrev D64:Type:=(List Bool)×Unit
abbrev Y65:Ty:=.cl 166 Y64
abbrev Y66:Ty:=.ref aS
abbrev Y67:Ty:=.pair Y66 .unit
abbrev xq:Type:=(List Int)×Unit
abbrev Y68:Ty:=.cl 240 Y67
abbrev Y69:Ty:=.pair sb .str
abbrev D69:Type:=oZ×(List UInt8)
abbrev Y70:Ty:=.pair (.int .i64) Y69
abbrev Y71:Ty:=.pair (.int .i64) Y70
abbrev D71:Type:=Int×Int×D69
abbrev Y72:Ty:=.pair (.int .i64) Y71
abbrev Y73:Ty:=.pair GU Y72
abbrev D73:Type:=(Int×Ci)×Int×D71
abbrev Co:Ty:=.pair aS Y73
abbrev Ak:Type:=(List Int)×D73
abbrev Y75:Ty:=.sl (.int .u32)
abbrev Al:Ty:=.pair Y75 .unit
abbrev GH:Type:=(List Int)×Unit
abbrev Y77:Ty:=.sl (.int .u8)
abbrev G1:GK:=.bf (.data .bool)
abbrev H1:Type:=List (Option (List Bool))
abbrev Y78:Ty:=.sl NJ
abbrev Y79:Ty:=.pair aS (.int .i64)
abbrev D79:Type:=(List Int)×Int
abbrev Y80:Ty:=.pair Al Al
abbrev Y81:Ty:=.pair aS aS
abbrev U0:VT:=.pair (.data (.int .i64)) (.gs 4)
abbrev DU0:Type:=Int×(Option (Nat×Nat×Nat))
abbrev U1:VT:=.pair (.data (.int .i64)) U0
abbrev DU1:Type:=Int×DU0
abbrev U2:VT:=.pair (.data Co) U1
abbrev DU2:Type:=Ak×DU1
abbrev U3:VT:=.pair (.data iF) U2
abbrev DU3:Type:=(D4×gb)×DU2
abbrev G2:GK:=.st U3
abbrev H2:Type:=List (Option DU3)
abbrev Y82:Ty:=.pair .bool Al
abbrev Y83:Ty:=.pair aS Y82
abbrev D83:Type:=(List Int)×Bool×GH
abbrev H3:Type:=List (Option (List D83))
abbrev Y84:Ty:=.sl Y83
abbrev Y85:Ty:=.pair .bool aS
abbrev Y86:Ty:=.pair aS Y85
abbrev Y87:Ty:=.sl Y86
abbrev Y88:Ty:=.pair (.int .i64) Y84
abbrev Y89:Ty:=.pair (.int .i64) Y88
abbrev Y90:Ty:=.pair Co Y89
abbrev Y91:Ty:=.pair iF Y90
def T2:TD:=⟨.int .i64,1,8,false,some (.int .i64),true,[]⟩
def T3:TD:=⟨.int .i64,1,8,false,some (.int .i64),true,[]⟩
def T4:TD:=⟨.bool,1,1,false,some .bool,true,[]⟩
def T5:TD:=⟨.int .u8,1,1,false,some (.int .u8),true,[]⟩
def T9:TD:=⟨.str,1,16,false,some .str,true,[]⟩
def T23:TD:=⟨.struct [(3,0),(3,1),(3,2),(3,3),(3,4),(3,5)],6,48,true,some Y4,true,[]⟩
def T24:TD:=⟨.slice 9,1,24,false,some Y5,true,[]⟩
def T25:TD:=⟨.slice 111,1,24,false,some Y6,true,[]⟩
def T27:TD:=⟨.struct [(24,0),(25,1)],2,48,true,some Y7,true,[]⟩
def T28:TD:=⟨.slice 169,1,24,false,some Y8,true,[]⟩
def T29:TD:=⟨.slice 116,1,24,false,some Y23,true,[]⟩
def T31:TD:=⟨.struct [(23,0),(27,6),(28,8),(3,9),(28,10),(28,11),(29,12),(28,13),(28,14),(28,15),(3,16)],17,280,true,some iF,true,[]⟩
def T32:TD:=⟨.slice 3,1,24,false,some aS,true,[]⟩
def T33:TD:=⟨.slice 121,1,24,false,some Y36,true,[]⟩
def T35:TD:=⟨.struct [(3,0),(3,1),(3,2),(3,3),(3,4),(33,5)],6,64,true,some GU,true,[]⟩
def T36:TD:=⟨.slice 4,1,24,false,some JH,true,[]⟩
def T37:TD:=⟨.slice 124,1,24,false,some Y49,true,[]⟩
def T39:TD:=⟨.struct [(36,0),(37,1)],2,48,true,some sb,true,[]⟩
def T41:TD:=⟨.struct [(32,0),(35,1),(3,7),(3,8),(3,9),(39,10),(9,12)],13,176,true,some Co,true,[]⟩
def T43:TD:=⟨.struct [(3,0),(3,1),(3,2),(3,3),(3,4),(3,5)],6,48,true,some Y4,true,[(.int .i64),(.int .i64),(.int .i64),(.int .i64),(.int .i64),(.int .i64)]⟩
def T44:TD:=⟨.slice 112,1,24,false,some Y6,true,[]⟩
def T46:TD:=⟨.struct [(24,0),(44,1)],2,48,true,some Y7,true,[]⟩
def T47:TD:=⟨.slice 119,1,24,false,some Y23,true,[]⟩
def T49:TD:=⟨.struct [(43,0),(46,6),(28,8),(3,9),(28,10),(28,11),(47,12),(28,13),(28,14),(28,15),(3,16)],17,280,true,some iF,true,[]⟩
def T51:TD:=⟨.slice 122,1,24,false,some Y36,true,[]⟩
def T53:TD:=⟨.struct [(3,0),(3,1),(3,2),(3,3),(3,4),(51,5)],6,64,true,some GU,true,[]⟩
def T54:TD:=⟨.slice 125,1,24,false,some Y49,true,[]⟩
def T56:TD:=⟨.struct [(36,0),(54,1)],2,48,true,some sb,true,[]⟩
def T58:TD:=⟨.struct [(32,0),(53,1),(3,7),(3,8),(3,9),(56,10),(9,12)],13,176,true,some Co,true,[]⟩
def T60:TD:=⟨.slice 145,1,24,false,some Y75,true,[]⟩
def T62:TD:=⟨.struct [(60,0)],1,24,true,some Al,true,[]⟩
def T63:TD:=⟨.int .i64,1,8,false,some (.int .i64),true,[]⟩
def T66:TD:=⟨.slice 3,1,24,false,some aS,true,[]⟩
def T76:TD:=⟨.struct [(32,0),(3,1)],2,32,true,some Y79,true,[]⟩
def T84:TD:=⟨.struct [(62,0),(62,1)],2,48,true,some Y80,true,[]⟩
def T88:TD:=⟨.struct [(66,0),(66,1)],2,48,true,some Y81,true,[]⟩
def T96:TD:=⟨.slice 103,1,24,false,some Y84,true,[]⟩
def T99:TD:=⟨.slice 208,1,24,false,some Y87,true,[]⟩
def aAn:TD:=⟨.struct [(32,0),(4,1),(62,2)],3,56,true,some Y83,true,[]⟩
def aAo:TD:=⟨.struct [(3,0),(3,1),(3,2)],3,24,true,some Y1,true,[(.int .i64),(.int .i64),(.int .i64)]⟩
def aAp:TD:=⟨.struct [(3,0),(3,1),(3,2)],3,24,true,some Y1,true,[(.int .i64),(.int .i64),(.int .i64)]⟩
def aAq:TD:=⟨.struct [(28,0),(28,1),(28,2),(3,3),(3,4),(3,5)],6,96,true,some Y11,true,[]⟩
def aAr:TD:=⟨.struct [(28,0),(28,1),(28,2),(28,3),(28,4),(28,5),(3,6),(3,7),(3,8),(3,9),(3,10),(114,11)],17,280,true,some Aj,true,[]⟩
def aAs:TD:=⟨.struct [(28,0),(28,1),(28,2),(3,3),(3,4),(3,5)],6,96,true,some Y11,true,[]⟩
def aAt:TD:=⟨.struct [(28,0),(28,1),(28,2),(28,3),(28,4),(28,5),(3,6),(3,7),(3,8),(3,9),(3,10),(117,11)],17,280,true,some Aj,true,[]⟩
def aAu:TD:=⟨.struct [(3,0),(2,1)],2,16,true,some Y0,true,[]⟩
def aAv:TD:=⟨.struct [(3,0),(2,1)],2,16,true,some Y0,true,[]⟩
def aAw:TD:=⟨.struct [(3,0),(5,1),(5,2),(3,3)],4,24,true,some Y48,true,[]⟩
def aAx:TD:=⟨.struct [(3,0),(5,1),(5,2),(3,3)],4,24,true,some Y48,true,[]⟩
def aAy:TD:=⟨.slice 2,1,24,false,some aS,true,[]⟩
def aAz:TD:=⟨.int .u32,1,4,false,some (.int .u32),true,[]⟩
def aAA:TD:=⟨.int .u64,1,8,false,some (.int .u64),true,[]⟩
def aAB:TD:=⟨.int .u64,1,8,false,some (.int .u64),true,[]⟩
def aAC:TD:=⟨.struct [(31,0),(41,17),(3,30),(3,31),(96,32)],33,496,true,some Y91,true,[]⟩
def aAD:TD:=⟨.int .i8,1,1,false,some (.int .i8),true,[]⟩
def aAE:TD:=⟨.slice 5,1,24,false,some Y77,true,[]⟩
def aAF:TD:=⟨.struct [(32,0),(4,1),(66,2)],3,56,true,some Y86,true,[]⟩
def aAG:TD:=⟨.array 256 4,256,256,true,none,false,[]⟩
def aAH:TD:=⟨.struct [(3,0),(3,1)],2,16,true,some Y0,true,[]⟩
def aAI:TD:=⟨.struct [(3,0),(28,1),(28,2),(28,3)],4,80,true,some Zf,true,[]⟩
def aAJ:TD:=⟨.struct [(31,0),(230,17)],21,360,true,some Y57,true,[]⟩
def aAK:TD:=⟨.slice 126,1,24,false,some NJ,true,[]⟩
def aAL:TD:=⟨.slice 238,1,24,false,some Y62,true,[]⟩
def aAM:TD:=⟨.slice 345,1,24,false,some J9,true,[]⟩
def aAN:TD:=⟨.map 9 3,1,8,false,none,false,[]⟩
def aAO:TD:=⟨.map 316 3,1,8,false,none,false,[]⟩
def aAP:TD:=⟨.array 2 3,2,16,true,some Y0,true,[]⟩
def aAQ:TD:=⟨.slice 28,1,24,false,some xY,true,[]⟩
def aAR:TD:=⟨.slice 234,1,24,false,some Y78,true,[]⟩
def aAS:TD:=⟨.struct [(28,0),(28,1)],2,48,true,some Y54,true,[]⟩
def aAT:TD:=⟨.array 4 2,4,32,true,some Y2,true,[]⟩
def aAU:TD:=⟨.slice 381,1,24,false,some J9,true,[]⟩
def aAV:TD:=⟨.struct [(3,0),(28,1),(28,2),(28,3)],4,80,true,some Zf,true,[]⟩
def aAW:TD:=⟨.struct [(28,0),(28,1)],2,48,true,some Y54,true,[]⟩
def tt:List (TypeId×TD):=[(2,T2),(3,T3),(4,T4),(5,T5),(9,T9),(23,T23),(24,T24),(25,T25),(27,T27),(28,T28),(29,T29),(31,T31),(32,T32),(33,T33),(35,T35),(36,T36),(37,T37),(39,T39),(41,T41),(43,T43),(44,T44),(46,T46),(47,T47),(49,T49),(51,T51),(53,T53),(54,T54),(56,T56),(58,T58),(60,T60),(62,T62),(63,T63),(66,T66),(76,T76),(84,T84),(88,T88),(96,T96),(99,T99),(103,aAn),(111,aAo),(112,aAp),(114,aAq),(116,aAr),(117,aAs),(119,aAt),(121,aAu),(122,aAv),(124,aAw),(125,aAx),(126,aAy),(145,aAz),(154,aAA),(155,aAB),(160,aAC),(169,aAD),(176,aAE),(208,aAF),(214,aAG),(220,aAH),(230,aAI),(232,aAJ),(234,aAK),(235,aAL),(238,aAM),(313,aAN),(315,aAO),(316,aAP),(325,aAQ),(327,aAR),(345,aAS),(355,aAT),(361,aAU),(364,aAV),(381,aAW)]
theorem fb{P:Program}{t:TypeId}{d:TD}{τ:Ty}(h2:aqJ d.desc=d.agg)(h4:ase d=true)(h5:d.zero=true)(h6:d.ty=some τ)(h8:d.eq=[]∨ahy P t d.eq=true)(h1:(P.underlying t).map Ct=some d.desc:=by kernel_rfl)(h3:(P.info? t).map (fun i=>(i.size,i.bytes))=some (d.size,d.bytes):=by kernel_rfl)
 (h7:(P.info? t).map (fun i=>i.zero.map fun z=>(z.cells.toList,alk z))=some (some (τ.lr,d.agg)):=by kernel_rfl):eV P t d:=eV.z h1 h2 h3 h4 h5 h6 h7 h8
theorem aAX:eV Tryz.prog 2 T2:=fb rfl rfl rfl rfl (.inl rfl)
theorem aAY:eV Tryz.prog 3 T3:=fb rfl rfl rfl rfl (.inl rfl)
theorem aAZ:eV Tryz.prog 4 T4:=fb rfl rfl rfl rfl (.inl rfl)
theorem aA0:eV Tryz.prog 5 T5:=fb rfl rfl rfl rfl (.inl rfl)
theorem aA1:eV Tryz.prog 9 T9:=fb rfl rfl rfl rfl (.inl rfl)
theorem ayc:eV Tryz.prog 23 T23:=fb rfl rfl rfl rfl (.inl rfl)
theorem ayd:eV Tryz.prog 24 T24:=fb rfl rfl rfl rfl (.inl rfl)
theorem aye:eV Tryz.prog 25 T25:=fb rfl rfl rfl rfl (.inl rfl)
theorem ayf:eV Tryz.prog 27 T27:=fb rfl rfl rfl rfl (.inl rfl)
theorem ayg:eV Tryz.prog 28 T28:=fb rfl rfl rfl rfl (.inl rfl)
theorem ayh:eV Tryz.prog 29 T29:=fb rfl rfl rfl rfl (.inl rfl)
theorem ayi:eV Tryz.prog 31 T31:=fb rfl rfl rfl rfl (.inl rfl)
theorem ayj:eV Tryz.prog 32 T32:=fb rfl rfl rfl rfl (.inl rfl)
theorem ayk:eV Tryz.prog 33 T33:=fb rfl rfl rfl rfl (.inl rfl)
theorem ayl:eV Tryz.prog 35 T35:=fb rfl rfl rfl rfl (.inl rfl)
theorem aym:eV Tryz.prog 36 T36:=fb rfl rfl rfl rfl (.inl rfl)
theorem ayn:eV Tryz.prog 37 T37:=fb rfl rfl rfl rfl (.inl rfl)
theorem ayo:eV Tryz.prog 39 T39:=fb rfl rfl rfl rfl (.inl rfl)
theorem ayp:eV Tryz.prog 41 T41:=fb rfl rfl rfl rfl (.inl rfl)
theorem ayq:eV Tryz.prog 43 T43:=fb rfl rfl rfl rfl (.inr (by kernel_rfl))
theorem ayr:eV Tryz.prog 44 T44:=fb rfl rfl rfl rfl (.inl rfl)
theorem ays:eV Tryz.prog 46 T46:=fb rfl rfl rfl rfl (.inl rfl)
theorem ayt:eV Tryz.prog 47 T47:=fb rfl rfl rfl rfl (.inl rfl)
theorem ayu:eV Tryz.prog 49 T49:=fb rfl rfl rfl rfl (.inl rfl)
theorem ayv:eV Tryz.prog 51 T51:=fb rfl rfl rfl rfl (.inl rfl)
theorem ayw:eV Tryz.prog 53 T53:=fb rfl rfl rfl rfl (.inl rfl)
theorem ayx:eV Tryz.prog 54 T54:=fb rfl rfl rfl rfl (.inl rfl)
theorem ayy:eV Tryz.prog 56 T56:=fb rfl rfl rfl rfl (.inl rfl)
theorem ayz:eV Tryz.prog 58 T58:=fb rfl rfl rfl rfl (.inl rfl)
theorem ayA:eV Tryz.prog 60 T60:=fb rfl rfl rfl rfl (.inl rfl)
theorem ayB:eV Tryz.prog 62 T62:=fb rfl rfl rfl rfl (.inl rfl)
theorem ayC:eV Tryz.prog 63 T63:=fb rfl rfl rfl rfl (.inl rfl)
theorem ayD:eV Tryz.prog 66 T66:=fb rfl rfl rfl rfl (.inl rfl)
theorem ayE:eV Tryz.prog 76 T76:=fb rfl rfl rfl rfl (.inl rfl)
theorem ayF:eV Tryz.prog 84 T84:=fb rfl rfl rfl rfl (.inl rfl)
theorem ayG:eV Tryz.prog 88 T88:=fb rfl rfl rfl rfl (.inl rfl)
theorem ayH:eV Tryz.prog 96 T96:=fb rfl rfl rfl rfl (.inl rfl)
theorem ayI:eV Tryz.prog 99 T99:=fb rfl rfl rfl rfl (.inl rfl)
theorem avm:eV Tryz.prog 103 aAn:=fb rfl rfl rfl rfl (.inl rfl)
theorem avn:eV Tryz.prog 111 aAo:=fb rfl rfl rfl rfl (.inr (by kernel_rfl))
theorem avo:eV Tryz.prog 112 aAp:=fb rfl rfl rfl rfl (.inr (by kernel_rfl))
theorem avp:eV Tryz.prog 114 aAq:=fb rfl rfl rfl rfl (.inl rfl)
theorem avq:eV Tryz.prog 116 aAr:=fb rfl rfl rfl rfl (.inl rfl)
theorem avr:eV Tryz.prog 117 aAs:=fb rfl rfl rfl rfl (.inl rfl)
theorem avs:eV Tryz.prog 119 aAt:=fb rfl rfl rfl rfl (.inl rfl)
theorem avt:eV Tryz.prog 121 aAu:=fb rfl rfl rfl rfl (.inl rfl)
theorem avu:eV Tryz.prog 122 aAv:=fb rfl rfl rfl rfl (.inl rfl)
theorem avv:eV Tryz.prog 124 aAw:=fb rfl rfl rfl rfl (.inl rfl)
theorem avw:eV Tryz.prog 125 aAx:=fb rfl rfl rfl rfl (.inl rfl)
theorem avx:eV Tryz.prog 126 aAy:=fb rfl rfl rfl rfl (.inl rfl)
theorem avy:eV Tryz.prog 145 aAz:=fb rfl rfl rfl rfl (.inl rfl)
theorem avz:eV Tryz.prog 154 aAA:=fb rfl rfl rfl rfl (.inl rfl)
theorem avA:eV Tryz.prog 155 aAB:=fb rfl rfl rfl rfl (.inl rfl)
theorem avB:eV Tryz.prog 160 aAC:=fb rfl rfl rfl rfl (.inl rfl)
theorem avC:eV Tryz.prog 169 aAD:=fb rfl rfl rfl rfl (.inl rfl)
theorem avD:eV Tryz.prog 176 aAE:=fb rfl rfl rfl rfl (.inl rfl)
theorem avE:eV Tryz.prog 208 aAF:=fb rfl rfl rfl rfl (.inl rfl)
theorem avF:eV Tryz.prog 214 aAG:=.n (by kernel_rfl) rfl (by kernel_rfl) rfl rfl (.inl rfl)
theorem avG:eV Tryz.prog 220 aAH:=fb rfl rfl rfl rfl (.inl rfl)
theorem avH:eV Tryz.prog 230 aAI:=fb rfl rfl rfl rfl (.inl rfl)
theorem avI:eV Tryz.prog 232 aAJ:=fb rfl rfl rfl rfl (.inl rfl)
theorem avJ:eV Tryz.prog 234 aAK:=fb rfl rfl rfl rfl (.inl rfl)
theorem avK:eV Tryz.prog 235 aAL:=fb rfl rfl rfl rfl (.inl rfl)
theorem avL:eV Tryz.prog 238 aAM:=fb rfl rfl rfl rfl (.inl rfl)
theorem avM:eV Tryz.prog 313 aAN:=.n (by kernel_rfl) rfl (by kernel_rfl) rfl rfl (.inl rfl)
theorem avN:eV Tryz.prog 315 aAO:=.n (by kernel_rfl) rfl (by kernel_rfl) rfl rfl (.inl rfl)
theorem avO:eV Tryz.prog 316 aAP:=fb rfl rfl rfl rfl (.inl rfl)
theorem avP:eV Tryz.prog 325 aAQ:=fb rfl rfl rfl rfl (.inl rfl)
theorem avQ:eV Tryz.prog 327 aAR:=fb rfl rfl rfl rfl (.inl rfl)
theorem avR:eV Tryz.prog 345 aAS:=fb rfl rfl rfl rfl (.inl rfl)
theorem avS:eV Tryz.prog 355 aAT:=fb rfl rfl rfl rfl (.inl rfl)
theorem avT:eV Tryz.prog 361 aAU:=fb rfl rfl rfl rfl (.inl rfl)
theorem avU:eV Tryz.prog 364 aAV:=fb rfl rfl rfl rfl (.inl rfl)
theorem avV:eV Tryz.prog 381 aAW:=fb rfl rfl rfl rfl (.inl rfl)
theorem zc:YX Tryz.prog tt:=tc aAX (tc aAY (tc aAZ (tc aA0 (tc aA1 (tc ayc (tc ayd (tc aye (tc ayf (tc ayg (tc ayh (tc ayi (tc ayj (tc ayk (tc ayl (tc aym (tc ayn (tc ayo (tc ayp (tc ayq (tc ayr (tc ays (tc ayt (tc ayu (tc ayv (tc ayw (tc ayx (tc ayy (tc ayz (tc ayA (tc ayB (tc ayC (tc ayD (tc ayE (tc ayF (tc ayG (tc ayH (tc ayI (tc avm (tc avn (tc avo (tc avp (tc avq (tc avr (tc avs (tc avt (tc avu (tc avv (tc avw (tc avx (tc avy (tc avz (tc avA (tc avB (tc avC (tc avD (tc avE (tc avF (tc avG (tc avH (tc avI (tc avJ (tc avK (tc avL (tc avM (tc avN (tc avO (tc avP (tc avQ (tc avR (tc avS (tc avT (tc avU (tc avV (t0))))))))))))))))))))))))))))))))))))))))))))))))))))))))))))))))))))))))))
theorem VK3:VOK Tryz.prog 3 (.data (.int .i64)):=⟨rfl,rfl,by decide,by kernel_rfl⟩
theorem VK2:VOK Tryz.prog 2 (.data (.int .i64)):=⟨rfl,rfl,by decide,by kernel_rfl⟩
theorem VK4:VOK Tryz.prog 4 (.data .bool):=⟨rfl,rfl,by decide,by kernel_rfl⟩
theorem mixed:Tryz.prog.follows .mixedOrders=true:=by kernel_rfl
def O80:D7:=⟨[.sl (.int .i64)],(.int .i64),fun x=>app 8 [] x⟩
def aA2:D7:=⟨[.sl (.int .i64)],(.int .i64),fun x=>app 8 [] x⟩
def aA3:D7:=⟨[.sl Y54],Y54,fun x=>app 48 [] x⟩
def aA4:D7:=⟨[.sl (.int .i8)],(.int .i8),fun x=>app 1 [] x⟩
theorem aoz:x7 Tryz.prog 80 O80:=tj (X:={ tt:=tt,calls:=[],owns:=[],loops:=[],im:=[],nt:=8,fuel:=0 }) (fn:=Tryz.f80) (e0:=(.int .i64)) (eT:=(.int .i64)) mixed ⟨zc,c0,o0,s0,v0⟩ Tryz.func80 (by kernel_rfl) (by kernel_rfl) (by kernel_rfl) (by decide) fun x l h=>by
 have hb:xl { tt:=tt,calls:=[],owns:=[],loops:=[],im:=[],nt:=8,fuel:=0 } Tryz.f80 (.int .i64) [.v false [.sl (.int .i64) x .nn]]=(app 8 [] x).bind fun l=>some l:=by kernel_rfl
 refine⟨?_,fun hx=> ?_⟩
 ·rw[hb,h];rfl
 ·subst hx
  cases h
  kernel_rfl
theorem avW:x7 Tryz.prog 207 aA2:=tj (X:={ tt:=tt,calls:=[],owns:=[],loops:=[],im:=[],nt:=8,fuel:=0 }) (fn:=Tryz.f207) (e0:=(.int .i64)) (eT:=(.int .i64)) mixed ⟨zc,c0,o0,s0,v0⟩ Tryz.func207 (by kernel_rfl) (by kernel_rfl) (by kernel_rfl) (by decide) fun x l h=>by
 have hb:xl { tt:=tt,calls:=[],owns:=[],loops:=[],im:=[],nt:=8,fuel:=0 } Tryz.f207 (.int .i64) [.v false [.sl (.int .i64) x .nn]]=(app 8 [] x).bind fun l=>some l:=by kernel_rfl
 refine⟨?_,fun hx=> ?_⟩
 ·rw[hb,h];rfl
 ·subst hx
  cases h
  kernel_rfl
theorem avX:x7 Tryz.prog 230 aA3:=tj (X:={ tt:=tt,calls:=[],owns:=[],loops:=[],im:=[],nt:=8,fuel:=0 }) (fn:=Tryz.f230) (e0:=Y54) (eT:=Y54) mixed ⟨zc,c0,o0,s0,v0⟩ Tryz.func230 (by kernel_rfl) (by kernel_rfl) (by kernel_rfl) (by decide) fun x l h=>by
 have hb:xl { tt:=tt,calls:=[],owns:=[],loops:=[],im:=[],nt:=8,fuel:=0 } Tryz.f230 Y54 [.v false [.sl Y54 x .nn]]=(app 48 [] x).bind fun l=>some l:=by kernel_rfl
 refine⟨?_,fun hx=> ?_⟩
 ·rw[hb,h];rfl
 ·subst hx
  cases h
  kernel_rfl
theorem avY:x7 Tryz.prog 253 aA4:=tj (X:={ tt:=tt,calls:=[],owns:=[],loops:=[],im:=[],nt:=8,fuel:=0 }) (fn:=Tryz.f253) (e0:=(.int .i8)) (eT:=(.int .i8)) mixed ⟨zc,c0,o0,s0,v0⟩ Tryz.func253 (by kernel_rfl) (by kernel_rfl) (by kernel_rfl) (by decide) fun x l h=>by
 have hb:xl { tt:=tt,calls:=[],owns:=[],loops:=[],im:=[],nt:=8,fuel:=0 } Tryz.f253 (.int .i8) [.v false [.sl (.int .i8) x .nn]]=(app 1 [] x).bind fun l=>some l:=by kernel_rfl
 refine⟨?_,fun hx=> ?_⟩
 ·rw[hb,h];rfl
 ·subst hx
  cases h
  kernel_rfl
abbrev aD(calls:List (FuncId×Entry))(owns:List (FuncId×D7))(ljs:List (Nat×List (Nat×Ty)))(loops:List (Nat×LS))(im:List (Nat×NS))(nt fuel:Nat):Cx:={ tt:=tt,calls:=calls,owns:=owns,ljs:=ljs,loops:=loops,im:=im,nt:=nt,fuel:=fuel }
abbrev ar:Type:=List Int
abbrev au:Ty:=.int .i64
abbrev aE:SK:=.data au
abbrev dI8:SK:=.data (.int .i8)
abbrev dB0:SK:=.data .bool
theorem aM{f:FuncId}{fn:Func}{ps rs:List Ty}{X:Cx}(hc:∀f E,cZ f X.calls=some E→aq Tryz.prog f E)(hf:Tryz.prog.funcs[f]? =some fn)(h1:X.tt=tt:=by kernel_rfl)(ho:X.owns=[]:=by kernel_rfl)(hs:X.stats=[]:=by kernel_rfl)(hv:X.UX=[]:=by kernel_rfl)
  (hn:(fn.name=="runtime.NumGoroutine")=false:=by kernel_rfl) (hb:fn.body.isNone=false:=by kernel_rfl) (Zb:rs.all Ty.cI=true:=by kernel_rfl):aq Tryz.prog f ⟨ps,rs,am X fn ps rs⟩:=
 dL mixed ⟨by rw[h1];exact zc,hc,by rw[ho];exact o0,by rw[hs];exact s0,by rw[hv];exact v0⟩ hf hn hb Zb
end Go.Am
