import Derived.Test.YtllhngpojglipaaGreatDoorA1
import Derived.Test.YtllhngpojglipaaGreatDoorA4
import Derived.Test.YtllhngpojglipaaGreatDoorProg
set_option linter.unusedVariables false
set_option linter.unusedSimpArgs false
open Go.IntKind renaming wrap→ae
open List renaming length→af
namespace Go.Am
open Go
def upto{α:Type}(f:Nat→α)(k:Nat):List α:=(List.range k).map f
def pcs(len sz:Nat):Nat:=(len+sz -1)/sz
def chunks{α:Type}(k:Nat)(l:List α):List (List α):=upto (fun j=>(l.drop (j*k)).take k) (pcs l.length k)
def OZ(c:List Int×Int→Option Int)(Fd:List Int×List Int→Option Int)(x:List Int×Int×List Int):Option (List Int×Int):=
 (c (x.1,x.2.1)).bind fun e=>
  av (!(e==0)) (some ([],e))
   (av (!(((af x.2.2:Nat):Int)==x.2.1)) (some ([],80))
    (av (decide (1≤x.2.1)&&decide (x.2.1≤1000000000000)&&decide (x.1.length≤1000000000)) ((uH (fun b=>Fd (b,x.2.2)) (chunks x.2.1.toNat x.1)).bind fun a=>some (a,0)) none))
def abZ(s x:Int):Int:=ae .i64 (s+imax (ae .i64 x) (ae .i64 (0 -ae .i64 x)))
def Eo(row:List Int):Int:=row.foldl abZ 0
def O0(a:List Int×Int→Option Int)(x:List Int×Int):Option (List Int×Int):=
 (a (x.1,x.2)).bind fun e=>
  av (!(e==0)) (some ([],e))
   (av (decide (1≤x.2)&&decide (x.2≤1000000000000)&&decide (x.1.length≤1000000000)) (some ((chunks x.2.toNat x.1).map Eo,0)) none)
theorem Uy{α β:Type}(f:α→Option β):∀(l:List α) (x:α) (out:List β) (y:β),uH f l=some out→f x=some y→uH f (l++[x])=some (out++[y])
 |[],x,out,y,h,d=>by cases h;simp[uH,d]
 |a::l,x,out,y,h,d=>by
  simp only[uH]at h
  split at h
  ·rename_i b g
   split at h
   ·rename_i e c
    cases h;have:=Uy f l x e y c d;simp[uH,g,this]
   ·cases h
  ·cases h
theorem aky{α β:Type}(f:α→Option β):∀(l:List α) (out:List β),uH f l=some out→∀x∈l,∃y,f x=some y
 |[],out,h,x,c=>by cases c
 |a::l,out,h,x,c=>by
  simp only[uH]at h
  split at h
  ·rename_i b g
   split at h
   ·rename_i e d;rcases List.mem_cons.1 c with rfl |c
    ·exact⟨b,g⟩
    ·exact aky f l e d x c
   ·cases h
  ·cases h
theorem akz{α β:Type}(f:α→Option β):∀(l:List α) (out:List β),uH f l=some out→out.length=l.length
 |[],out,h=>by cases h;rfl
 |a::l,out,h=>by
  simp only[uH]at h
  split at h
  ·split at h
   ·rename_i c b
    cases h;simp[akz f l c b]
   ·cases h
  ·cases h
open Go Go.Proofs
set_option maxRecDepth 100000
abbrev Y0:Ty:=.pair (.int .i64) (.int .i64)
abbrev Y1:Ty:=.pair (.int .i64) Y0
abbrev D1:Type:=Int×Int×Int
abbrev Y2:Ty:=.pair (.int .i64) Y1
abbrev Y3:Ty:=.pair (.int .i64) Y2
abbrev Y4:Ty:=.pair (.int .i64) Y3
abbrev D4:Type:=Int×Int×Int×D1
abbrev Y5:Ty:=.sl .str
abbrev D5:Type:=List (List UInt8)
abbrev Y6:Ty:=.sl Y1
abbrev Y7:Ty:=.pair Y5 Y6
abbrev Y8:Ty:=.sl (.int .i8)
abbrev Y9:Ty:=.pair Y8 Y1
abbrev D9:Type:=(List Int)×D1
abbrev Y10:Ty:=.pair Y8 Y9
abbrev D10:Type:=(List Int)×D9
abbrev Y11:Ty:=.pair Y8 Y10
abbrev D11:Type:=(List Int)×D10
abbrev Y12:Ty:=.pair (.int .i64) Y11
abbrev Y13:Ty:=.pair (.int .i64) Y12
abbrev D13:Type:=Int×Int×D11
abbrev Y14:Ty:=.pair (.int .i64) Y13
abbrev Y15:Ty:=.pair (.int .i64) Y14
abbrev D15:Type:=Int×Int×D13
abbrev Y16:Ty:=.pair (.int .i64) Y15
abbrev Y17:Ty:=.pair Y8 Y16
abbrev D17:Type:=(List Int)×Int×D15
abbrev Y18:Ty:=.pair Y8 Y17
abbrev D18:Type:=(List Int)×D17
abbrev Y19:Ty:=.pair Y8 Y18
abbrev D19:Type:=(List Int)×D18
abbrev Y20:Ty:=.pair Y8 Y19
abbrev D20:Type:=(List Int)×D19
abbrev Y21:Ty:=.pair Y8 Y20
abbrev D21:Type:=(List Int)×D20
abbrev zD:Ty:=.pair Y8 Y21
abbrev pP:Type:=(List Int)×D21
abbrev Y23:Ty:=.sl zD
abbrev Y24:Ty:=.pair Y8 (.int .i64)
abbrev D24:Type:=(List Int)×Int
abbrev Y25:Ty:=.pair Y8 Y24
abbrev D25:Type:=(List Int)×D24
abbrev Y26:Ty:=.pair Y8 Y25
abbrev D26:Type:=(List Int)×D25
abbrev Y27:Ty:=.pair Y23 Y26
abbrev D27:Type:=(List pP)×D26
abbrev Y28:Ty:=.pair Y8 Y27
abbrev D28:Type:=(List Int)×D27
abbrev Y29:Ty:=.pair Y8 Y28
abbrev D29:Type:=(List Int)×D28
abbrev Y30:Ty:=.pair (.int .i64) Y29
abbrev Y31:Ty:=.pair Y8 Y30
abbrev D31:Type:=(List Int)×Int×D29
abbrev Y32:Ty:=.pair Y7 Y31
abbrev fy:Type:=(D5×(List D1))×D31
abbrev gW:Ty:=.pair Y4 Y32
abbrev xo:Ty:=.sl Y8
abbrev rv:Type:=List (List Int)
abbrev aT:Ty:=.sl (.int .i64)
abbrev Y36:Ty:=.sl Y0
abbrev D36:Type:=List (Int×Int)
abbrev Y37:Ty:=.pair (.int .i64) Y36
abbrev Y38:Ty:=.pair (.int .i64) Y37
abbrev D38:Type:=Int×Int×D36
abbrev Y39:Ty:=.pair (.int .i64) Y38
abbrev Y40:Ty:=.pair (.int .i64) Y39
abbrev Bz:Type:=Int×Int×D38
abbrev FZ:Ty:=.pair (.int .i64) Y40
abbrev Y42:Ty:=.ref Y0
abbrev Y43:Ty:=.pair Y42 .unit
abbrev D43:Type:=(Int×Int)×Unit
abbrev Y44:Ty:=.cl 115 Y43
abbrev IZ:Ty:=.sl .bool
abbrev Y46:Ty:=.pair (.int .u8) (.int .i64)
abbrev Y47:Ty:=.pair (.int .u8) Y46
abbrev D47:Type:=Int×Int×Int
abbrev Y48:Ty:=.pair (.int .i64) Y47
abbrev Y49:Ty:=.sl Y48
abbrev D49:Type:=List (Int×D47)
abbrev rx:Ty:=.pair IZ Y49
abbrev oo:Type:=(List Bool)×D49
abbrev G0:GK:=.bf (.data (.int .i64))
abbrev H0:Type:=List (Option (List Int))
abbrev Y51:Ty:=.ref gW
abbrev Y52:Ty:=.pair Y51 .unit
abbrev D52:Type:=(D4×fy)×Unit
abbrev Y53:Ty:=.cl 119 Y52
abbrev Y54:Ty:=.pair Y8 Y8
abbrev BA:Type:=(List Int)×(List Int)
abbrev Y55:Ty:=.pair Y8 Y54
abbrev D55:Type:=(List Int)×BA
abbrev Yq:Ty:=.pair (.int .i64) Y55
abbrev Y57:Ty:=.pair gW Yq
abbrev D57:Type:=(D4×fy)×Int×D55
abbrev Y58:Ty:=.ref Y57
abbrev Jq:Ty:=.sl Y54
abbrev MX:Ty:=.sl aT
abbrev Jr:Type:=List (List Int)
abbrev Y61:Ty:=.ref (.int .i64)
abbrev Y62:Ty:=.sl Jq
abbrev D62:Type:=List (List BA)
abbrev Y63:Ty:=.ref IZ
abbrev Y64:Ty:=.pair Y63 .unit
abbrev D64:Type:=(List Bool)×Unit
abbrev Y65:Ty:=.cl 166 Y64
abbrev Y66:Ty:=.ref aT
abbrev Y67:Ty:=.pair Y66 .unit
abbrev wJ:Type:=(List Int)×Unit
abbrev Y68:Ty:=.cl 240 Y67
abbrev Y69:Ty:=.pair rx .str
abbrev D69:Type:=oo×(List UInt8)
abbrev Y70:Ty:=.pair (.int .i64) Y69
abbrev Y71:Ty:=.pair (.int .i64) Y70
abbrev D71:Type:=Int×Int×D69
abbrev Y72:Ty:=.pair (.int .i64) Y71
abbrev Y73:Ty:=.pair FZ Y72
abbrev D73:Type:=(Int×Bz)×Int×D71
abbrev zq:Ty:=.pair aT Y73
abbrev xw:Type:=(List Int)×D73
abbrev Y75:Ty:=.sl (.int .u32)
abbrev pT:Ty:=.pair Y75 .unit
abbrev rY:Type:=(List Int)×Unit
abbrev Y77:Ty:=.sl (.int .u8)
abbrev G1:GK:=.bf (.data .bool)
abbrev H1:Type:=List (Option (List Bool))
abbrev Y78:Ty:=.sl MX
abbrev Y79:Ty:=.pair aT (.int .i64)
abbrev Y80:Ty:=.pair pT pT
abbrev Y81:Ty:=.pair aT aT
abbrev U0:VT:=.pair (.data (.int .i64)) (.gs 4)
abbrev DU0:Type:=Int×(Option (Nat×Nat×Nat))
abbrev U1:VT:=.pair (.data (.int .i64)) U0
abbrev DU1:Type:=Int×DU0
abbrev U2:VT:=.pair (.data zq) U1
abbrev DU2:Type:=xw×DU1
abbrev U3:VT:=.pair (.data gW) U2
abbrev DU3:Type:=(D4×fy)×DU2
abbrev G2:GK:=.st U3
abbrev H2:Type:=List (Option DU3)
abbrev Y82:Ty:=.pair .bool pT
abbrev Y83:Ty:=.pair aT Y82
abbrev D83:Type:=(List Int)×Bool×rY
abbrev H3:Type:=List (Option (List D83))
abbrev Y84:Ty:=.sl Y83
abbrev Y85:Ty:=.pair .bool aT
abbrev Y86:Ty:=.pair aT Y85
abbrev Y87:Ty:=.sl Y86
abbrev Y88:Ty:=.pair (.int .i64) Y84
abbrev Y89:Ty:=.pair (.int .i64) Y88
abbrev Y90:Ty:=.pair zq Y89
abbrev Y91:Ty:=.pair gW Y90
def T2:TD:=⟨.int .i64,1,8,false,some (.int .i64),true,[]⟩
def T3:TD:=⟨.int .i64,1,8,false,some (.int .i64),true,[]⟩
def T4:TD:=⟨.bool,1,1,false,some .bool,true,[]⟩
def T5:TD:=⟨.int .u8,1,1,false,some (.int .u8),true,[]⟩
def T9:TD:=⟨.str,1,16,false,some .str,true,[]⟩
def T23:TD:=⟨.struct [(3,0),(3,1),(3,2),(3,3),(3,4),(3,5)],6,48,true,some Y4,true,[]⟩
def T24:TD:=⟨.slice 9,1,24,false,some Y5,true,[]⟩
def T25:TD:=⟨.slice 111,1,24,false,some Y6,true,[]⟩
def T27:TD:=⟨.struct [(24,0),(25,1)],2,48,true,some Y7,true,[]⟩
def T28:TD:=⟨.slice 169,1,24,false,some Y8,true,[]⟩
def T29:TD:=⟨.slice 116,1,24,false,some Y23,true,[]⟩
def T31:TD:=⟨.struct [(23,0),(27,6),(28,8),(3,9),(28,10),(28,11),(29,12),(28,13),(28,14),(28,15),(3,16)],17,280,true,some gW,true,[]⟩
def T32:TD:=⟨.slice 3,1,24,false,some aT,true,[]⟩
def T33:TD:=⟨.slice 121,1,24,false,some Y36,true,[]⟩
def T35:TD:=⟨.struct [(3,0),(3,1),(3,2),(3,3),(3,4),(33,5)],6,64,true,some FZ,true,[]⟩
def T36:TD:=⟨.slice 4,1,24,false,some IZ,true,[]⟩
def T37:TD:=⟨.slice 124,1,24,false,some Y49,true,[]⟩
def T39:TD:=⟨.struct [(36,0),(37,1)],2,48,true,some rx,true,[]⟩
def T41:TD:=⟨.struct [(32,0),(35,1),(3,7),(3,8),(3,9),(39,10),(9,12)],13,176,true,some zq,true,[]⟩
def T43:TD:=⟨.struct [(3,0),(3,1),(3,2),(3,3),(3,4),(3,5)],6,48,true,some Y4,true,[(.int .i64),(.int .i64),(.int .i64),(.int .i64),(.int .i64),(.int .i64)]⟩
def T44:TD:=⟨.slice 112,1,24,false,some Y6,true,[]⟩
def T46:TD:=⟨.struct [(24,0),(44,1)],2,48,true,some Y7,true,[]⟩
def T47:TD:=⟨.slice 119,1,24,false,some Y23,true,[]⟩
def T49:TD:=⟨.struct [(43,0),(46,6),(28,8),(3,9),(28,10),(28,11),(47,12),(28,13),(28,14),(28,15),(3,16)],17,280,true,some gW,true,[]⟩
def T51:TD:=⟨.slice 122,1,24,false,some Y36,true,[]⟩
def T53:TD:=⟨.struct [(3,0),(3,1),(3,2),(3,3),(3,4),(51,5)],6,64,true,some FZ,true,[]⟩
def T54:TD:=⟨.slice 125,1,24,false,some Y49,true,[]⟩
def T56:TD:=⟨.struct [(36,0),(54,1)],2,48,true,some rx,true,[]⟩
def T58:TD:=⟨.struct [(32,0),(53,1),(3,7),(3,8),(3,9),(56,10),(9,12)],13,176,true,some zq,true,[]⟩
def T60:TD:=⟨.slice 145,1,24,false,some Y75,true,[]⟩
def T62:TD:=⟨.struct [(60,0)],1,24,true,some pT,true,[]⟩
def T63:TD:=⟨.int .i64,1,8,false,some (.int .i64),true,[]⟩
def T66:TD:=⟨.slice 3,1,24,false,some aT,true,[]⟩
def T76:TD:=⟨.struct [(32,0),(3,1)],2,32,true,some Y79,true,[]⟩
def T84:TD:=⟨.struct [(62,0),(62,1)],2,48,true,some Y80,true,[]⟩
def T88:TD:=⟨.struct [(66,0),(66,1)],2,48,true,some Y81,true,[]⟩
def T96:TD:=⟨.slice 103,1,24,false,some Y84,true,[]⟩
def T99:TD:=⟨.slice 208,1,24,false,some Y87,true,[]⟩
def axl:TD:=⟨.struct [(32,0),(4,1),(62,2)],3,56,true,some Y83,true,[]⟩
def axm:TD:=⟨.struct [(3,0),(3,1),(3,2)],3,24,true,some Y1,true,[(.int .i64),(.int .i64),(.int .i64)]⟩
def axn:TD:=⟨.struct [(3,0),(3,1),(3,2)],3,24,true,some Y1,true,[(.int .i64),(.int .i64),(.int .i64)]⟩
def axo:TD:=⟨.struct [(28,0),(28,1),(28,2),(3,3),(3,4),(3,5)],6,96,true,some Y11,true,[]⟩
def axp:TD:=⟨.struct [(28,0),(28,1),(28,2),(28,3),(28,4),(28,5),(3,6),(3,7),(3,8),(3,9),(3,10),(114,11)],17,280,true,some zD,true,[]⟩
def axq:TD:=⟨.struct [(28,0),(28,1),(28,2),(3,3),(3,4),(3,5)],6,96,true,some Y11,true,[]⟩
def axr:TD:=⟨.struct [(28,0),(28,1),(28,2),(28,3),(28,4),(28,5),(3,6),(3,7),(3,8),(3,9),(3,10),(117,11)],17,280,true,some zD,true,[]⟩
def axs:TD:=⟨.struct [(3,0),(2,1)],2,16,true,some Y0,true,[]⟩
def axt:TD:=⟨.struct [(3,0),(2,1)],2,16,true,some Y0,true,[]⟩
def axu:TD:=⟨.struct [(3,0),(5,1),(5,2),(3,3)],4,24,true,some Y48,true,[]⟩
def axv:TD:=⟨.struct [(3,0),(5,1),(5,2),(3,3)],4,24,true,some Y48,true,[]⟩
def axw:TD:=⟨.slice 2,1,24,false,some aT,true,[]⟩
def axx:TD:=⟨.int .u32,1,4,false,some (.int .u32),true,[]⟩
def axy:TD:=⟨.int .u64,1,8,false,some (.int .u64),true,[]⟩
def axz:TD:=⟨.int .u64,1,8,false,some (.int .u64),true,[]⟩
def axA:TD:=⟨.struct [(31,0),(41,17),(3,30),(3,31),(96,32)],33,496,true,some Y91,true,[]⟩
def axB:TD:=⟨.int .i8,1,1,false,some (.int .i8),true,[]⟩
def axC:TD:=⟨.slice 5,1,24,false,some Y77,true,[]⟩
def axD:TD:=⟨.struct [(32,0),(4,1),(66,2)],3,56,true,some Y86,true,[]⟩
def axE:TD:=⟨.array 256 4,256,256,true,none,false,[]⟩
def axF:TD:=⟨.struct [(3,0),(3,1)],2,16,true,some Y0,true,[]⟩
def axG:TD:=⟨.struct [(3,0),(28,1),(28,2),(28,3)],4,80,true,some Yq,true,[]⟩
def axH:TD:=⟨.struct [(31,0),(230,17)],21,360,true,some Y57,true,[]⟩
def axI:TD:=⟨.slice 126,1,24,false,some MX,true,[]⟩
def axJ:TD:=⟨.slice 238,1,24,false,some Y62,true,[]⟩
def axK:TD:=⟨.slice 345,1,24,false,some Jq,true,[]⟩
def axL:TD:=⟨.map 9 3,1,8,false,none,false,[]⟩
def axM:TD:=⟨.map 316 3,1,8,false,none,false,[]⟩
def axN:TD:=⟨.array 2 3,2,16,true,some Y0,true,[]⟩
def axO:TD:=⟨.slice 28,1,24,false,some xo,true,[]⟩
def axP:TD:=⟨.slice 234,1,24,false,some Y78,true,[]⟩
def axQ:TD:=⟨.struct [(28,0),(28,1)],2,48,true,some Y54,true,[]⟩
def axR:TD:=⟨.array 4 2,4,32,true,some Y2,true,[]⟩
def axS:TD:=⟨.slice 381,1,24,false,some Jq,true,[]⟩
def axT:TD:=⟨.struct [(3,0),(28,1),(28,2),(28,3)],4,80,true,some Yq,true,[]⟩
def axU:TD:=⟨.struct [(28,0),(28,1)],2,48,true,some Y54,true,[]⟩
def tt:List (TypeId×TD):=[(2,T2),(3,T3),(4,T4),(5,T5),(9,T9),(23,T23),(24,T24),(25,T25),(27,T27),(28,T28),(29,T29),(31,T31),(32,T32),(33,T33),(35,T35),(36,T36),(37,T37),(39,T39),(41,T41),(43,T43),(44,T44),(46,T46),(47,T47),(49,T49),(51,T51),(53,T53),(54,T54),(56,T56),(58,T58),(60,T60),(62,T62),(63,T63),(66,T66),(76,T76),(84,T84),(88,T88),(96,T96),(99,T99),(103,axl),(111,axm),(112,axn),(114,axo),(116,axp),(117,axq),(119,axr),(121,axs),(122,axt),(124,axu),(125,axv),(126,axw),(145,axx),(154,axy),(155,axz),(160,axA),(169,axB),(176,axC),(208,axD),(214,axE),(220,axF),(230,axG),(232,axH),(234,axI),(235,axJ),(238,axK),(313,axL),(315,axM),(316,axN),(325,axO),(327,axP),(345,axQ),(355,axR),(361,axS),(364,axT),(381,axU)]
theorem eN{P:Program}{t:TypeId}{d:TD}{τ:Ty}(h2:aoV d.desc=d.agg)(h4:aqj d=true)(h5:d.zero=true)(h6:d.ty=some τ)(h8:d.eq=[]∨agv P t d.eq=true)(h1:(P.underlying t).map BI=some d.desc:=by kernel_rfl)(h3:(P.info? t).map (fun i=>(i.size,i.bytes))=some (d.size,d.bytes):=by kernel_rfl)
 (h7:(P.info? t).map (fun i=>i.zero.map fun z=>(z.cells.toList,ajY z))=some (some (τ.lK,d.agg)):=by kernel_rfl):eH P t d:=eH.z h1 h2 h3 h4 h5 h6 h7 h8
theorem axV:eH Tryz.prog 2 T2:=eN rfl rfl rfl rfl (.inl rfl)
theorem axW:eH Tryz.prog 3 T3:=eN rfl rfl rfl rfl (.inl rfl)
theorem axX:eH Tryz.prog 4 T4:=eN rfl rfl rfl rfl (.inl rfl)
theorem axY:eH Tryz.prog 5 T5:=eN rfl rfl rfl rfl (.inl rfl)
theorem axZ:eH Tryz.prog 9 T9:=eN rfl rfl rfl rfl (.inl rfl)
theorem avC:eH Tryz.prog 23 T23:=eN rfl rfl rfl rfl (.inl rfl)
theorem avD:eH Tryz.prog 24 T24:=eN rfl rfl rfl rfl (.inl rfl)
theorem avE:eH Tryz.prog 25 T25:=eN rfl rfl rfl rfl (.inl rfl)
theorem avF:eH Tryz.prog 27 T27:=eN rfl rfl rfl rfl (.inl rfl)
theorem avG:eH Tryz.prog 28 T28:=eN rfl rfl rfl rfl (.inl rfl)
theorem avH:eH Tryz.prog 29 T29:=eN rfl rfl rfl rfl (.inl rfl)
theorem avI:eH Tryz.prog 31 T31:=eN rfl rfl rfl rfl (.inl rfl)
theorem avJ:eH Tryz.prog 32 T32:=eN rfl rfl rfl rfl (.inl rfl)
theorem avK:eH Tryz.prog 33 T33:=eN rfl rfl rfl rfl (.inl rfl)
theorem avL:eH Tryz.prog 35 T35:=eN rfl rfl rfl rfl (.inl rfl)
theorem avM:eH Tryz.prog 36 T36:=eN rfl rfl rfl rfl (.inl rfl)
theorem avN:eH Tryz.prog 37 T37:=eN rfl rfl rfl rfl (.inl rfl)
theorem avO:eH Tryz.prog 39 T39:=eN rfl rfl rfl rfl (.inl rfl)
theorem avP:eH Tryz.prog 41 T41:=eN rfl rfl rfl rfl (.inl rfl)
theorem avQ:eH Tryz.prog 43 T43:=eN rfl rfl rfl rfl (.inr (by kernel_rfl))
theorem avR:eH Tryz.prog 44 T44:=eN rfl rfl rfl rfl (.inl rfl)
theorem avS:eH Tryz.prog 46 T46:=eN rfl rfl rfl rfl (.inl rfl)
theorem avT:eH Tryz.prog 47 T47:=eN rfl rfl rfl rfl (.inl rfl)
theorem avU:eH Tryz.prog 49 T49:=eN rfl rfl rfl rfl (.inl rfl)
theorem avV:eH Tryz.prog 51 T51:=eN rfl rfl rfl rfl (.inl rfl)
theorem avW:eH Tryz.prog 53 T53:=eN rfl rfl rfl rfl (.inl rfl)
theorem avX:eH Tryz.prog 54 T54:=eN rfl rfl rfl rfl (.inl rfl)
theorem avY:eH Tryz.prog 56 T56:=eN rfl rfl rfl rfl (.inl rfl)
theorem avZ:eH Tryz.prog 58 T58:=eN rfl rfl rfl rfl (.inl rfl)
theorem av0:eH Tryz.prog 60 T60:=eN rfl rfl rfl rfl (.inl rfl)
theorem av1:eH Tryz.prog 62 T62:=eN rfl rfl rfl rfl (.inl rfl)
theorem av2:eH Tryz.prog 63 T63:=eN rfl rfl rfl rfl (.inl rfl)
theorem av3:eH Tryz.prog 66 T66:=eN rfl rfl rfl rfl (.inl rfl)
theorem av4:eH Tryz.prog 76 T76:=eN rfl rfl rfl rfl (.inl rfl)
theorem av5:eH Tryz.prog 84 T84:=eN rfl rfl rfl rfl (.inl rfl)
theorem av6:eH Tryz.prog 88 T88:=eN rfl rfl rfl rfl (.inl rfl)
theorem av7:eH Tryz.prog 96 T96:=eN rfl rfl rfl rfl (.inl rfl)
theorem av8:eH Tryz.prog 99 T99:=eN rfl rfl rfl rfl (.inl rfl)
theorem as9:eH Tryz.prog 103 axl:=eN rfl rfl rfl rfl (.inl rfl)
theorem ata:eH Tryz.prog 111 axm:=eN rfl rfl rfl rfl (.inr (by kernel_rfl))
theorem atb:eH Tryz.prog 112 axn:=eN rfl rfl rfl rfl (.inr (by kernel_rfl))
theorem atc:eH Tryz.prog 114 axo:=eN rfl rfl rfl rfl (.inl rfl)
theorem atd:eH Tryz.prog 116 axp:=eN rfl rfl rfl rfl (.inl rfl)
theorem ate:eH Tryz.prog 117 axq:=eN rfl rfl rfl rfl (.inl rfl)
theorem atf:eH Tryz.prog 119 axr:=eN rfl rfl rfl rfl (.inl rfl)
theorem atg:eH Tryz.prog 121 axs:=eN rfl rfl rfl rfl (.inl rfl)
theorem ath:eH Tryz.prog 122 axt:=eN rfl rfl rfl rfl (.inl rfl)
theorem ati:eH Tryz.prog 124 axu:=eN rfl rfl rfl rfl (.inl rfl)
theorem atj:eH Tryz.prog 125 axv:=eN rfl rfl rfl rfl (.inl rfl)
theorem atk:eH Tryz.prog 126 axw:=eN rfl rfl rfl rfl (.inl rfl)
theorem atl:eH Tryz.prog 145 axx:=eN rfl rfl rfl rfl (.inl rfl)
theorem atm:eH Tryz.prog 154 axy:=eN rfl rfl rfl rfl (.inl rfl)
theorem atn:eH Tryz.prog 155 axz:=eN rfl rfl rfl rfl (.inl rfl)
theorem ato:eH Tryz.prog 160 axA:=eN rfl rfl rfl rfl (.inl rfl)
theorem atp:eH Tryz.prog 169 axB:=eN rfl rfl rfl rfl (.inl rfl)
theorem atq:eH Tryz.prog 176 axC:=eN rfl rfl rfl rfl (.inl rfl)
theorem atr:eH Tryz.prog 208 axD:=eN rfl rfl rfl rfl (.inl rfl)
theorem ats:eH Tryz.prog 214 axE:=.n (by kernel_rfl) rfl (by kernel_rfl) rfl rfl (.inl rfl)
theorem att:eH Tryz.prog 220 axF:=eN rfl rfl rfl rfl (.inl rfl)
theorem atu:eH Tryz.prog 230 axG:=eN rfl rfl rfl rfl (.inl rfl)
theorem atv:eH Tryz.prog 232 axH:=eN rfl rfl rfl rfl (.inl rfl)
theorem atw:eH Tryz.prog 234 axI:=eN rfl rfl rfl rfl (.inl rfl)
theorem atx:eH Tryz.prog 235 axJ:=eN rfl rfl rfl rfl (.inl rfl)
theorem aty:eH Tryz.prog 238 axK:=eN rfl rfl rfl rfl (.inl rfl)
theorem atz:eH Tryz.prog 313 axL:=.n (by kernel_rfl) rfl (by kernel_rfl) rfl rfl (.inl rfl)
theorem atA:eH Tryz.prog 315 axM:=.n (by kernel_rfl) rfl (by kernel_rfl) rfl rfl (.inl rfl)
theorem atB:eH Tryz.prog 316 axN:=eN rfl rfl rfl rfl (.inl rfl)
theorem atC:eH Tryz.prog 325 axO:=eN rfl rfl rfl rfl (.inl rfl)
theorem atD:eH Tryz.prog 327 axP:=eN rfl rfl rfl rfl (.inl rfl)
theorem atE:eH Tryz.prog 345 axQ:=eN rfl rfl rfl rfl (.inl rfl)
theorem atF:eH Tryz.prog 355 axR:=eN rfl rfl rfl rfl (.inl rfl)
theorem atG:eH Tryz.prog 361 axS:=eN rfl rfl rfl rfl (.inl rfl)
theorem atH:eH Tryz.prog 364 axT:=eN rfl rfl rfl rfl (.inl rfl)
theorem atI:eH Tryz.prog 381 axU:=eN rfl rfl rfl rfl (.inl rfl)
theorem yz:Yk Tryz.prog tt:=tc axV (tc axW (tc axX (tc axY (tc axZ (tc avC (tc avD (tc avE (tc avF (tc avG (tc avH (tc avI (tc avJ (tc avK (tc avL (tc avM (tc avN (tc avO (tc avP (tc avQ (tc avR (tc avS (tc avT (tc avU (tc avV (tc avW (tc avX (tc avY (tc avZ (tc av0 (tc av1 (tc av2 (tc av3 (tc av4 (tc av5 (tc av6 (tc av7 (tc av8 (tc as9 (tc ata (tc atb (tc atc (tc atd (tc ate (tc atf (tc atg (tc ath (tc ati (tc atj (tc atk (tc atl (tc atm (tc atn (tc ato (tc atp (tc atq (tc atr (tc ats (tc att (tc atu (tc atv (tc atw (tc atx (tc aty (tc atz (tc atA (tc atB (tc atC (tc atD (tc atE (tc atF (tc atG (tc atH (tc atI (t0))))))))))))))))))))))))))))))))))))))))))))))))))))))))))))))))))))))))))
theorem VK3:VOK Tryz.prog 3 (.data (.int .i64)):=⟨rfl,rfl,by decide,by kernel_rfl⟩
theorem VK2:VOK Tryz.prog 2 (.data (.int .i64)):=⟨rfl,rfl,by decide,by kernel_rfl⟩
theorem VK4:VOK Tryz.prog 4 (.data .bool):=⟨rfl,rfl,by decide,by kernel_rfl⟩
theorem mixed:Tryz.prog.follows .mixedOrders=true:=by kernel_rfl
def O80:Dh:=⟨[.sl (.int .i64)],(.int .i64),fun x=>app 8 [] x⟩
def ax0:Dh:=⟨[.sl (.int .i64)],(.int .i64),fun x=>app 8 [] x⟩
def ax1:Dh:=⟨[.sl Y54],Y54,fun x=>app 48 [] x⟩
def ax2:Dh:=⟨[.sl (.int .i8)],(.int .i8),fun x=>app 1 [] x⟩
theorem amV:as6 Tryz.prog 80 O80:=sm (X:={ tt:=tt,calls:=[],owns:=[],loops:=[],gV:=[],nt:=8,fuel:=0 }) (fn:=Tryz.f80) (e0:=(.int .i64)) (eT:=(.int .i64)) mixed ⟨yz,c0,o0,s0,v0⟩ Tryz.func80 (by kernel_rfl) (by kernel_rfl) (by kernel_rfl) (by decide) fun x l h=>by
 have hb:wD { tt:=tt,calls:=[],owns:=[],loops:=[],gV:=[],nt:=8,fuel:=0 } Tryz.f80 (.int .i64) [.v false [.sl (.int .i64) x .nn]]=(app 8 [] x).bind fun l=>some l:=by kernel_rfl
 refine⟨?_,fun hx=> ?_⟩
 ·rw[hb,h];rfl
 ·subst hx
  cases h
  kernel_rfl
theorem atJ:as6 Tryz.prog 207 ax0:=sm (X:={ tt:=tt,calls:=[],owns:=[],loops:=[],gV:=[],nt:=8,fuel:=0 }) (fn:=Tryz.f207) (e0:=(.int .i64)) (eT:=(.int .i64)) mixed ⟨yz,c0,o0,s0,v0⟩ Tryz.func207 (by kernel_rfl) (by kernel_rfl) (by kernel_rfl) (by decide) fun x l h=>by
 have hb:wD { tt:=tt,calls:=[],owns:=[],loops:=[],gV:=[],nt:=8,fuel:=0 } Tryz.f207 (.int .i64) [.v false [.sl (.int .i64) x .nn]]=(app 8 [] x).bind fun l=>some l:=by kernel_rfl
 refine⟨?_,fun hx=> ?_⟩
 ·rw[hb,h];rfl
 ·subst hx
  cases h
  kernel_rfl
theorem atK:as6 Tryz.prog 230 ax1:=sm (X:={ tt:=tt,calls:=[],owns:=[],loops:=[],gV:=[],nt:=8,fuel:=0 }) (fn:=Tryz.f230) (e0:=Y54) (eT:=Y54) mixed ⟨yz,c0,o0,s0,v0⟩ Tryz.func230 (by kernel_rfl) (by kernel_rfl) (by kernel_rfl) (by decide) fun x l h=>by
 have hb:wD { tt:=tt,calls:=[],owns:=[],loops:=[],gV:=[],nt:=8,fuel:=0 } Tryz.f230 Y54 [.v false [.sl Y54 x .nn]]=(app 48 [] x).bind fun l=>some l:=by kernel_rfl
 refine⟨?_,fun hx=> ?_⟩
 ·rw[hb,h];rfl
 ·subst hx
  cases h
  kernel_rfl
theorem atL:as6 Tryz.prog 253 ax2:=sm (X:={ tt:=tt,calls:=[],owns:=[],loops:=[],gV:=[],nt:=8,fuel:=0 }) (fn:=Tryz.f253) (e0:=(.int .i8)) (eT:=(.int .i8)) mixed ⟨yz,c0,o0,s0,v0⟩ Tryz.func253 (by kernel_rfl) (by kernel_rfl) (by kernel_rfl) (by decide) fun x l h=>by
 have hb:wD { tt:=tt,calls:=[],owns:=[],loops:=[],gV:=[],nt:=8,fuel:=0 } Tryz.f253 (.int .i8) [.v false [.sl (.int .i8) x .nn]]=(app 1 [] x).bind fun l=>some l:=by kernel_rfl
 refine⟨?_,fun hx=> ?_⟩
 ·rw[hb,h];rfl
 ·subst hx
  cases h
  kernel_rfl
abbrev aE(calls:List (FuncId×Entry))(owns:List (FuncId×Dh))(ljs:List (Nat×List (Nat×Ty)))(loops:List (Nat×LS))(gV:List (Nat×NS))(nt fuel:Nat):Cx:={ tt:=tt,calls:=calls,owns:=owns,ljs:=ljs,loops:=loops,gV:=gV,nt:=nt,fuel:=fuel }
abbrev ar:Type:=List Int
abbrev au:Ty:=.int .i64
abbrev aF:SK:=.data au
abbrev dI8:SK:=.data (.int .i8)
abbrev dB0:SK:=.data .bool
theorem aL{f:FuncId}{fn:Func}{ps rs:List Ty}{X:Cx}(hc:∀f E,cW f X.calls=some E→aq Tryz.prog f E)(hf:Tryz.prog.funcs[f]? =some fn)(h1:X.tt=tt:=by kernel_rfl)(ho:X.owns=[]:=by kernel_rfl)(hs:X.stats=[]:=by kernel_rfl)(hv:X.Ue=[]:=by kernel_rfl)
  (hn:(fn.name== "runtime.NumGoroutine")=false:=by kernel_rfl) (hb:fn.body.isNone=false:=by kernel_rfl) (hnr:rs.all Ty.cE=true:=by kernel_rfl):aq Tryz.prog f ⟨ps,rs,ap X fn ps rs⟩:=
 dH mixed ⟨by rw[h1];exact yz,hc,by rw[ho];exact o0,by rw[hs];exact s0,by rw[hv];exact v0⟩ hf hn hb hnr
end Go.Am
