import Derived.Test.YtpdgokkbljiccaaGreatA1
import Derived.Test.YtpdgokkbljiccaaGreatA4
import Derived.Test.YtpdgokkbljiccaaGreatProg
set_option linter.unusedVariables false
set_option linter.unusedSimpArgs false
open Go.IntKind renaming wrap→ae
open List renaming length→ac,range→abY
namespace Go.Am
open Go
def upto{α:Type}(f:Nat→α)(k:Nat):List α:=(abY k).map f
def O8(len sz:Nat):Nat:=(len+sz -1)/sz
def chunks{α:Type}(k:Nat)(l:List α):List (List α):=upto (fun j=>(l.drop (j*k)).take k) (O8 l.length k)
def DN(c:List Int×Int→Option Int)(Fd:List Int×List Int→Option Int)(x:List Int×Int×List Int):Option (List Int×Int):=
 (c (x.1,x.2.1)).bind fun e=>
  aw (!(e==0)) (some ([],e))
   (aw (!(((ac x.2.2:Nat):Int)==x.2.1)) (some ([],80))
    (aw (decide (1≤x.2.1)&&decide (x.2.1≤1000000000000)&&decide (x.1.length≤1000000000)) ((nZ (fun b=>Fd (b,x.2.2)) (chunks x.2.1.toNat x.1)).bind fun a=>some (a,0)) none))
def Na(s x:Int):Int:=ae .i64 (s+imax (ae .i64 x) (ae .i64 (0 -ae .i64 x)))
def vM(row:List Int):Int:=row.foldl Na 0
def DO(a:List Int×Int→Option Int)(x:List Int×Int):Option (List Int×Int):=
 (a (x.1,x.2)).bind fun e=>
  aw (!(e==0)) (some ([],e))
   (aw (decide (1≤x.2)&&decide (x.2≤1000000000000)&&decide (x.1.length≤1000000000)) (some ((chunks x.2.toNat x.1).map vM,0)) none)
def qh(l:List Int):Bool:=decide (l.length≤1000000000)
def RG(x:(Int×Int×Int×Int×Int×Int)×(List (List UInt8)×List (Int×Int×Int))×List Int×Int×List Int×List Int×
  List (List Int×List Int×List Int×List Int×List Int×List Int×Int×Int×Int×Int×Int×List Int×List Int×List Int×Int×Int×Int)×List Int×List Int×List Int×Int):
  Option ((Int×Int×Int×Int×Int×Int)×(List (List UInt8)×List (Int×Int×Int))×List Int×Int×List Int×List Int×
  List (List Int×List Int×List Int×List Int×List Int×List Int×Int×Int×Int×Int×Int×List Int×List Int×List Int×Int×Int×Int)×List Int×List Int×List Int×Int):=
 aw (decide (x.2.1.1.length≤1000000000)&&decide (x.2.1.2.length≤1000000000)&&qh x.2.2.1&&qh x.2.2.2.2.1&&qh x.2.2.2.2.2.1&&decide (1≤x.2.2.2.2.2.2.1.length)&&decide (x.2.2.2.2.2.2.1.length≤1000000)&&qh x.2.2.2.2.2.2.2.1&&qh x.2.2.2.2.2.2.2.2.1&&qh x.2.2.2.2.2.2.2.2.2.1&&
  x.2.2.2.2.2.2.1.all fun b=>qh b.1&&qh b.2.1&&qh b.2.2.1&&qh b.2.2.2.1&&qh b.2.2.2.2.1&&qh b.2.2.2.2.2.1&&qh b.2.2.2.2.2.2.2.2.2.2.2.1&&qh b.2.2.2.2.2.2.2.2.2.2.2.2.1&&qh b.2.2.2.2.2.2.2.2.2.2.2.2.2.1)
  (some x) none
theorem HG{α β:Type}(f:α→Option β):∀(l:List α) (x:α) (c:List β) (y:β),nZ f l=some c→f x=some y→nZ f (l++[x])=some (c++[y])
 |[],x,c,y,h,g=>by cases h;simp[nZ,g]
 |a::l,x,c,y,h,g=>by
  simp only[nZ]at h
  split at h
  ·rename_i b j
   split at h
   ·rename_i i d
    cases h;have:=HG f l x i y d g;simp[nZ,j,this]
   ·cases h
  ·cases h
theorem TT{α β:Type}(f:α→Option β):∀(l:List α) (c:List β),nZ f l=some c→∀x∈l,∃y,f x=some y
 |[],c,h,x,d=>by cases d
 |a::l,c,h,x,d=>by
  simp only[nZ]at h
  split at h
  ·rename_i b j
   split at h
   ·rename_i i g;rcases List.mem_cons.1 d with rfl |d
    ·exact⟨b,j⟩
    ·exact TT f l i g x d
   ·cases h
  ·cases h
theorem TU{α β:Type}(f:α→Option β):∀(l:List α) (b:List β),nZ f l=some b→b.length=l.length
 |[],b,h=>by cases h;rfl
 |a::l,b,h=>by
  simp only[nZ]at h
  split at h
  ·split at h
   ·rename_i d c
    cases h;simp[TU f l d c]
   ·cases h
  ·cases h
open Go Go.Proofs
set_option maxRecDepth 100000
abbrev Y0:Ty:=.pair (.int .i64) (.int .i64)
abbrev Y1:Ty:=.pair (.int .i64) Y0
abbrev D1:Type:=Int×Int×Int
abbrev Y2:Ty:=.pair (.int .i64) Y1
abbrev Y3:Ty:=.pair (.int .i64) Y2
abbrev Y4:Ty:=.pair (.int .i64) Y3
abbrev D4:Type:=Int×Int×Int×D1
abbrev Y5:Ty:=.sl .str
abbrev D5:Type:=List (List UInt8)
abbrev Y6:Ty:=.sl Y1
abbrev Y7:Ty:=.pair Y5 Y6
abbrev Y8:Ty:=.sl (.int .i8)
abbrev Y9:Ty:=.pair Y8 Y1
abbrev D9:Type:=(List Int)×D1
abbrev Y10:Ty:=.pair Y8 Y9
abbrev D10:Type:=(List Int)×D9
abbrev Y11:Ty:=.pair Y8 Y10
abbrev D11:Type:=(List Int)×D10
abbrev Y12:Ty:=.pair (.int .i64) Y11
abbrev Y13:Ty:=.pair (.int .i64) Y12
abbrev D13:Type:=Int×Int×D11
abbrev Y14:Ty:=.pair (.int .i64) Y13
abbrev Y15:Ty:=.pair (.int .i64) Y14
abbrev D15:Type:=Int×Int×D13
abbrev Y16:Ty:=.pair (.int .i64) Y15
abbrev Y17:Ty:=.pair Y8 Y16
abbrev D17:Type:=(List Int)×Int×D15
abbrev Y18:Ty:=.pair Y8 Y17
abbrev D18:Type:=(List Int)×D17
abbrev Y19:Ty:=.pair Y8 Y18
abbrev D19:Type:=(List Int)×D18
abbrev Y20:Ty:=.pair Y8 Y19
abbrev D20:Type:=(List Int)×D19
abbrev Y21:Ty:=.pair Y8 Y20
abbrev D21:Type:=(List Int)×D20
abbrev uL:Ty:=.pair Y8 Y21
abbrev kT:Type:=(List Int)×D21
abbrev Y23:Ty:=.sl uL
abbrev Y24:Ty:=.pair Y8 (.int .i64)
abbrev D24:Type:=(List Int)×Int
abbrev Y25:Ty:=.pair Y8 Y24
abbrev D25:Type:=(List Int)×D24
abbrev Y26:Ty:=.pair Y8 Y25
abbrev D26:Type:=(List Int)×D25
abbrev Y27:Ty:=.pair Y23 Y26
abbrev D27:Type:=(List kT)×D26
abbrev Y28:Ty:=.pair Y8 Y27
abbrev D28:Type:=(List Int)×D27
abbrev Y29:Ty:=.pair Y8 Y28
abbrev D29:Type:=(List Int)×D28
abbrev Y30:Ty:=.pair (.int .i64) Y29
abbrev Y31:Ty:=.pair Y8 Y30
abbrev D31:Type:=(List Int)×Int×D29
abbrev Y32:Ty:=.pair Y7 Y31
abbrev iA:Type:=(D5×(List D1))×D31
abbrev iV:Ty:=.pair Y4 Y32
abbrev pP:Ty:=.sl Y8
abbrev lO:Type:=List (List Int)
abbrev bG:Ty:=.sl (.int .i64)
abbrev Ck:Ty:=.pair Y8 Y8
abbrev ou:Type:=(List Int)×(List Int)
abbrev Y37:Ty:=.pair Y8 Ck
abbrev L6:Type:=(List Int)×ou
abbrev Kd:Ty:=.pair (.int .i64) Y37
abbrev Z1:Ty:=.pair iV Kd
abbrev OX:Type:=(D4×iA)×Int×L6
abbrev Y40:Ty:=.ref Z1
abbrev qN:Ty:=.sl Ck
abbrev rE:Ty:=.sl bG
abbrev sW:Type:=List (List Int)
abbrev Y43:Ty:=.ref (.int .i64)
abbrev TW:Ty:=.sl qN
abbrev D44:Type:=List (List ou)
abbrev Y45:Ty:=.sl rE
abbrev U0:VT:=.pair (.gs 1) (.gs 2)
abbrev DU0:Type:=(Option (Nat×Nat×Nat))×(Option (Nat×Nat×Nat))
abbrev G0:GK:=.st U0
abbrev H0:Type:=List (Option DU0)
abbrev U1:VT:=.pair (.data .bool) (.gp 4 0)
abbrev DU1:Type:=Bool×(Option Nat)
abbrev G1:GK:=.bf U1
abbrev H1:Type:=List (Option (List DU1))
abbrev G2:GK:=.bf (.data (.int .i64))
abbrev H2:Type:=List (Option (List Int))
abbrev U2:VT:=.pair (.gm 6) (.data (.int .i64))
abbrev DU2:Type:=(Option Nat)×Int
abbrev U3:VT:=.pair (.gp 0 0) U2
abbrev DU3:Type:=(Option Nat)×DU2
abbrev U4:VT:=.pair (.data (.int .i64)) U3
abbrev DU4:Type:=Int×DU3
abbrev U5:VT:=.pair (.data (.int .i64)) U4
abbrev DU5:Type:=Int×DU4
abbrev U6:VT:=.pair (.data (.int .i64)) U5
abbrev DU6:Type:=Int×DU5
abbrev G3:GK:=.st U6
abbrev H3:Type:=List (Option DU6)
abbrev G4:GK:=.mp (.int .i64) (.gp 7 0)
abbrev H4:Type:=List (Option (List (Int×(Option Nat))))
abbrev U7:VT:=.pair (.data (.int .i64)) (.gs 8)
abbrev DU7:Type:=Int×(Option (Nat×Nat×Nat))
abbrev G5:GK:=.st U7
abbrev H5:Type:=List (Option DU7)
abbrev U8:VT:=.pair (.gs 10) (.data .bool)
abbrev DU8:Type:=(Option (Nat×Nat×Nat))×Bool
abbrev U9:VT:=.pair (.data (.int .i64)) U8
abbrev DU9:Type:=Int×DU8
abbrev U10:VT:=.pair (.gp 3 0) U9
abbrev ahR:Type:=(Option Nat)×DU9
abbrev U11:VT:=.pair (.data Z1) U10
abbrev ahT:Type:=OX×ahR
abbrev G6:GK:=.st U11
abbrev H6:Type:=List (Option ahT)
abbrev U12:VT:=.pair (.gs 5) (.data (.int .i64))
abbrev ahV:Type:=(Option (Nat×Nat×Nat))×Int
abbrev G7:GK:=.st U12
abbrev H7:Type:=List (Option ahV)
abbrev G8:GK:=.bf (.data (.int .i8))
abbrev H8:Type:=List (Option (List Int))
abbrev G9:GK:=.bf (.data Ck)
abbrev H9:Type:=List (Option (List ou))
abbrev G10:GK:=.st (.gp 3 0)
abbrev H10:Type:=List (Option (Option Nat))
abbrev Y49:Ty:=.pair bG .bool
abbrev Y50:Ty:=.pair iV Y49
abbrev Y51:Ty:=.pair (.int .i64) bG
abbrev Y52:Ty:=.pair (.int .i64) Y51
abbrev Y53:Ty:=.pair .bool Y52
abbrev Y54:Ty:=.sl Y53
abbrev Y55:Ty:=.pair iV iV
abbrev Y56:Ty:=.sl (.int .u8)
def T2:TD:=⟨.int .i64,1,8,false,some (.int .i64),true,[]⟩
def T3:TD:=⟨.int .i64,1,8,false,some (.int .i64),true,[]⟩
def T4:TD:=⟨.bool,1,1,false,some .bool,true,[]⟩
def T5:TD:=⟨.int .u8,1,1,false,some (.int .u8),true,[]⟩
def T9:TD:=⟨.str,1,16,false,some .str,true,[]⟩
def T22:TD:=⟨.slice 50,1,24,false,some Y8,true,[]⟩
def T24:TD:=⟨.struct [(22,0),(22,1),(22,2),(3,3),(3,4),(3,5)],6,96,true,some Y11,true,[]⟩
def T26:TD:=⟨.struct [(22,0),(22,1),(22,2),(22,3),(22,4),(22,5),(3,6),(3,7),(3,8),(3,9),(3,10),(24,11)],17,280,true,some uL,true,[]⟩
def T28:TD:=⟨.struct [(3,0),(22,1),(22,2),(22,3)],4,80,true,some Kd,true,[]⟩
def T29:TD:=⟨.slice 49,1,24,false,some qN,true,[]⟩
def T32:TD:=⟨.slice 47,1,24,false,some rE,true,[]⟩
def T34:TD:=⟨.int .i64,1,8,false,some (.int .i64),true,[]⟩
def T37:TD:=⟨.slice 137,1,24,false,some qN,true,[]⟩
def T40:TD:=⟨.struct [(22,0),(22,1),(22,2),(3,3),(3,4),(3,5)],6,96,true,some Y11,true,[]⟩
def T42:TD:=⟨.struct [(22,0),(22,1),(22,2),(22,3),(22,4),(22,5),(3,6),(3,7),(3,8),(3,9),(3,10),(40,11)],17,280,true,some uL,true,[]⟩
def T44:TD:=⟨.struct [(3,0),(22,1),(22,2),(22,3)],4,80,true,some Kd,true,[]⟩
def T47:TD:=⟨.slice 2,1,24,false,some bG,true,[]⟩
def T49:TD:=⟨.struct [(22,0),(22,1)],2,48,true,some Ck,true,[]⟩
def T50:TD:=⟨.int .i8,1,1,false,some (.int .i8),true,[]⟩
def T55:TD:=⟨.struct [(3,0),(3,1),(3,2),(3,3),(3,4),(3,5)],6,48,true,some Y4,true,[]⟩
def T56:TD:=⟨.slice 9,1,24,false,some Y5,true,[]⟩
def T57:TD:=⟨.slice 160,1,24,false,some Y6,true,[]⟩
def T59:TD:=⟨.struct [(56,0),(57,1)],2,48,true,some Y7,true,[]⟩
def T60:TD:=⟨.slice 26,1,24,false,some Y23,true,[]⟩
def T62:TD:=⟨.struct [(55,0),(59,6),(22,8),(3,9),(22,10),(22,11),(60,12),(22,13),(22,14),(22,15),(3,16)],17,280,true,some iV,true,[]⟩
def T63:TD:=⟨.slice 3,1,24,false,some bG,true,[]⟩
def T68:TD:=⟨.struct [(3,0),(3,1),(3,2),(3,3),(3,4),(3,5)],6,48,true,some Y4,true,[]⟩
def T69:TD:=⟨.slice 161,1,24,false,some Y6,true,[]⟩
def T71:TD:=⟨.struct [(56,0),(69,1)],2,48,true,some Y7,true,[]⟩
def T72:TD:=⟨.slice 42,1,24,false,some Y23,true,[]⟩
def T74:TD:=⟨.struct [(68,0),(71,6),(22,8),(3,9),(22,10),(22,11),(72,12),(22,13),(22,14),(22,15),(3,16)],17,280,true,some iV,true,[]⟩
def T79:TD:=⟨.slice 32,1,24,false,some Y45,true,[]⟩
def T81:TD:=⟨.slice 63,1,24,false,some rE,true,[]⟩
def T98:TD:=⟨.ptr 179,1,8,false,none,false,[]⟩
def ae6:TD:=⟨.ptr 182,1,8,false,none,false,[]⟩
def ae7:TD:=⟨.struct [(3,0),(3,1),(3,2),(3,3)],4,32,true,some Y2,true,[]⟩
def ae8:TD:=⟨.struct [(62,0),(62,17)],34,560,true,some Y55,true,[]⟩
def ae9:TD:=⟨.slice 124,1,24,false,some Y54,true,[]⟩
def afa:TD:=⟨.struct [(74,0),(63,17),(4,18)],19,312,true,some Y50,true,[]⟩
def afb:TD:=⟨.struct [(4,0),(3,1),(3,2),(63,3)],4,48,true,some Y53,true,[]⟩
def afc:TD:=⟨.struct [(22,0),(22,1)],2,48,true,some Ck,true,[]⟩
def afd:TD:=⟨.struct [(3,0),(3,1)],2,16,true,some Y0,true,[]⟩
def afe:TD:=⟨.struct [(62,0),(28,17)],21,360,true,some Z1,true,[]⟩
def aff:TD:=⟨.slice 29,1,24,false,some TW,true,[]⟩
def afg:TD:=⟨.struct [(3,0),(3,1),(3,2)],3,24,true,some Y1,true,[]⟩
def afh:TD:=⟨.struct [(3,0),(3,1),(3,2)],3,24,true,some Y1,true,[]⟩
def afi:TD:=⟨.ptr 232,1,8,false,none,false,[]⟩
def afj:TD:=⟨.ptr 250,1,8,false,none,false,[]⟩
def afk:TD:=⟨.map 3 239,1,8,false,none,false,[]⟩
def afl:TD:=⟨.struct [(3,0),(3,1),(3,2),(173,3),(177,4),(3,5)],6,48,true,none,false,[]⟩
def afm:TD:=⟨.struct [(147,0),(98,21),(3,22),(63,23),(4,24)],25,408,true,none,false,[]⟩
def afn:TD:=⟨.slice 22,1,24,false,some pP,true,[]⟩
def afo:TD:=⟨.int .u64,1,8,false,some (.int .u64),true,[]⟩
def afp:TD:=⟨.slice 329,1,24,false,none,false,[]⟩
def afq:TD:=⟨.struct [(230,0),(63,1)],2,48,true,none,false,[]⟩
def afr:TD:=⟨.ptr 241,1,8,false,none,false,[]⟩
def afs:TD:=⟨.struct [(3,0),(63,1)],2,32,true,none,false,[]⟩
def aft:TD:=⟨.struct [(22,0),(3,1)],2,32,true,none,false,[]⟩
def afu:TD:=⟨.int .u64,1,8,false,some (.int .u64),true,[]⟩
def afv:TD:=⟨.slice 5,1,24,false,some Y56,true,[]⟩
def afw:TD:=⟨.map 9 3,1,8,false,none,false,[]⟩
def afx:TD:=⟨.map 319 3,1,8,false,none,false,[]⟩
def afy:TD:=⟨.array 2 3,2,16,true,some Y0,true,[]⟩
def afz:TD:=⟨.struct [(4,0),(176,1)],2,16,true,none,false,[]⟩
def afA:TD:=⟨.array 4 2,4,32,true,some Y2,true,[]⟩
def tt:List (TypeId×TD):=[(2,T2),(3,T3),(4,T4),(5,T5),(9,T9),(22,T22),(24,T24),(26,T26),(28,T28),(29,T29),(32,T32),(34,T34),(37,T37),(40,T40),(42,T42),(44,T44),(47,T47),(49,T49),(50,T50),(55,T55),(56,T56),(57,T57),(59,T59),(60,T60),(62,T62),(63,T63),(68,T68),(69,T69),(71,T71),(72,T72),(74,T74),(79,T79),(81,T81),(98,T98),(101,ae6),(111,ae7),(119,ae8),(120,ae9),(122,afa),(124,afb),(137,afc),(143,afd),(147,afe),(150,aff),(160,afg),(161,afh),(173,afi),(176,afj),(177,afk),(179,afl),(182,afm),(216,afn),(220,afo),(230,afp),(232,afq),(239,afr),(241,afs),(250,aft),(261,afu),(301,afv),(316,afw),(318,afx),(319,afy),(329,afz),(349,afA)]
theorem fI{P:Program}{t:TypeId}{d:TD}{τ:Ty}(h2:Xv d.desc=d.agg)(h4:YV d=true)(h5:d.zero=true)(h6:d.ty=some τ)(h8:d.eq=[]∨Qf P t d.eq=true)(h1:(P.underlying t).map ry=some d.desc:=by kernel_rfl)(h3:(P.info? t).map (fun i=>(i.size,i.bytes))=some (d.size,d.bytes):=by kernel_rfl)
 (h7:(P.info? t).map (fun i=>i.zero.map fun z=>(z.cells.toList,O1 z))=some (some (τ.g7,d.agg)):=by kernel_rfl):dk P t d:=dk.z h1 h2 h3 h4 h5 h6 h7 h8
theorem afB:dk Tryz.prog 2 T2:=fI rfl rfl rfl rfl (.inl rfl)
theorem afC:dk Tryz.prog 3 T3:=fI rfl rfl rfl rfl (.inl rfl)
theorem afD:dk Tryz.prog 4 T4:=fI rfl rfl rfl rfl (.inl rfl)
theorem afE:dk Tryz.prog 5 T5:=fI rfl rfl rfl rfl (.inl rfl)
theorem afF:dk Tryz.prog 9 T9:=fI rfl rfl rfl rfl (.inl rfl)
theorem ads:dk Tryz.prog 22 T22:=fI rfl rfl rfl rfl (.inl rfl)
theorem adt:dk Tryz.prog 24 T24:=fI rfl rfl rfl rfl (.inl rfl)
theorem adu:dk Tryz.prog 26 T26:=fI rfl rfl rfl rfl (.inl rfl)
theorem adv:dk Tryz.prog 28 T28:=fI rfl rfl rfl rfl (.inl rfl)
theorem adw:dk Tryz.prog 29 T29:=fI rfl rfl rfl rfl (.inl rfl)
theorem adx:dk Tryz.prog 32 T32:=fI rfl rfl rfl rfl (.inl rfl)
theorem ady:dk Tryz.prog 34 T34:=fI rfl rfl rfl rfl (.inl rfl)
theorem adz:dk Tryz.prog 37 T37:=fI rfl rfl rfl rfl (.inl rfl)
theorem adA:dk Tryz.prog 40 T40:=fI rfl rfl rfl rfl (.inl rfl)
theorem adB:dk Tryz.prog 42 T42:=fI rfl rfl rfl rfl (.inl rfl)
theorem adC:dk Tryz.prog 44 T44:=fI rfl rfl rfl rfl (.inl rfl)
theorem adD:dk Tryz.prog 47 T47:=fI rfl rfl rfl rfl (.inl rfl)
theorem adE:dk Tryz.prog 49 T49:=fI rfl rfl rfl rfl (.inl rfl)
theorem adF:dk Tryz.prog 50 T50:=fI rfl rfl rfl rfl (.inl rfl)
theorem adG:dk Tryz.prog 55 T55:=fI rfl rfl rfl rfl (.inl rfl)
theorem adH:dk Tryz.prog 56 T56:=fI rfl rfl rfl rfl (.inl rfl)
theorem adI:dk Tryz.prog 57 T57:=fI rfl rfl rfl rfl (.inl rfl)
theorem adJ:dk Tryz.prog 59 T59:=fI rfl rfl rfl rfl (.inl rfl)
theorem adK:dk Tryz.prog 60 T60:=fI rfl rfl rfl rfl (.inl rfl)
theorem adL:dk Tryz.prog 62 T62:=fI rfl rfl rfl rfl (.inl rfl)
theorem adM:dk Tryz.prog 63 T63:=fI rfl rfl rfl rfl (.inl rfl)
theorem adN:dk Tryz.prog 68 T68:=fI rfl rfl rfl rfl (.inl rfl)
theorem adO:dk Tryz.prog 69 T69:=fI rfl rfl rfl rfl (.inl rfl)
theorem adP:dk Tryz.prog 71 T71:=fI rfl rfl rfl rfl (.inl rfl)
theorem adQ:dk Tryz.prog 72 T72:=fI rfl rfl rfl rfl (.inl rfl)
theorem adR:dk Tryz.prog 74 T74:=fI rfl rfl rfl rfl (.inl rfl)
theorem adS:dk Tryz.prog 79 T79:=fI rfl rfl rfl rfl (.inl rfl)
theorem adT:dk Tryz.prog 81 T81:=fI rfl rfl rfl rfl (.inl rfl)
theorem adU:dk Tryz.prog 98 T98:=.n (by kernel_rfl) rfl (by kernel_rfl) rfl rfl (.inl rfl)
theorem abm:dk Tryz.prog 101 ae6:=.n (by kernel_rfl) rfl (by kernel_rfl) rfl rfl (.inl rfl)
theorem abn:dk Tryz.prog 111 ae7:=fI rfl rfl rfl rfl (.inl rfl)
theorem abo:dk Tryz.prog 119 ae8:=fI rfl rfl rfl rfl (.inl rfl)
theorem abp:dk Tryz.prog 120 ae9:=fI rfl rfl rfl rfl (.inl rfl)
theorem abq:dk Tryz.prog 122 afa:=fI rfl rfl rfl rfl (.inl rfl)
theorem abr:dk Tryz.prog 124 afb:=fI rfl rfl rfl rfl (.inl rfl)
theorem abs:dk Tryz.prog 137 afc:=fI rfl rfl rfl rfl (.inl rfl)
theorem abt:dk Tryz.prog 143 afd:=fI rfl rfl rfl rfl (.inl rfl)
theorem abu:dk Tryz.prog 147 afe:=fI rfl rfl rfl rfl (.inl rfl)
theorem akt:dk Tryz.prog 150 aff:=fI rfl rfl rfl rfl (.inl rfl)
theorem abw:dk Tryz.prog 160 afg:=fI rfl rfl rfl rfl (.inl rfl)
theorem abx:dk Tryz.prog 161 afh:=fI rfl rfl rfl rfl (.inl rfl)
theorem aby:dk Tryz.prog 173 afi:=.n (by kernel_rfl) rfl (by kernel_rfl) rfl rfl (.inl rfl)
theorem abz:dk Tryz.prog 176 afj:=.n (by kernel_rfl) rfl (by kernel_rfl) rfl rfl (.inl rfl)
theorem abA:dk Tryz.prog 177 afk:=.n (by kernel_rfl) rfl (by kernel_rfl) rfl rfl (.inl rfl)
theorem abB:dk Tryz.prog 179 afl:=.n (by kernel_rfl) rfl (by kernel_rfl) rfl rfl (.inl rfl)
theorem abC:dk Tryz.prog 182 afm:=.n (by kernel_rfl) rfl (by kernel_rfl) rfl rfl (.inl rfl)
theorem abD:dk Tryz.prog 216 afn:=fI rfl rfl rfl rfl (.inl rfl)
theorem abE:dk Tryz.prog 220 afo:=fI rfl rfl rfl rfl (.inl rfl)
theorem abF:dk Tryz.prog 230 afp:=.n (by kernel_rfl) rfl (by kernel_rfl) rfl rfl (.inl rfl)
theorem abG:dk Tryz.prog 232 afq:=.n (by kernel_rfl) rfl (by kernel_rfl) rfl rfl (.inl rfl)
theorem abH:dk Tryz.prog 239 afr:=.n (by kernel_rfl) rfl (by kernel_rfl) rfl rfl (.inl rfl)
theorem abI:dk Tryz.prog 241 afs:=.n (by kernel_rfl) rfl (by kernel_rfl) rfl rfl (.inl rfl)
theorem abJ:dk Tryz.prog 250 aft:=.n (by kernel_rfl) rfl (by kernel_rfl) rfl rfl (.inl rfl)
theorem abK:dk Tryz.prog 261 afu:=fI rfl rfl rfl rfl (.inl rfl)
theorem abL:dk Tryz.prog 301 afv:=fI rfl rfl rfl rfl (.inl rfl)
theorem abM:dk Tryz.prog 316 afw:=.n (by kernel_rfl) rfl (by kernel_rfl) rfl rfl (.inl rfl)
theorem abN:dk Tryz.prog 318 afx:=.n (by kernel_rfl) rfl (by kernel_rfl) rfl rfl (.inl rfl)
theorem abO:dk Tryz.prog 319 afy:=fI rfl rfl rfl rfl (.inl rfl)
theorem abP:dk Tryz.prog 329 afz:=.n (by kernel_rfl) rfl (by kernel_rfl) rfl rfl (.inl rfl)
theorem abQ:dk Tryz.prog 349 afA:=fI rfl rfl rfl rfl (.inl rfl)
theorem iX:EA Tryz.prog tt:=tc afB (tc afC (tc afD (tc afE (tc afF (tc ads (tc adt (tc adu (tc adv (tc adw (tc adx (tc ady (tc adz (tc adA (tc adB (tc adC (tc adD (tc adE (tc adF (tc adG (tc adH (tc adI (tc adJ (tc adK (tc adL (tc adM (tc adN (tc adO (tc adP (tc adQ (tc adR (tc adS (tc adT (tc adU (tc abm (tc abn (tc abo (tc abp (tc abq (tc abr (tc abs (tc abt (tc abu (tc akt (tc abw (tc abx (tc aby (tc abz (tc abA (tc abB (tc abC (tc abD (tc abE (tc abF (tc abG (tc abH (tc abI (tc abJ (tc abK (tc abL (tc abM (tc abN (tc abO (tc abP (tc abQ (t0)))))))))))))))))))))))))))))))))))))))))))))))))))))))))))))))))
theorem VK3:Hu Tryz.prog 3 (.data (.int .i64)):=⟨rfl,rfl,by decide,by kernel_rfl⟩
theorem afG:Hu Tryz.prog 232 U0:=⟨rfl,rfl,by decide,by kernel_rfl⟩
theorem Xd:Hu Tryz.prog 329 U1:=⟨rfl,rfl,by decide,by kernel_rfl⟩
theorem afH:Hu Tryz.prog 179 U6:=⟨rfl,rfl,by decide,by kernel_rfl⟩
theorem Z2:Hu Tryz.prog 239 (.gp 7 0):=⟨rfl,rfl,by decide,by kernel_rfl⟩
theorem afI:Hu Tryz.prog 241 U7:=⟨rfl,rfl,by decide,by kernel_rfl⟩
theorem afJ:Hu Tryz.prog 182 U11:=⟨rfl,rfl,by decide,by kernel_rfl⟩
theorem adV:Hu Tryz.prog 50 (.data (.int .i8)):=⟨rfl,rfl,by decide,by kernel_rfl⟩
theorem afK:Hu Tryz.prog 49 (.data Ck):=⟨rfl,rfl,by decide,by kernel_rfl⟩
theorem ahX:Hu Tryz.prog 98 (.gp 3 0):=⟨rfl,rfl,by decide,by kernel_rfl⟩
theorem afL:Hu Tryz.prog 250 U12:=⟨rfl,rfl,by decide,by kernel_rfl⟩
theorem mixed:Tryz.prog.follows .mixedOrders=true:=by kernel_rfl
def O55:uJ:=⟨[.sl Ck],Ck,fun x=>app 48 [] x⟩
def afM:uJ:=⟨[.sl (.int .i8)],(.int .i8),fun x=>app 1 [] x⟩
theorem adW:n5 Tryz.prog 55 O55:=mq (X:={ tt:=tt,calls:=[],owns:=[],loops:=[],cN:=[],nt:=8,fuel:=0 }) (fn:=Tryz.f55) (e0:=Ck) (eT:=Ck) mixed ⟨iX,c0,o0,s0,v0⟩ Tryz.func55 (by kernel_rfl) (by kernel_rfl) (by kernel_rfl) (by decide) fun x l h=>by
 have hb:af3 { tt:=tt,calls:=[],owns:=[],loops:=[],cN:=[],nt:=8,fuel:=0 } Tryz.f55 Ck [.v false [.sl Ck x .nn]]=(app 48 [] x).bind fun l=>some l:=by kernel_rfl
 refine⟨?_,fun hx=> ?_⟩
 ·rw[hb,h];rfl
 ·subst hx
  cases h
  kernel_rfl
theorem Xe:n5 Tryz.prog 146 afM:=mq (X:={ tt:=tt,calls:=[],owns:=[],loops:=[],cN:=[],nt:=8,fuel:=0 }) (fn:=Tryz.f146) (e0:=(.int .i8)) (eT:=(.int .i8)) mixed ⟨iX,c0,o0,s0,v0⟩ Tryz.func146 (by kernel_rfl) (by kernel_rfl) (by kernel_rfl) (by decide) fun x l h=>by
 have hb:af3 { tt:=tt,calls:=[],owns:=[],loops:=[],cN:=[],nt:=8,fuel:=0 } Tryz.f146 (.int .i8) [.v false [.sl (.int .i8) x .nn]]=(app 1 [] x).bind fun l=>some l:=by kernel_rfl
 refine⟨?_,fun hx=> ?_⟩
 ·rw[hb,h];rfl
 ·subst hx
  cases h
  kernel_rfl
abbrev aF(calls:List (FuncId×Entry))(owns:List (FuncId×uJ))(Vt:List (Nat×List (Nat×Ty)))(loops:List (Nat×LS))(cN:List (Nat×NS))(nt fuel:Nat):Cx:={ tt:=tt,calls:=calls,owns:=owns,Vt:=Vt,loops:=loops,cN:=cN,nt:=nt,fuel:=fuel }
abbrev aq:Type:=List Int
abbrev am:Ty:=.int .i64
abbrev aJ:SK:=.data am
abbrev dI8:SK:=.data (.int .i8)
abbrev YE:SK:=.data .bool
theorem bn{f:FuncId}{fn:Func}{ps rs:List Ty}{X:Cx}(hc:∀f E,bP f X.calls=some E→ar Tryz.prog f E)(hf:Tryz.prog.funcs[f]? =some fn)(h1:X.tt=tt:=by kernel_rfl)(ho:X.owns=[]:=by kernel_rfl)(hs:X.stats=[]:=by kernel_rfl)(hv:X.zF=[]:=by kernel_rfl)
  (hn:(fn.name== "runtime.NumGoroutine")=false:=by kernel_rfl) (hb:fn.body.isNone=false:=by kernel_rfl) (hnr:rs.all Ty.bH=true:=by kernel_rfl):ar Tryz.prog f ⟨ps,rs,ao X fn ps rs⟩:=
 mr mixed ⟨by rw[h1];exact iX,hc,by rw[ho];exact o0,by rw[hs];exact s0,by rw[hv];exact v0⟩ hf hn hb hnr
end Go.Am
