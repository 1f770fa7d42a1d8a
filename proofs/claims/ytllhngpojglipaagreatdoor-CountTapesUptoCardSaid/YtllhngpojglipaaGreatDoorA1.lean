import Derived.WalkKit
set_option linter.unusedVariables false
set_option linter.unusedSimpArgs false
open List renaming length→ae,replicate→ao
open Nat renaming add_mul→cJ,beq→bU,le_trans→eA,lt_of_lt_of_le→ca
namespace Go.Am
inductive Ty where
 |bool |int (k:IntKind)|str |sl (e:Ty)|pair (a b:Ty)|unit |ref (a:Ty)|fn (f:FuncId)|cl (f:FuncId) (a:Ty)
 deriving DecidableEq
def Ty.den:Ty→Type
 |.bool=>Bool
 |.int _=>Int
 |.str=>List UInt8
 |.sl e=>List e.den
 |.pair a b=>a.den×b.den
 |.unit=>Unit
 |.ref a=>a.den
 |.fn _=>Unit
 |.cl _ a=>a.den
def Ty.size:Ty→Nat
 |.pair a b=>a.size+b.size
 |.unit=>0
 |_=>1
def Ty.isAgg:Ty→Bool
 |.pair _ _ |.unit=>true
 |_=>false
def Ty.zero:(τ:Ty)→τ.den
 |.bool=>false
 |.int _=>(0:Int)
 |.str=>([]:List UInt8)
 |.sl _=>[]
 |.pair a b=>(a.zero,b.zero)
 |.unit=>()
 |.ref a=>a.zero
 |.fn _=>()
 |.cl _ a=>a.zero
def lO:List Ty→Ty
 |[]=> .unit
 |[a]=>a
 |a::b::r=> .pair a (lO (b::r))
def azI:List Ty→Ty
 |[]=> .unit
 |[a]=> .pair a .unit
 |a::b::r=> .pair a (lO (b::r))
inductive VT where
 |data (τ:Ty)|gp (c off:Nat)|gs (c:Nat)|gm (c:Nat)|pair (a b:VT)|unit
 deriving DecidableEq
def VT.den:VT→Type
 |.data τ=>τ.den
 |.gp _ _=>Option Nat
 |.gs _=>Option (Nat×Nat×Nat)
 |.gm _=>Option Nat
 |.pair a b=>a.den×b.den
 |.unit=>Unit
def VT.size:VT→Nat
 |.data τ=>τ.size
 |.pair a b=>a.size+b.size
 |.unit=>0
 |_=>1
def VT.isAgg:VT→Bool
 |.data τ=>τ.isAgg
 |.pair _ _ |.unit=>true
 |_=>false
def VT.zero:(V:VT)→V.den
 |.data τ=>τ.zero
 |.gp _ _=>(none:Option Nat)
 |.gs _=>(none:Option (Nat×Nat×Nat))
 |.gm _=>(none:Option Nat)
 |.pair a b=>(a.zero,b.zero)
 |.unit=>()
def Ck:List VT→VT
 |[]=> .unit
 |[a]=>a
 |a::b::r=> .pair a (Ck (b::r))
inductive GK where
 |st (V:VT)|bf (V:VT)|mp (k:Ty) (V:VT)
 deriving DecidableEq
def GK.xZ:GK→Type
 |.st V=>V.den
 |.bf V=>List V.den
 |.mp k V=>List (k.den×V.den)
inductive Tok where
 |no |nn |nl |own (o:Nat)
inductive C where
 |undef
 |bool (b:Bool)
 |int (k:IntKind) (n:Int)
 |str (s:List UInt8)
 |sl (e:Ty) (l:List e.den) (t:Tok)
 |nils
 |vec (o:Nat)
 |ptr (o off:Nat)
 |afO (o i c:Nat)
 |ar4 (o off len i:Nat)
 |JR (a:Ty) (x:a.den) (c:Nat)
 |clos (f:FuncId) (caps:List Nat)
 |nilfn
 |nilp
 |mp (o:Nat)
 |E4 (f:FuncId) (a:Ty) (x:a.den)
 |gp (c off:Nat) (x:Option Nat)
 |gs (c:Nat) (x:Option (Nat×Nat×Nat))
 |ge (c id ix off:Nat)
 |gm (c:Nat) (x:Option Nat)
inductive A where
 |v (agg:Bool) (cs:List C)
 |lO (ps:List (Bool×List C))
def aJ:A:=.v false [.undef]
def Cs:A:=.lO []
inductive Ob where
 |dead
 |tok
 |cells (cs:List C)
 |row (e:Ty) (l:List e.den)
 |x4 (e:Ty) (l:List e.den)
 |map (k v:Ty) (l:List (k.den×v.den))
 |gh (wr:Bool) (K:GK) (H:List (Option K.xZ))
def Ty.cells:(τ:Ty)→τ.den→List C
 |.bool,b=>[.bool b]
 |.int k,n=>[.int k n]
 |.str,s=>[.str s]
 |.sl e,l=>[.sl e l .no]
 |.pair a b,x=>a.cells x.1++b.cells x.2
 |.unit,_=>[]
 |.ref a,x=>[.JR a x 0]
 |.fn f,_=>[.clos f []]
 |.cl f a,x=>[.E4 f a x]
def Ty.mw:Ty→List C
 |.bool=>[.bool false]
 |.int k=>[.int k 0]
 |.str=>[.str []]
 |.sl _=>[.nils]
 |.pair a b=>a.mw++b.mw
 |.unit=>[]
 |.ref _=>[.nilp]
 |.fn _=>[.nilfn]
 |.cl _ _=>[.nilfn]
def rY(a b:Ty)(l:List a.den):Option (List b.den):=
 match decEq a b with
 |.isTrue h=>some (h▸l)
 |.isFalse _=>none
def sT(a b:Ty)(x:a.den):Option b.den:=
 match decEq a b with
 |.isTrue h=>some (h▸x)
 |.isFalse _=>none
def Ty.take:(τ:Ty)→List C→Option (τ.den×List C)
 |.bool,.bool b::r=>some (b,r)
 |.int k,.int k' n::r=>match decEq k k' with |.isTrue _=>some (n,r)|.isFalse _=>none
 |.str,.str s::r=>some (s,r)
 |.sl e,.sl e' l _::r=>match rY e' e l with |some l=>some (l,r)|none=>none
 |.sl _,.nils::r=>some ([],r)
 |.pair a b,cs=>match a.take cs with
  |some (x,r)=>match b.take r with
   |some (y,r')=>some ((x,y),r')
   |none=>none
  |none=>none
 |.unit,cs=>some ((),cs)
 |.ref a,.JR a' x 0::r=>match sT a' a x with |some x=>some (x,r)|none=>none
 |.fn f,.clos g []::r=>match decEq f g with |.isTrue _=>some ((),r)|.isFalse _=>none
 |.cl f a,.E4 g a' x::r=>match decEq f g with |.isTrue _=>(match sT a' a x with |some x=>some (x,r)|none=>none)|.isFalse _=>none
 |_,_=>none
def Ty.dG(τ:Ty)(cs:List C):Option τ.den:=
 match τ.take cs with
 |some (x,[])=>some x
 |_=>none
def VT.cells:(V:VT)→V.den→List C
 |.data τ,x=>τ.cells x
 |.gp c off,x=>[.gp c off x]
 |.gs c,x=>[.gs c x]
 |.gm c,x=>[.gm c x]
 |.pair a b,x=>a.cells x.1++b.cells x.2
 |.unit,_=>[]
def VT.mw:VT→List C
 |.data τ=>τ.mw
 |.gp _ _=>[.nilp]
 |.gs _=>[.nils]
 |.gm c=>[.gm c none]
 |.pair a b=>a.mw++b.mw
 |.unit=>[]
def VT.take:(V:VT)→List C→Option (V.den×List C)
 |.data τ,cs=>τ.take cs
 |.gp c off,.gp c' off' x::r=>match bU c c'&&bU off off' with |true=>some (x,r)|false=>none
 |.gp _ _,.nilp::r=>some (none,r)
 |.gs c,.gs c' x::r=>match bU c c' with |true=>some (x,r)|false=>none
 |.gs _,.nils::r=>some (none,r)
 |.gm c,.gm c' x::r=>match bU c c' with |true=>some (x,r)|false=>none
 |.pair a b,cs=>match a.take cs with
  |some (x,r)=>match b.take r with
   |some (y,r')=>some ((x,y),r')
   |none=>none
  |none=>none
 |.unit,cs=>some ((),cs)
 |_,_=>none
def VT.dG(V:VT)(cs:List C):Option V.den:=
 match V.take cs with
 |some (x,[])=>some x
 |_=>none
def pu(K K':GK)(H:List (Option K.xZ)):Option (List (Option K'.xZ)):=
 match decEq K K' with
 |.isTrue h=>some (h▸H)
 |.isFalse _=>none
def av{R:Type}(b:Bool)(x y:Option R):Option R:=match b with |true=>x |false=>y
def idx{α:Type}(l:List α)(i:Int):Option α:=if 0≤i then l[i.toNat]? else none
def ck(i:Int)(n:Nat):Option Nat:=if 0≤i∧i<n then some i.toNat else none
def qt(k:IntKind)(a b:Int):Option Int:=if b=0 then none else some (k.wrap (a.tdiv b))
def rm(a b:Int):Option Int:=if b=0 then none else some (a.tmod b)
def qG(k:IntKind)(a b:Int):Option Int:=if b<0 then none else some (k.wrap (a*2^(min b.toNat k.bits)))
def vm(k:IntKind)(a b:Int):Option Int:=if b<0 then none else some (a.fdiv (2^(min b.toNat k.bits)))
def sU(op:BinOp)(k:IntKind)(x y:Int):Int:=
 let a:=BitVec.ofInt k.bits x
 let b:=BitVec.ofInt k.bits y
 k.wrap (match op with |.and=>(a &&& b).toNat |.or=>(a ||| b).toNat |.xor=>(a ^^^ b).toNat |_=>(a &&& ~~~b).toNat)
def room:Nat:=140737488355328
def Cl(bytes:Nat)(n:Int):Option Nat:=if 0≤n∧n.toNat*bytes≤room∧n≤140737488355328 then some n.toNat else none
def app{α:Type}(bytes:Nat)(l m:List α):Option (List α):=if(l.length+m.length)*bytes≤room∧l.length+m.length≤room then some (l++m)else none
def slc{α:Type}(l:List α)(lo hi:Int):Option (List α):=if 0≤lo∧lo≤hi∧hi≤l.length then some ((l.take hi.toNat).drop lo.toNat)else none
def cat(s t:List UInt8):Option (List UInt8):=if s.length+t.length≤2^62 then some (s++t)else none
def GJ(s:List UInt8)(i:Int):Option Int:=if 0≤i then(s[i.toNat]?).map (fun b=>(b.toNat:Int))else none
def bytesOf(l:List Int):List UInt8:=l.map fun n=>UInt8.ofNat n.toNat
def imax(x y:Int):Int:=if y>x then y else x
def x5(x y:Int):Int:=if y<x then y else x
def JG{α β:Type}(eq:α→α→Bool):List (α×β)→α→Option β
 |[],_=>none
 |p::r,k=>match eq k p.1 with
  |true=>some p.2
  |false=>JG eq r k
def PA{α β:Type}(eq:α→α→Bool):List (α×β)→α→β→List (α×β)
 |[],k,v=>[(k,v)]
 |p::r,k,v=>match eq k p.1 with
  |true=>(k,v)::r
  |false=>p::PA eq r k v
def nth{α:Type}(l:List α)(i:Nat):Option α:=l[i]?
def eR{α:Type}(H:List (Option α))(x:α):List (Option α):=H++[some x]
def fP{α:Type}(H:List (Option α))(i:Nat):Option α:=match H[i]? with |some (some x)=>some x |_=>none
def vn{α:Type}(H:List (Option α))(i:Nat)(x:α):Option (List (Option α)):=match H[i]? with |some (some _)=>some (H.set i (some x))|_=>none
def sP{α:Type}(H:List (Option (List α)))(x:Option (Nat×Nat×Nat)):Option (List α):=
 match x with
 |none=>some []
 |some (i,a,n)=>match fP H i with
  |some l=>if a+n≤l.length then some ((l.drop a).take n)else none
  |none=>none
def gsF{α:Type}(H:List (Option (List α)))(x:Option (Nat×Nat×Nat)):Option (List α×List (Option (List α))):=
 match x with
 |none=>some ([],H)
 |some (i,a,n)=>match sP H (some (i,a,n))with
  |some l=>some (l,H.set i none)
  |none=>none
def gad{α:Type}(H:List (Option (List α)))(l:List α):Option (List (Option (List α))×Option (Nat×Nat×Nat)):=
 match l with
 |[]=>none
 |y::m=>some (eR H (y::m),some (H.length,0,(y::m).length))
def gsN(x:Option (Nat×Nat×Nat)):Int:=match x with |none=>0 |some (_,_,n)=>n
def gsS(x:Option (Nat×Nat×Nat))(lo hi:Int):Option (Option (Nat×Nat×Nat)):=
 match x with
 |none=>if lo=0∧hi=0 then some none else none
 |some (i,a,n)=>if 0≤lo∧lo≤hi∧hi≤n then some (some (i,a+lo.toNat,(hi -lo).toNat))else none
def gsA{α:Type}(bytes:Nat)(H:List (Option (List α)))(x:Option (Nat×Nat×Nat))(m:List α):Option (List (Option (List α))×Option (Nat×Nat×Nat)):=
 match x with
 |none=>match m with
  |[]=>some (H,none)
  |y::m=>match app bytes [] (y::m)with
   |some l=>some (eR H l,some (H.length,0,l.length))
   |none=>none
 |some (i,a,n)=>match sP H (some (i,a,n))with
  |some l=>match app bytes l m with
   |some l=>some (eR (H.set i none) l,some (H.length,0,l.length))
   |none=>none
  |none=>none
inductive HM:Type 1 where
 |ret (a:A)
 |fail
 |get (o:Nat) (k:Ob→HM)
 |set (o:Nat) (x:Ob) (k:HM)
 |opt {β:Type} (x:Option β) (k:β→HM)
 |br (b:Bool) (x y:HM)
abbrev Log:=List (Nat×Bool)
abbrev bg:=List (Nat×Ob)
abbrev Env:=List (Nat×A)
def look{α:Type}(d:α)(t:Nat):List (Nat×α)→α
 |[]=>d
 |(u,x)::r=>match bU u t with |true=>x |false=>look d t r
def HM.run{R:Type}(next:Nat):HM→bg→Log→(A→bg→Log→Option R)→Option R
 |.ret a,h,L,K=>K a h L
 |.fail,_,_,_=>none
 |.get o k,h,L,K=>(k (look .dead o h)).run next h ((o,false)::L) K
 |.set o x k,h,L,K=>match Nat.blt o next with
  |true=>k.run next ((o,x)::h) ((o,true)::L) K
  |false=>none
 |.opt x k,h,L,K=>x.bind fun b=>(k b).run next h L K
 |.br b x y,h,L,K=>av b (x.run next h L K) (y.run next h L K)
inductive TK where
 |bool |int (k:IntKind)|str |slice (e:TypeId)|struct (fs:List (TypeId×Nat))|array (n:Nat) (e:TypeId)|map (k v:TypeId)|ptr (e:TypeId)|other
def Ct:TypeDesc→TK
 |.bool=> .bool
 |.int k=> .int k
 |.string=> .str
 |.slice e=> .slice e
 |.struct fs=> .struct (fs.toList.map fun f=>(f.type,f.offset))
 |.array n e=> .array n e
 |.map k v=> .map k v
 |.pointer e=> .ptr e
 |_=> .other
def aqJ:TK→Bool
 |.struct _ |.array _ _=>true
 |_=>false
structure TD where
 desc:TK
 size:Nat
 bytes:Nat
 agg:Bool
 ty:Option Ty
 zero:Bool
 eq:List Ty
structure Entry where
 ps:List Ty
 rs:List Ty
 F:(lO ps).den→Option (lO rs).den
structure D7 where
 ps:List Ty
 e:Ty
 F:(lO ps).den→Option (List e.den)
def gU:List (Nat×GK)→Type
 |[]=>Unit
 |k::r=>List (Option k.2.xZ)×gU r
structure x6 where
 ps:List VT
 rs:List VT
 ws:List (Nat×GK)
 os:List (Nat×GK)
 F:(Ck ps).den→gU ws→gU os→Option ((Ck rs).den×gU ws)
inductive CK where
 |data (τ:Ty)|own (e:Ty)|fix (c:C)
inductive SK where
 |data (τ:Ty)|own (e:Ty)|fix (a:A)|box (l:List CK)|ref (a:Ty)|vt (V:VT)|cl (f:FuncId) (a:Ty)
inductive OK where
 |row (e:Ty)|x4 (e:Ty)|cells (l:List CK)|map (k v:Ty)|gh (wr:Bool) (K:GK)|obj (τ:Ty)
structure NS where
 slots:List (Nat×SK)
 obs:List (Nat×OK)
 next:Nat
inductive Ex where
 |normal |ret |exit (id:Nat)
structure LS where
 vin:NS
 outs:List (Ex×NS)
structure Cx where
 tt:List (TypeId×TD)
 calls:List (FuncId×Entry)
 owns:List (FuncId×D7)
 stats:List (FuncId×x6):=[]
 UX:List (TypeId×VT):=[]
 mks:List (TypeId×Nat):=[]
 aks:List (TypeId×Nat):=[]
 ar5:List (FuncId×Nat):=[]
 loc:List (Nat×GK):=[]
 nc:Nat:=0
 tail:Bool:=false
 loops:List (Nat×LS)
 im:List (Nat×NS)
 axq:List (Nat×NS):=[]
 ljs:List (Nat×List (Nat×Ty)):=[]
 lcs:List (Nat×List (Nat×Ty)×Nat):=[]
 nt:Nat
 fuel:Nat
def cZ{α:Type}(t:Nat):List (Nat×α)→Option α
 |[]=>none
 |(u,x)::r=>match bU u t with |true=>some x |false=>cZ t r
def p5(mark:Bool)(c:C)(k:C→HM):HM:=
 match c with
 |.vec o=> .get o fun
  |.row e l=>match mark with
   |true=> .set o (.x4 e l) (k (.sl e l .no))
   |false=>k (.sl e l .no)
  |.x4 e l=>k (.sl e l .no)
  |_=> .fail
 |.sl e l _=>k (.sl e l .no)
 |c=>k c
def jM(mark:Bool):List C→(List C→HM)→HM
 |[],k=>k []
 |c::r,k=>p5 mark c fun c'=>jM mark r fun r'=>k (c'::r')
def Ty.flat:Ty→Bool
 |.bool |.int _ |.str |.unit |.fn _=>true
 |.pair a b=>a.flat&&b.flat
 |_=>false
def Ty.isKey:Ty→Bool
 |.bool |.int _ |.str |.unit=>true
 |.pair a b=>a.isKey&&b.isKey
 |_=>false
def Ty.UY(k:IntKind):Ty→Bool
 |.int q=>match decEq k q with
  |.isTrue _=>true
  |.isFalse _=>false
 |.unit=>true
 |.pair a b=>a.UY k&&b.UY k
 |_=>false
def Ty.JS:(τ:Ty)→τ.den→τ.den→Bool
 |.bool,a,b=>(show Bool from a)==(show Bool from b)
 |.int _,a,b=>(show Int from a)==(show Int from b)
 |.str,a,b=>(show List UInt8 from a)==(show List UInt8 from b)
 |.pair a b,x,y=>a.JS x.1 y.1&&b.JS x.2 y.2
 |_,_,_=>true
def Ty.cI:Ty→Bool
 |.ref _=>false
 |.cl _ _=>false
 |.pair a b=>a.cI&&b.cI
 |.sl e=>e.cI
 |_=>true
def A.cellsOf:A→Option (List C)
 |.v _ cs=>some cs
 |.lO _=>none
def auL(mark:Bool):(a:Ty)→List Nat→(a.den→HM)→HM
 |.unit,[],k=>k ()
 |.pair (.ref σ) r,o::ids,k=>match σ.cI with
  |true=> .get o fun
   |.cells cs=>jM mark (cs.take σ.size) fun cs=>match σ.dG cs with
    |some x=>auL mark r ids fun y=>k (x,y)
    |none=> .fail
   |_=> .fail
  |false=> .fail
 |_,_,_=> .fail
def atM(a:C)(k:List C→HM):HM:=
 match a with
 |.gp c off x=> .opt x fun id=> .get c fun
  |.gh _ (.st V) H=> .opt (fP (α:=V.den) H id) fun y=>k ((V.cells y).drop off)
  |_=> .fail
 |.ge c id ix off=> .get c fun
  |.gh _ (.bf V) H=> .opt (fP (α:=List V.den) H id) fun l=> .opt (nth (α:=V.den) l ix) fun y=>k ((V.cells y).drop off)
  |_=> .fail
 |_=> .fail
def QR(σ:Ty)(c:Nat)(x:Option (Nat×Nat×Nat))(k:List σ.den→HM):HM:=
 .get c fun
  |.gh _ K H=>match pu K (.bf (.data σ)) H,σ.cI with
   |some H,true=> .opt (sP H x) k
   |_,_=> .fail
  |_=> .fail
def apP(σ:Ty)(c:Nat)(x:Option (Nat×Nat×Nat))(k:List σ.den→HM):HM:=
 .get c fun
  |.gh true K H=>match pu K (.bf (.data σ)) H,σ.cI with
   |some H,true=> .opt (gsF H x) fun r=> .set c (.gh true (.bf (.data σ)) r.2) (k r.1)
   |_,_=> .fail
  |_=> .fail
def aqK(mark:Bool)(τ:Ty)(a:A)(k:τ.den→HM):HM:=
 match τ,a with
 |.ref σ,.v false [.ptr o off]=>match σ.cI with
  |true=> .get o fun
   |.cells cs=>jM mark ((cs.drop off).take σ.size) fun cs=>match σ.dG cs with
    |some x=>k x
    |none=> .fail
   |_=> .fail
  |false=> .fail
 |.ref σ,.v false [.JR a' x c]=>match σ.cI with
  |true=>match σ.dG (((a'.cells x).drop c).take σ.size)with
   |some x=>k x
   |none=> .fail
  |false=> .fail
 |.ref σ,.v false [.gp c off x]=>match σ.cI&& !mark with
  |true=>atM (.gp c off x) fun cs=>match σ.dG (cs.take σ.size)with
   |some x=>k x
   |none=> .fail
  |false=> .fail
 |.ref σ,.v false [.ge c id ix off]=>match σ.cI&& !mark with
  |true=>atM (.ge c id ix off) fun cs=>match σ.dG (cs.take σ.size)with
   |some x=>k x
   |none=> .fail
  |false=> .fail
 |.sl σ,.v false [.gs c x]=>match mark with
  |false=>QR σ c x k
  |true=>apP σ c x k
 |.cl f a,.v false [.clos f' ids]=>match decEq f f' with
  |.isTrue _=>auL mark a ids k
  |.isFalse _=> .fail
 |.cl f a,.v false [.E4 f' a' x]=>match decEq f f' with
  |.isTrue _=>(match sT a' a x with
   |some x=>k x
   |none=> .fail)
  |.isFalse _=> .fail
 |τ,.v g cs=>match g==τ.isAgg&&τ.cI with
  |true=>jM mark cs fun cs=>match τ.dG cs with
   |some x=>k x
   |none=> .fail
  |false=> .fail
 |_,.lO _=> .fail
def ale(mark:Bool):(ps:List Ty)→List A→((lO ps).den→HM)→HM
 |[],[],k=>k ()
 |[τ],[a],k=>aqK mark τ a k
 |τ::σ::r,a::as,k=>aqK mark τ a fun x=>ale mark (σ::r) as fun y=>k (x,y)
 |_,_,_=> .fail
def YV(τ:Ty)(x:τ.den):A:=.v τ.isAgg (τ.cells x)
def GM:(ps:List Ty)→(lO ps).den→List A
 |[],_=>[]
 |[τ],x=>[YV τ x]
 |τ::σ::r,x=>YV τ x.1::GM (σ::r) x.2
def azK(τ:Ty)(x:τ.den):Bool×List C:=(τ.isAgg,τ.cells x)
def ar6:(ps:List Ty)→(lO ps).den→List (Bool×List C)
 |[],_=>[]
 |[τ],x=>[azK τ x]
 |τ::σ::r,x=>azK τ x.1::ar6 (σ::r) x.2
def ar7(rs:List Ty)(x:(lO rs).den):A:=
 match rs,x with
 |[τ],x=>YV τ x
 |rs,x=> .lO (ar6 rs x)
def awP(ids:List Nat):List A:=ids.map fun o=> .v false [.ptr o 0]
def an3:Ty→Bool
 |.unit=>true
 |.pair (.ref _) r=>an3 r
 |_=>false
def ar8:(a:Ty)→a.den→List A
 |.pair (.ref σ) r,x=> .v false [.JR σ x.1 0]::ar8 r x.2
 |_,_=>[]
def VT.ok:VT→Bool
 |.data τ=>τ.cI
 |.pair a b=>a.ok&&b.ok
 |_=>true
def GK.ok:GK→Bool
 |.st V=>V.ok
 |.bf V=>V.ok
 |.mp _ V=>V.ok
def apQ(mark:Bool)(V:VT)(a:A)(k:V.den→HM):HM:=
 match V,a with
 |.data τ,a=>aqK mark τ a k
 |V,.v g cs=>match g==V.isAgg&&V.ok with
  |true=>jM mark cs fun cs=>match V.dG cs with
   |some x=>k x
   |none=> .fail
  |false=> .fail
 |_,.lO _=> .fail
def an4(mark:Bool):(ps:List VT)→List A→((Ck ps).den→HM)→HM
 |[],[],k=>k ()
 |[τ],[a],k=>apQ mark τ a k
 |τ::σ::r,a::as,k=>apQ mark τ a fun x=>an4 mark (σ::r) as fun y=>k (x,y)
 |_,_,_=> .fail
def E5(V:VT)(x:V.den):A:=.v V.isAgg (V.cells x)
def Ad:(ps:List VT)→(Ck ps).den→List A
 |[],_=>[]
 |[τ],x=>[E5 τ x]
 |τ::σ::r,x=>E5 τ x.1::Ad (σ::r) x.2
def ab2:(ps:List VT)→(Ck ps).den→List (Bool×List C)
 |[],_=>[]
 |[τ],x=>[(τ.isAgg,τ.cells x)]
 |τ::σ::r,x=>(τ.isAgg,τ.cells x.1)::ab2 (σ::r) x.2
def MJ(rs:List VT)(x:(Ck rs).den):A:=
 match rs,x with
 |[τ],x=>E5 τ x
 |rs,x=> .lO (ab2 rs x)
def auM(wr:Bool):(l:List (Nat×GK))→(gU l→HM)→HM
 |[],k=>k ()
 |(c,K)::r,k=> .get c fun
  |.gh wr' K' H=>match pu K' K H,(!wr||wr')with
   |some H,true=>auM wr r fun y=>k (H,y)
   |_,_=> .fail
  |_=> .fail
def an5:(l:List (Nat×GK))→gU l→HM→HM
 |[],_,k=>k
 |(c,K)::r,x,k=> .set c (.gh true K x.1) (an5 r x.2 k)
def QS(l:List Nat):Bool:=match l with
 |[]=>true
 |c::r=> !(r.contains c)&&QS r
def awQ(E:x6)(as:List A):HM:=
 match QS ((E.ws++E.os).map (·.1))with
 |true=>an4 true E.ps as fun x=>auM true E.ws fun hs=>auM false E.os fun os=>
  .opt (E.F x hs os) fun r=>an5 E.ws r.2 (.ret (MJ E.rs r.1))
 |false=> .fail
def alf(X:Cx)(new:Nat)(f:FuncId)(as:List A):HM:=
 match cZ f X.owns with
 |some E=>match cZ f X.ar5 with
  |none=>ale (!E.e.flat) E.ps as fun x=> .opt (E.F x) fun l=> .set new .tok (.ret (.v false [.sl E.e l (.own new)]))
  |some c=>match E.e.flat&&Nat.blt 0 E.e.size with
   |true=>ale false E.ps as fun x=> .opt (E.F x) fun l=> .get c fun
    |.gh true K H=>match pu K (.bf (.data E.e)) H with
     |some H=> .opt (gad (α:=E.e.den) H l) fun r=> .set c (.gh true (.bf (.data E.e)) r.1) (.ret (.v false [.gs c r.2]))
     |none=> .fail
    |_=> .fail
   |false=> .fail
 |none=>match cZ f X.calls with
  |some E=>ale (!(E.rs.all Ty.flat)) E.ps as fun x=> .opt (E.F x) fun r=> .ret (ar7 E.rs r)
  |none=>match cZ f X.stats with
   |some E=>awQ E as
   |none=> .fail
def ar9:Value→A
 |.bool b=> .v false [.bool b]
 |.int k n=> .v false [.int k n]
 |.string s=> .v false [.str s.data.toList]
 |.slice none 0 0=> .v false [.nils]
 |.nilFunc=> .v false [.nilfn]
 |.pointer none=> .v false [.nilp]
 |_=>aJ
def D8(env:Env):Operand→A
 |.tmp t=>look aJ t env
 |.const v=>ar9 v
 |.global _=>aJ
 |.func f=> .v false [.clos f []]
def Cm(k:IntKind)(n:Int):HM:=.ret (.v false [.int k n])
def y9(b:Bool):HM:=.ret (.v false [.bool b])
def pp(c:C):HM:=.ret (.v false [c])
def QT:List UInt8→List UInt8→Bool:=Op.bytesLess
def YW(op:BinOp)(x y:A):HM:=
 match x,y with
 |.v false [.int k a],.v false [.int k' b]=>
  match op with
  |.shl=> .opt (qG k a b) (Cm k)
  |.shr=> .opt (vm k a b) (Cm k)
  |op=>match decEq k k' with
   |.isFalse _=> .fail
   |.isTrue _=>match op with
    |.add=>Cm k (k.wrap (a+b))
    |.sub=>Cm k (k.wrap (a -b))
    |.mul=>Cm k (k.wrap (a*b))
    |.quo=> .opt (qt k a b) (Cm k)
    |.rem=> .opt (rm a b) (Cm k)
    |.eql=>y9 (a==b)
    |.neq=>y9 (a !=b)
    |.lss=>y9 (decide (a<b))
    |.leq=>y9 (decide (a≤b))
    |.gtr=>y9 (decide (a>b))
    |.geq=>y9 (decide (a≥b))
    |op=>Cm k (sU op k a b)
 |.v false [.str a],.v false [.str b]=>
  match op with
  |.add=> .opt (cat a b) fun s=>pp (.str s)
  |.eql=>y9 (a==b)
  |.neq=>y9 (!(a==b))
  |.lss=>y9 (QT a b)
  |.leq=>y9 (QT a b||a==b)
  |.gtr=>y9 (!(QT a b||a==b))
  |.geq=>y9 (!(QT a b))
  |_=> .fail
 |.v false [.bool a],.v false [.bool b]=>
  match op with
  |.eql=>y9 (a==b)
  |.neq=>y9 (!(a==b))
  |_=> .fail
 |_,_=> .fail
def unA(op:UnOp)(x:A):HM:=
 match op,x with
 |.neg,.v false [.int k a]=>Cm k (k.wrap (0 -a))
 |.xor,.v false [.int k a]=>Cm k (sU .xor k (if k.signed then -1 else k.max) a)
 |.not,.v false [.bool b]=>y9 (!b)
 |_,_=> .fail
def eqC(τ:Ty):C→C→Option Bool
 |.int k a,.int k' b=>match τ with
  |.int q=>match decEq k q,decEq k' q with
   |.isTrue _,.isTrue _=>some (a==b)
   |_,_=>none
  |_=>none
 |.bool a,.bool b=>match τ with
  |.bool=>some (a==b)
  |_=>none
 |.str a,.str b=>match τ with
  |.str=>some (a==b)
  |_=>none
 |_,_=>none
def auN:List Ty→List C→List C→Option Bool
 |[],[],[]=>some true
 |τ::τs,c::cs,d::ds=>match eqC τ c d,auN τs cs ds with
  |some a,some b=>some (a&&b)
  |_,_=>none
 |_,_,_=>none
def eqA(op:BinOp)(d:TD)(cs:List C)(y:A):HM:=
 match d.eq,y with
 |τ::τs,.v true ds=>match auN (τ::τs) cs ds with
  |some b=>match op with
   |.eql=>y9 b
   |.neq=>y9 (!b)
   |_=> .fail
  |none=> .fail
 |_,_=> .fail
def axr(op:BinOp)(d:TD)(t:Tok)(y:A):HM:=
 match d.desc,y with
 |.slice _,.v false [.nils]=>match t,op with
  |.nn,.eql=>y9 false
  |.nn,.neq=>y9 true
  |.nl,.eql=>y9 true
  |.nl,.neq=>y9 false
  |_,_=> .fail
 |_,_=> .fail
def UZ(sl:Bool)(op:BinOp)(d:TD)(nil:Bool)(y:A):HM:=
 match sl,d.desc,y with
 |true,.slice _,.v false [.nils]=>go
 |false,.ptr _,.v false [.nilp]=>go
 |_,_,_=> .fail
where go:HM:=match op with
 |.eql=>y9 nil
 |.neq=>y9 (!nil)
 |_=> .fail
def C.known:C→Bool
 |.undef=>false
 |_=>true
def xi(cs:List C)(off:Nat)(new:List C):List C:=cs.take off++new++cs.drop (off+new.length)
def QU(place:Nat→Option (Nat×Nat)):List C→List (Nat×A)→Option (List C)
 |cs,[]=>some cs
 |cs,(i,.v _ new)::r=>match place i with
  |some (off,size)=>match bU new.length size&&Nat.ble (off+size) cs.length&&new.all C.known with
   |true=>QU place (xi cs off new) r
   |false=>none
  |none=>none
 |_,(_,.lO _)::_=>none
def vo{α β:Type}(f:α→Option β):List α→Option (List β)
 |[]=>some []
 |a::r=>match f a with
  |some b=>match vo f r with
   |some bs=>some (b::bs)
   |none=>none
  |none=>none
def ab3(τ:Ty):Nat→List (Nat×A)→(List τ.den→HM)→HM
 |_,[],k=>k []
 |n,(i,.v g cs)::r,k=>match bU i n&&(g==τ.isAgg)&&cs.all C.known with
  |true=>jM true cs fun cs=>match τ.dG cs with
   |some x=>ab3 τ (n+1) r fun l=>k (x::l)
   |none=> .fail
  |false=> .fail
 |_,(_,.lO _)::_,_=> .fail
def sub(off size:Nat)(cs:List C):Option (List C):=
 match Nat.ble (off+size) cs.length with
 |true=>some ((cs.drop off).take size)
 |false=>none
def partOf(agg:Bool)(size off:Nat)(cs:List C)(k:A→HM):HM:=
 match sub off size cs with
 |some cs=>match agg,cs with
  |true,cs=>k (.v true cs)
  |false,[c]=>k (.v false [c])
  |_,_=> .fail
 |none=> .fail
def ab4(k:IntKind):List C→Option (List Int)
 |[]=>some []
 |.int k' n::r=>match decEq k k' with
  |.isTrue _=>match ab4 k r with
   |some l=>some (n::l)
   |none=>none
  |.isFalse _=>none
 |_=>none
def ab5(d:TD)(a:A):HM:=
 match a with
 |.v false [.ptr o off]=> .get o fun
  |.cells cs=>partOf d.agg d.size off cs .ret
  |_=> .fail
 |.v false [.JR τ x c]=>partOf d.agg d.size c (τ.cells x) .ret
 |.v false [.afO o i c]=> .get o fun
  |.row e l=> .opt (l[i]?) fun x=>partOf d.agg d.size c (e.cells x) .ret
  |.x4 e l=> .opt (l[i]?) fun x=>partOf d.agg d.size c (e.cells x) .ret
  |_=> .fail
 |.v false [.ar4 o off len i]=>match d.desc with
  |.int k=> .get o fun
   |.cells cs=>match sub off len cs with
    |some cs=>match ab4 k cs with
     |some l=> .opt (l[i]?) (Cm k)
     |none=> .fail
    |none=> .fail
   |_=> .fail
  |_=> .fail
 |.v false [.gp c off x]=>atM (.gp c off x) fun cs=>partOf d.agg d.size 0 cs .ret
 |.v false [.ge c id ix off]=>atM (.ge c id ix off) fun cs=>partOf d.agg d.size 0 cs .ret
 |_=> .fail
def an6(d:TD)(a x:A):HM:=
 match a,x with
 |.v false [.ptr o off],.v g cs=>match bU cs.length d.size&&cs.all C.known&&(g==d.agg)with
  |true=> .get o fun
   |.cells old=>match Nat.ble (off+cs.length) old.length with
    |true=> .set o (.cells (xi old off cs)) (.ret Cs)
    |false=> .fail
   |_=> .fail
  |false=> .fail
 |.v false [.afO o i c],.v g cs=>match bU cs.length d.size&&cs.all C.known&&(g==d.agg)with
  |true=>jM true cs fun cs=> .get o fun
   |.row e l=> .opt (l[i]?) fun x=>match Nat.ble (c+cs.length) e.size with
    |true=>match e.dG (xi (e.cells x) c cs)with
     |some y=> .set o (.row e (l.set i y)) (.ret Cs)
     |none=> .fail
    |false=> .fail
   |_=> .fail
  |false=> .fail
 |.v false [.gp c off x],.v g cs=>match bU cs.length d.size&&cs.all C.known&&(g==d.agg)with
  |true=>jM true cs fun cs=> .opt x fun id=> .get c fun
   |.gh true (.st V) H=> .opt (fP (α:=V.den) H id) fun y=>match Nat.ble (off+cs.length) V.size&&V.ok with
    |true=>match V.dG (xi (V.cells y) off cs)with
     |some z=> .opt (vn (α:=V.den) H id z) fun H=> .set c (.gh true (.st V) H) (.ret Cs)
     |none=> .fail
    |false=> .fail
   |_=> .fail
  |false=> .fail
 |.v false [.ge c id ix off],.v g cs=>match bU cs.length d.size&&cs.all C.known&&(g==d.agg)with
  |true=>jM true cs fun cs=> .get c fun
   |.gh true (.bf V) H=> .opt (fP (α:=List V.den) H id) fun l=> .opt (nth (α:=V.den) l ix) fun y=>match Nat.ble (off+cs.length) V.size&&V.ok with
    |true=>match V.dG (xi (V.cells y) off cs)with
     |some z=> .opt (vn (α:=List V.den) H id (l.set ix z)) fun H=> .set c (.gh true (.bf V) H) (.ret Cs)
     |none=> .fail
    |false=> .fail
   |_=> .fail
  |false=> .fail
 |_,_=> .fail
def aiT:Operand→Operand→Bool
 |.tmp a,.tmp b=>bU a b
 |_,_=>false
def axs(x:A):HM:=
 match x with
 |.v false [.sl _ l _]=>Cm .i64 l.length
 |.v false [.nils]=>Cm .i64 0
 |.v false [.gs _ x]=>Cm .i64 (gsN x)
 |.v false [.vec o]=> .get o fun
  |.row _ l=>Cm .i64 l.length
  |.x4 _ l=>Cm .i64 l.length
  |_=> .fail
 |_=> .fail
def asa(mark:Bool)(e:Ty)(x:A)(k:List e.den→HM):HM:=
 match x with
 |.v false [.gs c y]=>match mark with
  |false=>QR e c y k
  |true=> .fail
 |.v false [c]=>p5 mark c fun
  |.sl e' m _=>match rY e' e m with
   |some m=>k m
   |none=> .fail
  |.nils=>k []
  |_=> .fail
 |_=> .fail
def aiU(new:Nat)(e:Ty)(bytes:Nat)(s x:A):HM:=
 asa false e x fun m=>
  match s with
  |.v false [.nils]=> .opt (app bytes [] m) fun l=> .set new .tok (pp (.sl e l (.own new)))
  |.v false [.sl e' l (.own o)]=>match rY e' e l with
   |some l=> .get o fun
    |.tok=> .opt (app bytes l m) fun l=> .set o .dead (.set new .tok (pp (.sl e l (.own new))))
    |_=> .fail
   |none=> .fail
  |.v false [.vec o]=> .get o fun
   |.row e' l=>match rY e' e l with
    |some l=> .opt (app bytes l m) fun l=> .set o .dead (.set new .tok (pp (.sl e l (.own new))))
    |none=> .fail
   |_=> .fail
  |_=> .fail
def axt(V:VT)(x:A)(k:List V.den→HM):HM:=
 match V,x with
 |.data e,x=>asa false e x k
 |V,.v false [.gs c y]=> .get c fun
  |.gh _ K H=>match pu K (.bf V) H with
   |some H=> .opt (sP H y) k
   |none=> .fail
  |_=> .fail
 |V,.v false [.nils]=>k []
 |_,_=> .fail
def aiV(V:VT)(c bytes:Nat)(y:Option (Nat×Nat×Nat))(x:A):HM:=
 axt V x fun m=> .get c fun
  |.gh true K H=>match pu K (.bf V) H with
   |some H=> .opt (gsA bytes H y m) fun r=> .set c (.gh true (.bf V) r.1) (pp (.gs c r.2))
   |none=> .fail
  |_=> .fail
def axu(X:Cx)(t:TypeId)(s:A):Option (Nat×Option (Nat×Nat×Nat)):=
 match s with
 |.v false [.gs c y]=>some (c,y)
 |.v false [.nils]=>match cZ t X.aks with
  |some c=>some (c,none)
  |none=>none
 |_=>none
def JT(f:Int→Int→Int)(k:IntKind):Int→List A→HM
 |n,[]=>Cm k n
 |n,.v false [.int k' m]::r=>match decEq k k' with
  |.isTrue _=>JT f k (f n m) r
  |.isFalse _=> .fail
 |_,_=> .fail
def ab6(X:Cx)(new:Nat)(b:Builtin)(ts:List TypeId)(as:List A):HM:=
 match b,ts,as with
 |.len,[t],[x]=>match cZ t X.tt with
  |some d=>match d.desc,x with
   |.slice _,x=>axs x
   |.str,.v false [.str s]=>Cm .i64 s.length
   |.array n _,_=>Cm .i64 n
   |_,_=> .fail
  |none=> .fail
 |.append,[t,u],[s,x]=>match cZ t X.tt,cZ u X.tt with
  |some d,some du=>match d.desc,du.desc with
   |.slice e,.slice _=>match cZ e X.tt with
    |some de=>match axu X t s with
     |some (c,y)=>match cZ e X.UX,Nat.blt 0 de.size with
       |some V,true=>aiV V c de.bytes y x
       |_,_=> .fail
     |none=>match de.ty with
      |some τ=>match Nat.blt 0 de.size&&de.zero with
        |true=>aiU new τ de.bytes s x
        |false=> .fail
      |none=> .fail
    |none=> .fail
   |_,_=> .fail
  |_,_=> .fail
 |.max,_,.v false [.int k n]::r=>JT imax k n r
 |.min,_,.v false [.int k n]::r=>JT x5 k n r
 |_,_,_=> .fail
def bnd(x:Option A)(d:Int):Option Int:=
 match x with
 |none=>some d
 |some (.v false [.int _ n])=>some n
 |_=>none
def PB(X:Cx)(t:TypeId)(n:Nat):Bool:=
 match cZ t X.tt with
 |some d=>bU n d.size&&Nat.blt 0 n
 |none=>false
def apR(V V':VT):Bool:=match decEq V V' with
 |.isTrue _=>true
 |.isFalse _=>false
def an7(X:Cx)(d:TD)(x:A)(lo hi mx:Option A):HM:=
 match d.desc,mx with
 |.str,none=>match x with
  |.v false [.str s]=>match bnd lo 0,bnd hi s.length with
   |some a,some b=> .opt (slc s a b) fun s=>pp (.str s)
   |_,_=> .fail
  |_=> .fail
 |.slice te,none=>match x with
  |.v false [.gs c y]=>match cZ te X.UX,bnd lo 0,bnd hi (gsN y)with
   |some V',some a,some b=> .get c fun
    |.gh _ (.bf V) _=>match apR V V',Nat.blt 0 V.size with
     |true,true=> .opt (gsS y a b) fun z=>pp (.gs c z)
     |_,_=> .fail
    |_=> .fail
   |_,_,_=> .fail
  |.v false [c]=>p5 true c fun
   |.sl e l _=>match PB X te e.size with
    |true=>match bnd lo 0,bnd hi l.length with
     |some a,some b=> .opt (slc l a b) fun l=>pp (.sl e l .no)
     |_,_=> .fail
    |false=> .fail
   |_=> .fail
  |_=> .fail
 |.slice te,some m=>match x with
  |.v false [c]=>p5 true c fun
   |.sl e l _=>match PB X te e.size with
    |true=>match bnd lo 0,(match hi with |some b=>bnd (some b) 0 |none=>none),bnd (some m) 0 with
     |some a,some b,some m=> .opt (slc l b m) fun _=> .opt (slc l a b) fun l=>pp (.sl e l .no)
     |_,_,_=> .fail
    |false=> .fail
   |_=> .fail
  |_=> .fail
 |_,_=> .fail
def QV(d:TD)(j:Nat):Option (TypeId×Nat):=
 match d.desc with
 |.struct fs=>fs[j]?
 |_=>none
def aiW(a:A)(n:Nat):HM:=
 match a with
 |.v false [.ptr o off]=> .get o fun
  |.dead=> .fail
  |_=>pp (.ptr o (off+n))
 |.v false [.JR τ x c]=>pp (.JR τ x (c+n))
 |.v false [.afO o i c]=> .get o fun
  |.row _ _=>pp (.afO o i (c+n))
  |.x4 _ _=>pp (.afO o i (c+n))
  |_=> .fail
 |.v false [.gp c off x]=> .opt x fun id=>pp (.gp c (off+n) (some id))
 |.v false [.ge c id ix off]=>pp (.ge c id ix (off+n))
 |_=> .fail
def PC(X:Cx)(d:TD)(x ix:A):HM:=
 match ix with
 |.v false [.int _ i]=>
  match d.desc,x with
  |.slice te,.v false [.sl e l _]=>match PB X te e.size with
   |true=> .opt (idx l i) fun y=>pp (.JR e y 0)
   |false=> .fail
  |.slice te,.v false [.gs c y]=> .get c fun
   |.gh _ (.bf V) _=>match cZ te X.UX with
    |some V'=>match apR V V',Nat.blt 0 V.size with
     |true,true=> .opt y fun p=> .opt (ck i p.2.2) fun n=>pp (.ge c p.1 (p.2.1+n) 0)
     |_,_=> .fail
    |none=> .fail
   |_=> .fail
  |.slice te,.v false [.vec o]=> .get o fun
   |.row e l=>match PB X te e.size with
    |true=> .opt (ck i l.length) fun n=>pp (.afO o n 0)
    |false=> .fail
   |.x4 e l=>match PB X te e.size with
    |true=> .opt (ck i l.length) fun n=>pp (.afO o n 0)
    |false=> .fail
   |_=> .fail
  |.array len e,.v false [.ptr o off]=>match cZ e X.tt with
   |some de=>match bU de.size 1&&Nat.blt 1 len with
    |true=> .get o fun
     |.cells _=> .opt (ck i len) fun n=>pp (.ar4 o off len n)
     |_=> .fail
    |false=> .fail
   |none=> .fail
  |_,_=> .fail
 |_=> .fail
def asc(d:TD)(x ix:A):HM:=
 match d.desc,x,ix with
 |.str,.v false [.str s],.v false [.int _ i]=> .opt (GJ s i) (Cm .u8)
 |_,_,_=> .fail
def ab7(x:A)(j:Nat):HM:=
 match x with
 |.lO ps=>match ps[j]? with
  |some (g,cs)=> .ret (.v g cs)
  |none=> .fail
 |_=> .fail
def aiX(cap:List A):Option (List Nat):=
 vo (fun |.v false [.ptr o 0]=>some o |_=>none) cap
def kM(X:Cx)(t:TypeId)(k:TD→HM):HM:=
 match cZ t X.tt with
 |some d=>k d
 |none=> .fail
def PD(d:TD)(k:Ty→HM):HM:=
 match d.ty with
 |some τ=>k τ
 |none=> .fail
def apS(X:Cx)(tk:TypeId):Option Ty:=
 match cZ tk X.tt with
 |some d=>match d.desc,d.ty with
  |.int k,some (.int q)=>match decEq k q with
   |.isTrue _=>some (.int q)
   |.isFalse _=>none
  |.str,some .str=>some .str
  |.array n e,some τ=>match cZ e X.tt with
   |some de=>match de.desc with
    |.int k=>match bU de.size 1&&bU τ.size n&&τ.isAgg&&τ.UY k with
     |true=>some τ
     |false=>none
    |_=>none
   |none=>none
  |_,_=>none
 |none=>none
def JU(X:Cx)(tk tv:TypeId):Option (Ty×Ty):=
 match apS X tk,cZ tv X.tt with
 |some k,some d=>match d.zero,d.ty with
  |true,some v=>match v.isKey with
   |true=>some (k,v)
   |false=>none
  |_,_=>none
 |_,_=>none
def GN(k v k' v':Ty)(l:List (k.den×v.den)):Option (List (k'.den×v'.den)):=
 match decEq k k',decEq v v' with
 |.isTrue h,.isTrue h'=>some (h▸h'▸l)
 |_,_=>none
def aiY(k v:Ty)(x ix:A)(ok:Bool):HM:=
 match x,ix with
 |.v false [.mp o],.v g cs=>match g==k.isAgg,k.dG cs with
  |true,some y=> .get o fun
   |.map k' v' l=>match GN k' v' k v l with
    |some l=>match ok with
     |true=> .ret (.lO [(v.isAgg,v.cells ((JG k.JS l y).getD v.zero)),(false,[.bool (JG k.JS l y).isSome])])
     |false=> .ret (.v v.isAgg (v.cells ((JG k.JS l y).getD v.zero)))
    |none=> .fail
   |_=> .fail
  |_,_=> .fail
 |_,_=> .fail
def aiZ(k v:Ty)(x ix a:A):HM:=
 match x,ix,a with
 |.v false [.mp o],.v g cs,.v g' ds=>match g==k.isAgg&&g'==v.isAgg,k.dG cs,v.dG ds with
  |true,some y,some z=> .get o fun
   |.map k' v' l=>match GN k' v' k v l with
    |some l=> .set o (.map k v (PA k.JS l y z)) (.ret Cs)
    |none=> .fail
   |_=> .fail
  |_,_,_=> .fail
 |_,_,_=> .fail
def vA:A→HM
 |.v g cs=> .ret (.v g cs)
 |.lO ps=> .ret (.lO ps)
theorem apT(a:A):vA a= .ret a:=by cases a<;>rfl
def aop(X:Cx)(new:Nat)(ρ:Operand→A)(o:Op):HM:=
 match o with
 |.move x |.assign x=>vA (ρ x)
 |.pick c a b=>match ρ c with
   |.v false [.bool t]=> .br t (vA (ρ a)) (vA (ρ b))
   |_=> .fail
 |.alloc t=>kM X t fun d=>match cZ t X.mks,cZ t X.UX with
  |some c,some V=> .get c fun
   |.gh true K H=>match pu K (.st V) H with
     |some H=> .set c (.gh true (.st V) (eR (α:=V.den) H V.zero)) (pp (.gp c 0 (some H.length)))
     |none=> .fail
   |_=> .fail
  |some _,none=> .fail
  |none,_=>match d.zero with
   |true=>PD d fun τ=> .set new (.cells τ.mw) (pp (.ptr new 0))
   |false=> .fail
 |.box t x=>kM X t fun d=>match ρ x with
   |.v g cs=>match bU cs.length d.size&&cs.all C.known&&(g==d.agg)with
    |true=>match cZ t X.mks,cZ t X.UX with
     |some c,some V=>jM true cs fun cs=> .get c fun
      |.gh true K H=>match pu K (.st V) H,V.dG cs,V.ok with
       |some H,some z,true=> .set c (.gh true (.st V) (eR (α:=V.den) H z)) (pp (.gp c 0 (some H.length)))
       |_,_,_=> .fail
      |_=> .fail
     |some _,none=> .fail
     |none,_=> .set new (.cells cs) (pp (.ptr new 0))
    |false=> .fail
   |_=> .fail
 |.build t parts=>kM X t fun d=>match d.desc,d.zero with
   |.struct fs,false=>match cZ t X.UX with
     |some V=>match vo (fun f=>match cZ f.1 X.tt with |some df=>some (f.2,df.size)|none=>none) fs with
      |some places=>match QU (fun i=>places[i]?) V.mw (parts.toList.map fun(i,x)=>(i,ρ x))with
       |some cs=> .ret (.v true cs)
       |none=> .fail
      |none=> .fail
     |none=> .fail
   |.struct fs,true=>PD d fun τ=>
     match vo (fun f=>match cZ f.1 X.tt with |some df=>some (f.2,df.size)|none=>none) fs with
     |some places=>match QU (fun i=>places[i]?) τ.mw (parts.toList.map fun(i,x)=>(i,ρ x))with
      |some cs=> .ret (.v true cs)
      |none=> .fail
     |none=> .fail
   |.array n e,true=>PD d fun τ=>kM X e fun de=>
     match QU (fun i=>match Nat.blt i n with |true=>some (i*de.size,de.size)|false=>none) τ.mw (parts.toList.map fun(i,x)=>(i,ρ x))with
     |some cs=> .ret (.v true cs)
     |none=> .fail
   |_,_=> .fail
 |.buildSlice t len parts=>kM X t fun d=>match d.desc with
   |.slice e=>kM X e fun de=>match cZ t X.aks,len,parts.toList with
    |some cl,0,[]=>match cZ e X.UX with
     |some V=> .get cl fun
      |.gh true K H=>match pu K (.bf V) H with
       |some H=> .set cl (.gh true (.bf V) (eR (α:=List V.den) H [])) (pp (.gs cl (some (H.length,0,0))))
       |none=> .fail
      |_=> .fail
     |none=> .fail
    |_,_,_=>PD de fun τ=>match bU parts.size len&&Nat.ble (len*de.size) 16777216&&Nat.blt 0 de.size&&(len==0||de.zero)with
     |true=>ab3 τ 0 (parts.toList.map fun(i,x)=>(i,ρ x)) fun l=> .set new .tok (pp (.sl τ l (.own new)))
     |false=> .fail
   |_=> .fail
 |.load t a=>kM X t fun d=>ab5 d (ρ a)
 |.store t a x=>kM X t fun d=>an6 d (ρ a) (ρ x)
 |.nilCheck x=>aiW (ρ x) 0
 |.binOp op t x y _=>match ρ x with
   |.v false [.bool b]=>kM X t fun d=>match d.desc with
     |.bool=>YW op (.v false [.bool b]) (ρ y)
     |_=> .fail
   |.v true cs=>kM X t fun d=>eqA op d cs (ρ y)
   |.v false [.sl _ _ tk]=>kM X t fun d=>axr op d tk (ρ y)
   |.v false [.gp _ _ z]=>kM X t fun d=>UZ false op d z.isNone (ρ y)
   |.v false [.gs _ z]=>kM X t fun d=>UZ true op d z.isNone (ρ y)
   |a=>YW op a (ρ y)
 |.unOp op _ x=>unA op (ρ x)
 |.convert src dst x=>kM X src fun ds=>kM X dst fun d=>match d.desc,ρ x with
   |.int k,.v false [.int _ n]=>Cm k (k.wrap n)
   |.str,.v false [c]=>match ds.desc with
     |.slice e=>kM X e fun de=>match de.desc with
      |.int .u8=>p5 false c fun
       |.sl (.int .u8) l _=>pp (.str (bytesOf l))
       |.nils=>pp (.str [])
       |_=> .fail
      |_=> .fail
     |_=> .fail
   |_,_=> .fail
 |.makeFunc (.func f) first captured=>match first.size,aiX (captured.toList.map ρ)with
   |0,some ids=>pp (.clos f ids)
   |_,_=> .fail
 |.makeSlice t l c=>kM X t fun d=>match d.desc with
   |.slice e=>kM X e fun de=>match cZ t X.mks,cZ e X.UX with
    |some cl,some V=>match aiT l c,ρ l,Nat.blt 0 V.size with
     |true,.v false [.int _ n],true=> .get cl fun
      |.gh true K H=>match pu K (.bf V) H with
       |some H=> .opt (Cl de.bytes n) fun n=> .set cl (.gh true (.bf V) (eR (α:=List V.den) H (ao n V.zero))) (pp (.gs cl (some (H.length,0,n))))
       |none=> .fail
      |_=> .fail
     |_,_,_=> .fail
    |some _,none=> .fail
    |none,_=>match de.zero&&Nat.blt 0 de.size with
     |true=>PD de fun τ=>match aiT l c,ρ l,ρ c with
      |true,.v false [.int _ n],_=> .opt (Cl de.bytes n) fun n=> .set new (.row τ (ao n τ.zero)) (pp (.vec new))
      |false,.v false [.int _ 0],.v false [.int _ n]=> .opt (Cl de.bytes n) fun _=> .set new .tok (pp (.sl τ [] (.own new)))
      |_,_,_=> .fail
     |false=> .fail
   |_=> .fail
 |.slice t x lo hi mx=>kM X t fun d=>an7 X d (ρ x) (lo.map ρ) (hi.map ρ) (mx.map ρ)
 |.fieldAddr s x j=>kM X s fun d=>match QV d j with
   |some f=>kM X f.1 fun df=>match Nat.blt 0 df.size with
     |true=>aiW (ρ x) f.2
     |false=> .fail
   |none=> .fail
 |.field s x j=>kM X s fun d=>match QV d j with
   |some f=>kM X f.1 fun df=>match ρ x with
     |.v true cs=>partOf df.agg df.size f.2 cs .ret
     |_=> .fail
   |none=> .fail
 |.indexAddr t x ix=>kM X t fun d=>PC X d (ρ x) (ρ ix)
 |.index t x ix=>kM X t fun d=>asc d (ρ x) (ρ ix)
 |.makeMap t none=>kM X t fun d=>match d.desc with
   |.map tk tv=>match JU X tk tv with
     |some (k,v)=> .set new (.map k v []) (pp (.mp new))
     |none=> .fail
   |_=> .fail
 |.lookup t x ix ok=>kM X t fun d=>match d.desc with
   |.map tk tv=>match JU X tk tv with
     |some (k,v)=>aiY k v (ρ x) (ρ ix) ok
     |none=> .fail
   |_=> .fail
 |.mapUpdate t m ix x=>kM X t fun d=>match d.desc with
   |.map tk tv=>match JU X tk tv with
     |some (k,v)=>aiZ k v (ρ m) (ρ ix) (ρ x)
     |none=> .fail
   |_=> .fail
 |.extract x j=>ab7 (ρ x) j
 |.call c=>match c.callee with
   |.builtin b=>ab6 X new b c.argTypes.toList (c.args.toList.map ρ)
   |.value f=>match ρ f with
     |.v false [.clos f ids]=>alf X new f (c.args.toList.map ρ++awP ids)
     |.v false [.E4 f a x]=>match an3 a with
      |true=>alf X new f (c.args.toList.map ρ++ar8 a x)
      |false=> .fail
     |_=> .fail
   |.invoke _ _=> .fail
 |_=> .fail
structure St where
 env:Env
 next:Nat
 heap:bg
def PE(env:Env)(dst:Option Tmp)(a:A):Env:=
 match dst with
 |some d=>(d,a)::env
 |none=>env
def ahv(X:Cx)(dst:Option Tmp):Bool:=
 match dst with
 |some d=>Nat.blt d X.nt
 |none=>true
def opK{R:Type}(X:Cx)(new:Nat)(o:Oper)(s:St)(K:St→Log→Option R):Option R:=
 (aop X new (D8 s.env) o.op).run s.next s.heap [] fun a h L=>K { s with env:=PE s.env o.dst a,heap:=h } L
def ab8(ops:List Oper)(j:Nat):Option Tmp:=
 match ops[j]? with
 |some o=>o.dst
 |none=>none
def afQ{R:Type}(X:Cx)(ops:List Oper)(K:St→List Log→Option R):Nat→List Oper→St→List Log→Option R
 |_,[],s,Ls=>K s Ls
 |new,o::r,s,Ls=>match ahv X o.dst with
  |false=>none
  |true=>match o.guard with
   |none=>opK X new o s fun s L=>afQ X ops K (new+1) r s (L::Ls)
   |some (j,want)=>match ab8 ops j with
    |some g=>match look aJ g s.env with
     |.v false [.bool b]=>match want with
      |true=>av b (opK X new o { s with env:=(g,.v false [.bool true])::s.env } fun s L=>afQ X ops K (new+1) r s (L::Ls))
       (afQ X ops K (new+1) r { s with env:=PE ((g,.v false [.bool false])::s.env) o.dst Cs } ([]::Ls))
      |false=>av b (afQ X ops K (new+1) r { s with env:=PE ((g,.v false [.bool true])::s.env) o.dst Cs } ([]::Ls))
       (opK X new o { s with env:=(g,.v false [.bool false])::s.env } fun s L=>afQ X ops K (new+1) r s (L::Ls))
     |.lO []=>afQ X ops K (new+1) r { s with env:=PE s.env o.dst Cs } ([]::Ls)
     |_=>none
    |none=>none
def MK(a b:Log):Bool:=a.all fun(o,w)=>b.all fun(p,w')=> !(bU o p&&(w||w'))
def uses(ops:List Oper)(o:Oper):List Tmp:=
 (o.op.operands.toList.filterMap fun |.tmp t=>some t |_=>none)++
 (match o.guard with
  |some (g,_)=>(ab8 ops g).toList
  |none=>[])
def su(ops:List Oper)(x y:Oper):Bool:=
 (match x.dst with
  |some d=>(uses ops y).all (fun t=> !bU t d)&&(match y.dst with |some e=> !bU e d |none=>true)
  |none=>true)&&
 (match y.dst with
  |some d=>(uses ops x).all fun t=> !bU t d
  |none=>true)
def an8(ops:Array Oper)(azM:List Log):Bool:=
 let b:=Region.before ops
 let l:=ops.toList
 (List.range ops.size).all fun j=>match l[j]?,azM[j]? with
  |some y,some ly=>y.after.all (fun e=> !Region.binds .any e||Nat.blt e.on j)&&
   (List.range j).all fun i=>(b.getD j 0).testBit i||(match l[i]?,azM[i]? with
    |some x,some lx=>su l x y&&MK lx ly
    |_,_=>false)
  |_,_=>false
def GO{R:Type}(X:Cx)(ops:Array Oper)(draw:Bool)(K:St→Option R)(s:St):Option R:=
 let l:=ops.toList
 afQ X l (fun s Ls=>match draw with
  |false=>K s
  |true=>match an8 ops Ls.reverse with
   |true=>K s
   |false=>none) s.next l { s with next:=s.next+l.length } []
def clean(Ls:List Log):Bool:=Ls.all fun L=>L.all fun q=> !q.2
def QW{R:Type}(X:Cx)(ops:Array Oper)(draw:Bool)(K:St→Option R)(s:St):Option R:=
 let l:=ops.toList
 afQ X l (fun s Ls=>match clean Ls with
  |false=>none
  |true=>match draw with
   |false=>K s
   |true=>match an8 ops Ls.reverse with
    |true=>K s
    |false=>none) s.next l { s with next:=s.next+l.length } []
def apU(env:Env)(t:Nat)(τ:Ty):Option τ.den:=
 match look aJ t env with
 |.v g cs=>match g==τ.isAgg&&τ.cI with
  |true=>τ.dG cs
  |false=>none
 |.lO _=>none
def ab9(env:Env):(l:List (Nat×Ty))→Option (lO (l.map Prod.snd)).den
 |[]=>some ()
 |[(t,τ)]=>apU env t τ
 |(t,τ)::q::r=>match apU env t τ with
  |some x=>match ab9 env (q::r)with
   |some y=>some (x,y)
   |none=>none
  |none=>none
def aca:(l:List (Nat×Ty))→(lO (l.map Prod.snd)).den→Env→Env
 |[],_,env=>env
 |[(t,τ)],x,env=>(t,YV τ x)::env
 |(t,τ)::q::r,x,env=>(t,YV τ x.1)::aca (q::r) x.2 env
def QX(ops:Array Oper):List Tmp:=ops.toList.filterMap fun o=>o.dst
def sV:Code→List Tmp
 |.seq a b=>sV a++sV b
 |.cond _ a b=>sV a++sV b
 |.region _ ops _=>QX ops
 |_=>[]
def JV(l:List Tmp):Env:=l.map fun d=>(d,aJ)
def Xy(X:Cx):Code→{R:Type}→(St→Option R)→St→Option R
 |.skip,_,K,s=>K s
 |.seq a b,_,K,s=>Xy X a (Xy X b K) s
 |.cond c a b,_,K,s=>match D8 s.env c with
  |.v false [.bool t]=>av t (Xy X a K s) (Xy X b K s)
  |_=>none
 |.region _ ops draw,_,K,s=>QW X ops draw K s
 |_,_,_,_=>none
def apV(l:List (Nat×Ty))(n:Nat)(s:St):Option (lO (l.map Prod.snd)).den:=
 match Nat.ble s.next n with
 |true=>ab9 s.env l
 |false=>none
def CK.den:CK→Type
 |.data τ=>τ.den
 |.own e=>List e.den
 |.fix _=>Unit
def U4:List CK→Type
 |[]=>Unit
 |k::r=>k.den×U4 r
def SK.den:SK→Type
 |.data τ=>τ.den
 |.own e=>List e.den
 |.fix _=>Unit
 |.box l=>U4 l
 |.ref a=>a.den
 |.vt V=>V.den
 |.cl _ a=>a.den
def OK.den:OK→Type
 |.row e=>List e.den
 |.x4 e=>List e.den
 |.cells l=>U4 l
 |.map k v=>List (k.den×v.den)
 |.gh _ K=>List (Option K.xZ)
 |.obj τ=>τ.den
def acb:List (Nat×OK)→Type
 |[]=>Unit
 |k::r=>k.2.den×acb r
def JW:List (Nat×SK)→List (Nat×OK)→Type
 |[],obs=>acb obs
 |k::r,obs=>k.2.den×JW r obs
def NS.den(N:NS):Type:=JW N.slots N.obs
def apW:C→C→Bool
 |.vec o,.vec p=>bU o p
 |.ptr o a,.ptr p b=>bU o p&&bU a b
 |.clos f l,.clos g m=>bU f g&&l==m
 |.nilfn,.nilfn=>true
 |.nilp,.nilp=>true
 |.mp o,.mp p=>bU o p
 |_,_=>false
def apX:A→A→Bool
 |.v false [c],.v false [d]=>apW c d
 |_,_=>false
def U5(n:Nat):C→Bool
 |.vec o=>Nat.blt o n
 |.ptr o _=>Nat.blt o n
 |.clos _ ids=>ids.all fun o=>Nat.blt o n
 |.nilfn=>true
 |.nilp=>true
 |.mp o=>Nat.blt o n
 |_=>false
def ai0(n:Nat):A→Bool
 |.v false [c]=>U5 n c
 |_=>false
def alg(e:Ty)(c:C)(h:bg):Option (List e.den×bg):=
 match c with
 |.nils=>some ([],h)
 |.sl e' l (.own o)=>match look .dead o h with
  |.tok=>match rY e' e l with
   |some l=>some (l,(o,.dead)::h)
   |none=>none
  |_=>none
 |_=>none
def axv(next:Nat)(k:CK)(c:C)(h:bg):Option (k.den×bg):=
 match k with
 |.data τ=>match bU τ.size 1&& !τ.isAgg&&τ.cI with
  |true=>match τ.dG [c]with
   |some x=>some (x,h)
   |none=>none
  |false=>none
 |.own e=>alg e c h
 |.fix d=>match apW d c&&U5 next d with
  |true=>some ((),h)
  |false=>none
def Xz(next:Nat):(l:List CK)→List C→bg→Option (U4 l×bg)
 |[],[],h=>some ((),h)
 |k::r,c::cs,h=>match axv next k c h with
  |some (x,h)=>match Xz next r cs h with
   |some (y,h)=>some ((x,y),h)
   |none=>none
  |none=>none
 |_,_,_=>none
def alh(next:Nat)(k:SK)(a:A)(h:bg):Option (k.den×bg):=
 match k,a with
 |.data τ,.v g cs=>match g==τ.isAgg&&τ.cI with
  |true=>match τ.dG cs with
   |some x=>some (x,h)
   |none=>none
  |false=>none
 |.own e,.v false [c]=>alg e c h
 |.fix a,b=>match apX a b&&ai0 next a with
  |true=>some ((),h)
  |false=>none
 |.box ks,.v false [.ptr o off]=>match bU off 0,look .dead o h with
  |true,.cells cs=>Xz next ks cs ((o,.dead)::h)
  |_,_=>none
 |.ref a,.v false [.JR a' x c]=>match bU c 0,sT a' a x with
  |true,some x=>some (x,h)
  |_,_=>none
 |.vt V,.v g cs=>match g==V.isAgg&&V.ok with
  |true=>match V.dG cs with
   |some x=>some (x,h)
   |none=>none
  |false=>none
 |.cl f a,.v false [.E4 f' a' x]=>match bU f f',sT a' a x with
  |true,some x=>some (x,h)
  |_,_=>none
 |_,_=>none
def axw(next:Nat)(k:OK)(x:Ob)(h:bg):Option (k.den×bg):=
 match k,x with
 |.row e,.row e' l=>match rY e' e l with
  |some l=>some (l,h)
  |none=>none
 |.x4 e,.x4 e' l=>match rY e' e l with
  |some l=>some (l,h)
  |none=>none
 |.cells ks,.cells cs=>Xz next ks cs h
 |.map k v,.map k' v' l=>match GN k' v' k v l with
  |some l=>some (l,h)
  |none=>none
 |.gh wr K,.gh wr' K' H=>match wr==wr',pu K' K H with
  |true,some H=>some (H,h)
  |_,_=>none
 |.obj τ,.cells cs=>match τ.cI with
  |true=>match τ.dG cs with
   |some x=>some (x,h)
   |none=>none
  |false=>none
 |_,_=>none
def ai1(next:Nat):(l:List (Nat×OK))→bg→Option (acb l×bg)
 |[],h=>some ((),h)
 |(o,k)::r,h=>match Nat.blt o next with
  |false=>none
  |true=>match axw next k (look .dead o h) h with
   |some (x,h)=>match ai1 next r h with
    |some (y,h)=>some ((x,y),h)
    |none=>none
   |none=>none
def QY(next:Nat)(env:Env):(l:List (Nat×SK))→(obs:List (Nat×OK))→bg→Option (JW l obs×bg)
 |[],obs,h=>ai1 next obs h
 |(t,k)::r,obs,h=>match alh next k (look aJ t env) h with
  |some (x,h)=>match QY next env r obs h with
   |some (y,h)=>some ((x,y),h)
   |none=>none
  |none=>none
def dec(N:NS)(s:St):Option N.den:=
 match Nat.ble N.next s.next with
 |false=>none
 |true=>match QY N.next s.env N.slots N.obs s.heap with
  |some (x,_)=>some x
  |none=>none
def axx(k:CK)(x:k.den)(new:Nat):List C×Nat:=
 match k,x with
 |.data τ,x=>(τ.cells x,new)
 |.own e,l=>([.sl e l (.own new)],new+1)
 |.fix c,_=>([c],new)
def JX:(l:List CK)→U4 l→Nat→List C×Nat
 |[],_,new=>([],new)
 |k::r,x,new=>
  let a:=axx k x.1 new
  let b:=JX r x.2 a.2
  (a.1++b.1,b.2)
def aqL(k:SK)(x:k.den)(new:Nat):A×Nat:=
 match k,x with
 |.data τ,x=>(.v τ.isAgg (τ.cells x),new)
 |.own e,l=>(.v false [.sl e l (.own new)],new+1)
 |.fix a,_=>(a,new)
 |.box ks,x=>(.v false [.ptr new 0],(JX ks x (new+1)).2)
 |.ref a,x=>(.v false [.JR a x 0],new)
 |.vt V,x=>(E5 V x,new)
 |.cl f a,x=>(.v false [.E4 f a x],new)
def Ae(k:SK)(x:k.den)(new:Nat):bg:=
 match k,x with
 |.box ks,x=>[(new,.cells (JX ks x (new+1)).1)]
 |_,_=>[]
def za(k:OK)(x:k.den)(new:Nat):Ob×Nat:=
 match k,x with
 |.row e,l=>(.row e l,new)
 |.x4 e,l=>(.x4 e l,new)
 |.map k v,l=>(.map k v l,new)
 |.gh wr K,H=>(.gh wr K H,new)
 |.obj τ,x=>(.cells (τ.cells x),new)
 |.cells ks,x=>let a:=JX ks x new;(.cells a.1,a.2)
def Af:(l:List (Nat×OK))→acb l→Nat→bg×Nat
 |[],_,new=>([],new)
 |(o,k)::r,x,new=>
  let a:=za k x.1 new
  let b:=Af r x.2 a.2
  ((o,a.1)::b.1,b.2)
def gV:(l:List (Nat×SK))→(obs:List (Nat×OK))→JW l obs→Nat→Env×bg×Nat
 |[],obs,x,new=>([],Af obs x new)
 |(t,k)::r,obs,x,new=>
  let a:=aqL k x.1 new
  let b:=gV r obs x.2 a.2
  ((t,a.1)::b.1,Ae k x.1 new++b.2.1,b.2.2)
def toks(from_:Nat):Nat→bg
 |0=>[]
 |n+1=>(from_+n,.tok)::toks from_ n
def enc(N:NS)(x:N.den):St:=
 let a:=gV N.slots N.obs x N.next
 { env:=a.1,next:=a.2.2,heap:=a.2.1++toks N.next (a.2.2 -N.next) }
def JY:List (Ex×NS)→Type
 |[]=>Empty
 |[o]=>o.2.den
 |o::p::r=>o.2.den⊕JY (p::r)
def ai2:Ex→Ex→Bool
 |.normal,.normal=>true
 |.ret,.ret=>true
 |.exit a,.exit b=>bU a b
 |_,_=>false
def U6:(l:List (Ex×NS))→Ex→St→Option (JY l)
 |[],_,_=>none
 |[o],e,s=>match ai2 o.1 e with
  |true=>dec o.2 s
  |false=>none
 |o::p::r,e,s=>match ai2 o.1 e with
  |true=>match dec o.2 s with
   |some x=>some (.inl x)
   |none=>none
  |false=>match U6 (p::r) e s with
   |some x=>some (.inr x)
   |none=>none
def cY{α β R:Type}(x:α⊕β)(f:α→Option R)(g:β→Option R):Option R:=
 match x with
 |.inl a=>f a
 |.inr b=>g b
def ai3{R:Type}:(l:List (Ex×NS))→JY l→(Ex→St→Option R)→Option R
 |[],_,_=>none
 |[o],x,K=>K o.1 (enc o.2 x)
 |o::p::r,x,K=>cY x (fun x=>K o.1 (enc o.2 x)) (fun y=>ai3 (p::r) y K)
def sw:Code→Nat
 |.region id _ _=>id
 |.seq a _=>sw a
 |.block _ a=>sw a
 |.loop a=>sw a
 |.scope a=>sw a
 |_=>0
def aCB{R:Type}(next:St→Option R)(K:Ex→St→Option R)(e:Ex)(s:St):Option R:=
 match e with
 |.normal=>next s
 |e=>K e s
def axy{R:Type}(id:Nat)(K:Ex→St→Option R)(e:Ex)(s:St):Option R:=
 match e with
 |.exit j=>match bU j id with
  |true=>K .normal s
  |false=>K (.exit j) s
 |e=>K e s
def ML(N:NS)(e:Ex)(s:St):Option N.den:=
 match e with
 |.normal=>dec N s
 |_=>none
def ahw(S:LS)(body:(Ex→St→Option (JY S.outs))→St→Option (JY S.outs)):Nat→S.vin.den→Option (JY S.outs)
 |0,_=>none
 |n+1,v=>body (fun e s=>match e with
  |.normal=>match dec S.vin s with
   |some v=>ahw S body n v
   |none=>none
  |e=>U6 S.outs e s) (enc S.vin v)
def axz(X:Cx):Operand→Option NS
 |.tmp t=>cZ t X.im
 |_=>none
def aCC(X:Cx):Operand→Option (List (Nat×Ty)×Nat)
 |.tmp t=>cZ t X.lcs
 |_=>none
def qq(X:Cx):Code→{R:Type}→(Ex→St→Option R)→St→Option R
 |.skip,_,K,s=>K .normal s
 |.seq a b,_,K,s=>qq X a (aCB (qq X b K) K) s
 |.cond c a b,_,K,s=>match D8 s.env c with
  |.v false [.bool t]=>match axz X c with
   |some N=>(av t (qq X a (ML N) s) (qq X b (ML N) s)).bind fun v=>K .normal (enc N v)
   |none=>match aCC X c with
    |some (l,k)=>(av t (Xy X a (apV l (s.next+k)) s) (Xy X b (apV l (s.next+k)) s)).bind fun v=>K .normal { env:=aca l v (JV (sV a++sV b)++s.env),next:=s.next+k,heap:=s.heap }
    |none=>av t (qq X a K s) (qq X b K s)
  |_=>none
 |.block id a,_,K,s=>qq X a (axy id K) s
 |.loop a,_,K,s=>match cZ (sw a) X.loops with
  |some S=>match dec S.vin s with
   |some v=>(ahw S (fun K s=>qq X a K s) X.fuel v).bind fun out=>ai3 S.outs out K
   |none=>none
  |none=>none
 |.exit id,_,K,s=>K (.exit id) s
 |.ret,_,K,s=>K .ret s
 |.region id ops draw,_,K,s=>match cZ id X.axq with
  |some N=>(GO X ops draw (fun s=>dec N s) s).bind fun v=>K .normal (enc N v)
  |none=>match cZ id X.ljs with
   |some l=>(QW X ops draw (fun s'=>ab9 s'.env l) s).bind fun v=>K .normal { env:=aca l v (JV (QX ops)++s.env),next:=s.next+ops.toList.length,heap:=s.heap }
   |none=>GO X ops draw (K .normal) s
 |.scope a,_,K,s=>qq X a K s
 |.label _,_,K,s=>K .normal s
 |_,_,_,_=>none
def xj(key:Nat):Code→Option Code
 |.seq a b=>match xj key a with
  |some c=>some c
  |none=>xj key b
 |.cond _ a b=>match xj key a with
  |some c=>some c
  |none=>xj key b
 |.block _ a=>xj key a
 |.loop a=>match bU (sw a) key with
  |true=>some a
  |false=>xj key a
 |.scope a=>xj key a
 |_=>none
def aw(X:Cx)(fn:Func)(S:LS)(key:Nat)(n:Nat)(v:S.vin.den):Option (JY S.outs):=
 match fn.body with
 |none=>none
 |some c=>match xj key c with
  |some a=>ahw S (fun K s=>qq X a K s) n v
  |none=>none
def nB:Nat→List A→Env
 |_,[]=>[]
 |n,a::r=>(n,a)::nB (n+1) r
def xk{R:Type}(X:Cx)(s:St):(rs:List Ty)→List ResultVar→bg→((lO rs).den→bg→Option R)→Option R
 |[],[],h,k=>k () h
 |[τ],[r],h,k=>resK τ r h k
 |τ::σ::rs,r::vs,h,k=>resK τ r h fun x h=>xk X s (σ::rs) vs h fun y h=>k (x,y) h
 |_,_,_,_=>none
where
 resK (τ:Ty) (r:ResultVar) (h:bg) (k:τ.den→bg→Option R):Option R:=
  match r with
  |.tmp t=>valK τ (look aJ t s.env) h k
  |.cell a t=>match cZ t X.tt with
   |some d=>(ab5 d (look aJ a s.env)).run s.next h [] fun a h _=>valK τ a h k
   |none=>none
 valK (τ:Ty) (a:A) (h:bg) (k:τ.den→bg→Option R):Option R:=
  match τ,a with
  |.sl σ,.v false [.gs c x]=>match look .dead c h with
   |.gh true K H=>match pu K (.bf (.data σ)) H,σ.cI with
    |some H,true=>(gsF H x).bind fun r=>k r.1 ((c,.gh true (.bf (.data σ)) r.2)::h)
    |_,_=>none
   |_=>none
  |τ,.v g cs=>match g==τ.isAgg&&τ.cI with
   |true=>(jM true cs fun cs=> .ret (.v g cs)).run s.next h [] fun a h _=>match a with
    |.v _ cs=>match τ.dG cs with
     |some x=>k x h
     |none=>none
    |_=>none
   |false=>none
  |_,_=>none
def sW(l:List (Nat×GK)):bg:=l.map fun k=>(k.1,.gh true k.2 [])
def apY(nc:Nat)(l:List (Nat×GK)):Bool:=QS (l.map (·.1))&&l.all fun k=>Nat.blt k.1 nc&&k.2.ok
def am(X:Cx)(fn:Func)(ps rs:List Ty)(x:(lO ps).den):Option (lO rs).den:=
 match fn.body,Nat.ble X.nt fn.ntmps&&apY X.nc X.loc with
 |none,_=>none
 |_,false=>none
 |some c,true=>qq X c (fun e s=>match e with
  |.exit _=>none
  |_=>xk X s rs fn.results.toList s.heap fun r _=>some r) { env:=nB 0 (GM ps x),next:=X.nc,heap:=sW X.loc }
def sx{R:Type}(X:Cx)(s:St):(rs:List VT)→List ResultVar→bg→((Ck rs).den→bg→Option R)→Option R
 |[],[],h,k=>k () h
 |[V],[r],h,k=>resK V r h k
 |V::U::rs,r::vs,h,k=>resK V r h fun x h=>sx X s (U::rs) vs h fun y h=>k (x,y) h
 |_,_,_,_=>none
where
 resK (V:VT) (r:ResultVar) (h:bg) (k:V.den→bg→Option R):Option R:=
  match r with
  |.tmp t=>valK V (look aJ t s.env) h k
  |.cell a t=>match cZ t X.tt with
   |some d=>(ab5 d (look aJ a s.env)).run s.next h [] fun a h _=>valK V a h k
   |none=>none
 valK (V:VT) (a:A) (h:bg) (k:V.den→bg→Option R):Option R:=
  match a with
  |.v g cs=>match g==V.isAgg&&V.ok with
   |true=>(jM true cs fun cs=> .ret (.v g cs)).run s.next h [] fun a h _=>match a with
    |.v _ cs=>match V.dG cs with
     |some x=>k x h
     |none=>none
    |_=>none
   |false=>none
  |_=>none
def acd(h:bg):(l:List (Nat×GK))→Option (gU l)
 |[]=>some ()
 |(c,K)::r=>match look .dead c h with
  |.gh true K' H=>match pu K' K H,acd h r with
   |some H,some y=>some (H,y)
   |_,_=>none
  |_=>none
def dJ(wr:Bool):(l:List (Nat×GK))→gU l→bg
 |[],_=>[]
 |(c,K)::r,x=>(c,.gh wr K x.1)::dJ wr r x.2
def sZ(X:Cx)(fn:Func)(ps rs:List VT)(ws os:List (Nat×GK))(x:(Ck ps).den)(hs:gU ws)(ho:gU os):Option ((Ck rs).den×gU ws):=
 match fn.body,Nat.ble X.nt fn.ntmps,apY X.nc (ws++os)with
 |some c,true,true=>qq X c (fun e s=>match e with
  |.exit _=>none
  |_=>sx X s rs fn.results.toList s.heap fun r h=>match acd h ws with
   |some y=>some (r,y)
   |none=>none) { env:=nB 0 (Ad ps x),next:=X.nc,heap:=dJ true ws hs++dJ false os ho }
 |_,_,_=>none
def xl(X:Cx)(fn:Func)(e:Ty)(as:List A):Option (List e.den):=
 match fn.body,Nat.ble X.nt fn.ntmps,fn.results.toList with
 |some c,true,[.tmp t]=>qq X c (fun ex s=>match ex with
  |.exit _=>none
  |_=>match look aJ t s.env with
   |.v false [c]=>(alg e c s.heap).map (·.1)
   |_=>none) { env:=nB 0 as,next:=0,heap:=[] }
 |_,_,_=>none
open Go
abbrev cD:=Nat→Nat→Prop
def dY{α:Type}(R:α→List Value→Prop):List α→List Value→Prop
 |[],vs=>vs=[]
 |x::l,vs=>∃es rest,vs=es++rest∧R x es∧dY R l rest
def At(w:World)(Z:cD)(base:Option Addr)(us:List Value):Prop:=
 us≠[]→∃b off,base=some ⟨b,off,none⟩∧∀j u,us[j]? =some u→w.cell? ⟨b,off+j,none⟩=some u∧Z b (off+j)
def PR(w:World)(Z Zp:cD):(τ:Ty)→τ.den→List Value→Prop
 |.bool,b,vs=>vs=[.bool b]
 |.int k,n,vs=>vs=[.int k n]
 |.str,s,vs=>vs=[.string ⟨s.toArray⟩]
 |.sl e,l,vs=>∃base cap us,vs=[.slice base (ae l) cap]∧ae l≤cap∧dY (PR w Z Zp e) l us∧At w Z base us
 |.pair a b,x,vs=>∃us rs,vs=us++rs∧PR w Z Zp a x.1 us∧PR w Z Zp b x.2 rs
 |.unit,_,vs=>vs=[]
 |.ref a,x,vs=>∃b off us,vs=[.pointer (some ⟨b,off,none⟩)]∧PR w Z Zp a x us∧
  ∀j u,us[j]? =some u→w.cell? ⟨b,off+j,none⟩=some u∧Zp b (off+j)
 |.fn f,_,vs=>vs=[.func (.func f) #[] #[]]
 |.cl f a,x,vs=>∃caps:Array Value,vs=[.func (.func f) #[] caps]∧PR w Z Zp a x caps.toList
theorem dY.length{α:Type}{R:α→List Value→Prop}{k:Nat}(hk:∀x es,R x es→es.length=k):∀(l:List α) (vs:List Value),dY R l vs→vs.length=l.length*k
 |[],vs,h=>by simp[dY]at h;simp[h]
 |x::l,vs,⟨es,rest,e,hx,hl⟩=>by
  subst e;simp[hk x es hx,dY.length hk l rest hl,cJ,Nat.add_comm]
theorem PR.length{w:World}{Z Zp:cD}:∀(τ:Ty) (x:τ.den) (vs:List Value),PR w Z Zp τ x vs→vs.length=τ.size
 |.bool,_,_,h=>by simp[PR]at h;simp[h,Ty.size]
 |.int _,_,_,h=>by simp[PR]at h;simp[h,Ty.size]
 |.str,_,_,h=>by simp[PR]at h;simp[h,Ty.size]
 |.sl _,_,_,⟨_,_,_,h,_⟩=>by simp[h,Ty.size]
 |.pair a b,x,_,⟨us,rs,h,h1,h2⟩=>by simp[h,Ty.size,PR.length a _ _ h1,PR.length b _ _ h2]
 |.unit,_,_,h=>by simp[PR]at h;simp[h,Ty.size]
 |.ref _,_,_,⟨_,_,_,h,_⟩=>by simp[h,Ty.size]
 |.fn _,_,_,h=>by simp[PR]at h;simp[h,Ty.size]
 |.cl _ _,_,_,⟨_,h,_⟩=>by simp[h,Ty.size]
theorem dY.mono{α:Type}{R R':α→List Value→Prop}(h:∀x es,R x es→R' x es):∀(l:List α) (vs:List Value),dY R l vs→dY R' l vs
 |[],_,hh=>hh
 |_::l,_,⟨es,rest,e,hx,hl⟩=>⟨es,rest,e,h _ _ hx,dY.mono h l rest hl⟩
def dK(w w':World)(Z Z':cD):Prop:=∀b i,Z b i→Z' b i∧w'.cell? ⟨b,i,none⟩=w.cell? ⟨b,i,none⟩
theorem dK.refl(w:World)(Z:cD):dK w w Z Z:=fun _ _ h=>⟨h,rfl⟩
theorem dK.trans{w w1 w2:World}{Z Z1 Z2:cD}(h:dK w w1 Z Z1)(k:dK w1 w2 Z1 Z2):dK w w2 Z Z2:=
 fun b i hz=>⟨(k b i (h b i hz).1).1,(k b i (h b i hz).1).2.trans (h b i hz).2⟩
theorem At.mono{w w':World}{Z Z':cD}(h:dK w w' Z Z'){base:Option Addr}{us:List Value}(ha:At w Z base us):At w' Z' base us:=by
 intro hne;obtain⟨b,off,hb,hc⟩:=ha hne;exact⟨b,off,hb,fun j u hj=>⟨(h _ _ (hc j u hj).2).2.trans (hc j u hj).1,(h _ _ (hc j u hj).2).1⟩⟩
theorem PR.mono{w w':World}{Z Z' Zp NE:cD}(h:dK w w' Z Z')(hp:dK w w' Zp NE):∀(τ:Ty) (x:τ.den) (vs:List Value),PR w Z Zp τ x vs→PR w' Z' NE τ x vs
 |.bool,_,_,hh=>hh
 |.int _,_,_,hh=>hh
 |.str,_,_,hh=>hh
 |.sl e,l,_,⟨base,cap,us,e1,e2,e3,e4⟩=>⟨base,cap,us,e1,e2,dY.mono (fun x es hx=>PR.mono h hp e x es hx) l us e3,e4.mono h⟩
 |.pair a b,_,_,⟨us,rs,e,h1,h2⟩=>⟨us,rs,e,PR.mono h hp a _ _ h1,PR.mono h hp b _ _ h2⟩
 |.unit,_,_,hh=>hh
 |.ref a,_,_,⟨b,off,us,e,h1,h2⟩=>⟨b,off,us,e,PR.mono h hp a _ _ h1,fun j u hj=>⟨(hp _ _ (h2 j u hj).2).2.trans (h2 j u hj).1,(hp _ _ (h2 j u hj).2).1⟩⟩
 |.fn _,_,_,hh=>hh
 |.cl _ a,_,_,⟨caps,e,h1⟩=>⟨caps,e,PR.mono h hp a _ _ h1⟩
theorem PR.flat{w w':World}{Z Z' Zp NE:cD}:∀(τ:Ty) (x:τ.den) (vs:List Value),τ.flat=true→PR w Z Zp τ x vs→PR w' Z' NE τ x vs
 |.bool,_,_,_,hh=>hh
 |.int _,_,_,_,hh=>hh
 |.str,_,_,_,hh=>hh
 |.sl _,_,_,hf,_=>by simp[Ty.flat]at hf
 |.pair a b,_,_,hf,⟨us,rs,e,h1,h2⟩=>by
  simp[Ty.flat]at hf;exact⟨us,rs,e,PR.flat a _ _ hf.1 h1,PR.flat b _ _ hf.2 h2⟩
 |.unit,_,_,_,hh=>hh
 |.ref _,_,_,hf,_=>by simp[Ty.flat]at hf
 |.fn _,_,_,_,hh=>hh
 |.cl _ _,_,_,hf,_=>by simp[Ty.flat]at hf
theorem PR.cI{w:World}{Z Zp NE:cD}:∀(τ:Ty) (x:τ.den) (vs:List Value),τ.cI=true→PR w Z Zp τ x vs→PR w Z NE τ x vs
 |.bool,_,_,_,hh=>hh
 |.int _,_,_,_,hh=>hh
 |.str,_,_,_,hh=>hh
 |.sl e,l,_,hf,⟨base,cap,us,e1,e2,e3,e4⟩=>⟨base,cap,us,e1,e2,dY.mono (fun x es hx=>PR.cI e x es hf hx) l us e3,e4⟩
 |.pair a b,_,_,hf,⟨us,rs,e,h1,h2⟩=>by
  simp[Ty.cI]at hf;exact⟨us,rs,e,PR.cI a _ _ hf.1 h1,PR.cI b _ _ hf.2 h2⟩
 |.unit,_,_,_,hh=>hh
 |.ref _,_,_,hf,_=>by simp[Ty.cI]at hf
 |.fn _,_,_,_,hh=>hh
 |.cl _ _,_,_,hf,_=>by simp[Ty.cI]at hf
def Ty.vals:(τ:Ty)→τ.den→List Value
 |.bool,b=>[.bool b]
 |.int k,n=>[.int k n]
 |.str,s=>[.string ⟨s.toArray⟩]
 |.pair a b,x=>a.vals x.1++b.vals x.2
 |_,_=>[]
theorem PR.vals{w:World}{Z Zp:cD}:∀(τ:Ty) (x:τ.den) (vs:List Value),τ.isKey=true→(PR w Z Zp τ x vs↔vs=τ.vals x)
 |.bool,_,_,_=>Iff.rfl
 |.int _,_,_,_=>Iff.rfl
 |.str,_,_,_=>Iff.rfl
 |.sl _,_,_,hf=>by simp[Ty.isKey]at hf
 |.pair a b,x,vs,hf=>by
  simp[Ty.isKey]at hf;constructor
  ·rintro⟨us,rs,e,h1,h2⟩;rw[e,(PR.vals a _ _ hf.1).1 h1,(PR.vals b _ _ hf.2).1 h2];rfl
  ·intro e;exact⟨_,_,e,(PR.vals a _ _ hf.1).2 rfl,(PR.vals b _ _ hf.2).2 rfl⟩
 |.unit,_,_,_=>Iff.rfl
 |.ref _,_,_,hf=>by simp[Ty.isKey]at hf
 |.fn _,_,_,hf=>by simp[Ty.isKey]at hf
 |.cl _ _,_,_,hf=>by simp[Ty.isKey]at hf
def FV(τ:Ty)(x:τ.den)(v:Value):Prop:=
 match τ.isAgg with
 |true=>v= .agg (τ.vals x).toArray
 |false=>τ.vals x=[v]
def aqM(k v:Ty)(l:List (k.den×v.den))(es:List MapEntry):Prop:=
 l.length=es.length∧∀(j:Nat) (p:k.den×v.den) (e:MapEntry),l[j]? =some p→es[j]? =some e→FV k p.1 e.key∧FV v p.2 e.val
structure G where
 al:Nat→Prop
 Z:cD
 hm:Nat→Option Nat
 lo:Nat→Nat
 pm:Nat→Nat→Option (Nat×Nat×Nat×Nat)
structure W0 extends World where
 B:Nat→Prop
 pm:Nat→Nat→Option (Nat×Nat×Nat×Nat)
 ro:Nat→Option (Σ K:GK,List (Option K.xZ))
 ws:Nat→Prop
structure W0.Extends (w0:W0) (w:World):Prop where
 os:w.os=w0.os
 tape:w.tape=w0.tape
 output:w.output=w0.output
 size:w0.heap.size≤w.heap.size
 block:∀i:Nat,i<w0.heap.size→¬ w0.B i→w.heap[i]? =w0.heap[i]?
theorem W0.Extends.trans{w0:W0}{w w':World}(h:w0.Extends w)(k:w.Extends w'):w0.Extends w':=
 ⟨k.os.trans h.os,k.tape.trans h.tape,k.output.trans h.output,eA h.size k.size,fun i hi hb=>(k.block i (ca hi h.size)).trans (h.block i hi hb)⟩
theorem W0.Extends.drew{w0:W0}{w:World}(h:w0.Extends w):w0.Extends w.drew:=⟨h.os,h.tape,h.output,h.size,h.block⟩
theorem W0.Extends.alloc{w0:W0}{w:World}(h:w0.Extends w)(o:Obj):w0.Extends (w.alloc o):=h.trans ((World.Extends.refl w).alloc o)
theorem W0.Extends.world{w0:W0}{w:World}(h:w0.Extends w)(hb:∀b,¬ w0.B b):w0.toWorld.Extends w:=by
 have hB:∀i:Nat,i<w0.heap.size→w.heap[i]? =w0.heap[i]? :=fun i hi=>h.block i hi (hb i)
 refine⟨h.os,h.tape,h.output,h.size,fun a ha=> ?_,fun a ha=> ?_,hB⟩
 ·simp only[World.cell?,hB a.block ha]
 ·simp only[World.frozen?,hB a.block ha]
def azN(w:World)(base:Nat)(g:G)(o:Nat)(size len:Nat)(v:Value):Prop:=
 (g.hm o=none∧v= .slice none 0 0∧len=0)∨
 (∃b cap cur e0,g.hm o=some b∧v= .slice (some ⟨b,0,none⟩) len cap∧w.heap[b]? =some (.cells cur e0 (0,0))∧
  len≤cap∧cap≤maxLen∧cur.size=cap*size∧base≤b∧g.lo o=len*size)
def jS:Ob→Option (Ty×Nat)
 |.row e l=>some (e,ae l)
 |.x4 e l=>some (e,ae l)
 |_=>none
def NF(v:Value):Prop:=∃a,v= .pointer a
def CR(w:World)(base:Nat)(Zp:cD)(h:bg)(g:G):C→Value→Prop
 |.undef,_=>True
 |.bool b,v=>v= .bool b
 |.int k n,v=>v= .int k n
 |.str s,v=>v= .string ⟨s.toArray⟩
 |.sl e l t,v=>PR w g.Z Zp (.sl e) l [v]∧match t with
  |.no=>True
  |.nn=>∃a n c,v= .slice (some a) n c
  |.nl=>∃n c,v= .slice none n c
  |.own o=>g.al o∧(look .dead o h= .tok→azN w base g o e.size (ae l) v)
 |.nils,v=>v= .slice none 0 0
 |.vec o,v=>g.al o∧(∃a n m,v= .slice a n m)∧∀e n,jS (look .dead o h)=some (e,n)→∃b,g.hm o=some b∧v= .slice (some ⟨b,0,none⟩) n n
 |.ptr o off,v=>g.al o∧NF v∧(look .dead o h≠.dead→∃b,g.hm o=some b∧v= .pointer (some ⟨b,off,none⟩))
 |.afO o i c,v=>g.al o∧NF v∧∀e n,jS (look .dead o h)=some (e,n)→∃b,g.hm o=some b∧v= .pointer (some ⟨b,i*e.size+c,none⟩)
 |.ar4 o off _ i,v=>g.al o∧NF v∧(look .dead o h≠.dead→∃b,g.hm o=some b∧v= .pointer (some ⟨b,off+i,none⟩))
 |.JR a x c,v=>∃b off us,v= .pointer (some ⟨b,off+c,none⟩)∧PR w g.Z Zp a x us∧
   ∀j u,us[j]? =some u→w.cell? ⟨b,off+j,none⟩=some u∧(g.Z b (off+j)∨Zp b (off+j))
 |.clos f ids,v=>∃caps,v= .func (.func f) #[] caps∧dY (fun o es=>g.al o∧∃u,es=[u]∧NF u∧(look .dead o h≠.dead→∃b,g.hm o=some b∧u= .pointer (some ⟨b,0,none⟩))) ids caps.toList
 |.nilfn,v=>v= .nilFunc
 |.nilp,v=>v= .pointer none
 |.mp o,v=>g.al o∧(∃r,v= .map (some r))∧(look .dead o h≠.dead→∃b,g.hm o=some b∧v= .map (some b))
 |.E4 f a x,v=>PR w g.Z Zp (.cl f a) x [v]
 |.gp c off x,v=>match x with
  |none=>v= .pointer none
  |some id=>∃e,g.pm c id=some e∧e.2.1=0∧v= .pointer (some ⟨e.1,off,none⟩)
 |.gs c x,v=>match x with
  |none=>v= .slice none 0 0
  |some (id,a,n)=>∃b k cap sz o,g.pm c id=some (b,k,cap,sz)∧a+n≤cap∧(a<cap→o=k+a*sz)∧v= .slice (some ⟨b,o,none⟩) n (cap -a)
 |.ge c id ix off,v=>∃b k cap sz,g.pm c id=some (b,k,cap,sz)∧v= .pointer (some ⟨b,k+ix*sz+off,none⟩)
 |.gm c x,v=>match x with
  |none=>v= .map none
  |some id=>∃e,g.pm c id=some e∧v= .map (some e.1)
def dT(w:World)(base:Nat)(Zp:cD)(h:bg)(g:G):List C→List Value→Prop
 |[],vs=>vs=[]
 |c::cs,vs=>∃v rest,vs=v::rest∧CR w base Zp h g c v∧dT w base Zp h g cs rest
def VR(w:World)(base:Nat)(Zp:cD)(h:bg)(g:G)(agg:Bool)(cs:List C)(v:Value):Prop:=
 match agg with
 |true=>∃vs:List Value,v= .agg vs.toArray∧dT w base Zp h g cs vs
 |false=>dT w base Zp h g cs [v]
def AR(w:World)(base:Nat)(Zp:cD)(h:bg)(g:G):A→Value→Prop
 |.v agg cs,v=>VR w base Zp h g agg cs v
 |.lO ps,v=>∃vs:List Value,v= .tuple vs.toArray∧dY (fun(p:Bool×List C) es=>∃u,es=[u]∧VR w base Zp h g p.1 p.2 u) ps vs
def QZ(w:World)(base:Nat)(Zp:cD)(h:bg)(g:G)(o:Nat):Ob→Prop
 |.dead=>True
 |.tok=>True
 |.cells cs=>∃b cur e0,g.hm o=some b∧w.heap[b]? =some (.cells cur e0 (0,0))∧dT w base Zp h g cs cur.toList
 |.row e l=>0<e.size∧e.cI=true∧∃b cur e0,g.hm o=some b∧w.heap[b]? =some (.cells cur e0 (0,0))∧dY (PR w g.Z Zp e) l cur.toList
 |.x4 e l=>0<e.size∧e.cI=true∧∃b cur e0 fz,g.hm o=some b∧w.heap[b]? =some (.cells cur e0 fz)∧dY (PR w g.Z Zp e) l cur.toList∧∀i,i<cur.size→g.Z b i
 |.map k v l=>k.isKey=true∧v.isKey=true∧(l.map (·.1)).Nodup∧∃b es clock,g.hm o=some b∧w.heap[b]? =some (.map es clock)∧aqM k v l es.toList
 |.gh _ _ _=>g.hm o=none
def vp(w:World)(base:Nat)(Zp:cD)(h:bg)(g:G)(c id:Nat):(K:GK)→K.xZ→Prop
 |.st V,x=>0<V.size∧∃b cap cur e0,g.pm c id=some (b,0,cap,V.size)∧w.heap[b]? =some (.cells cur e0 (0,0))∧dT w base Zp h g (V.cells x) cur.toList
 |.bf V,l=>0<V.size∧∃b k cap cur e0,g.pm c id=some (b,k,cap,V.size)∧w.heap[b]? =some (.cells cur e0 (0,0))∧cur.size=k+cap*V.size∧ae l≤cap∧cap≤maxLen∧
  dY (fun y es=>dT w base Zp h g (V.cells y) es) l ((cur.toList.drop k).take (ae l*V.size))
 |.mp k V,l=>k.isKey=true∧(List.map (·.1) l).Nodup∧∃b es clock,g.pm c id=some (b,0,0,0)∧w.heap[b]? =some (.map es clock)∧ae l=es.size∧
  ∀(j:Nat) (p:k.den×V.den) (e:MapEntry),nth (α:=k.den×V.den) l j=some p→es[j]? =some e→FV k p.1 e.key∧VR w base Zp h g V.isAgg (V.cells p.2) e.val
def GL(h:bg)(g:G)(c id b:Nat):Prop:=∃wr K H x e,look .dead c h= .gh wr K H∧H[id]? =some (some x)∧g.pm c id=some e∧e.1=b
structure GHR (w0:W0) (Zp:cD) (h:bg) (g:G) (w:World):Prop where
 xZ:∀c wr K H id x,look .dead c h= .gh wr K H→H[id]? =some (some x)→vp w w0.heap.size Zp h g c id K x
 fresh:∀c wr K H id,look .dead c h= .gh wr K H→H.length≤id→g.pm c id=none
 lt:∀c id b,GL h g c id b→b<w.heap.size
 own:∀c K H id x e,look .dead c h= .gh true K H→H[id]? =some (some x)→g.pm c id=some e→w0.heap.size≤e.1∨w0.B e.1
 oa:∀c id c' id' b,GL h g c id b→GL h g c' id' b→c=c'∧id=id'
 lq:∀c id b i,GL h g c id b→¬ g.Z b i
 loc:∀c id b o,GL h g c id b→look .dead o h≠.dead→g.hm o=some b→False
 psz:∀c wr V H id e,look .dead c h= .gh wr (.bf V) H→g.pm c id=some e→e.2.2.2=V.size
 old:∀c id e,w0.pm c id=some e→g.pm c id=some e
 ro:∀c K H,look .dead c h= .gh false K H→w0.ro c=some ⟨K,H⟩
 zpx:∀c id b i,GL h g c id b→¬ Zp b i
 kok:∀c wr K H,look .dead c h= .gh wr K H→K.ok=true
 wsr:∀c K H,look .dead c h= .gh true K H→w0.ws c
 new:∀c id e,g.pm c id=some e→w0.pm c id=some e∨w0.ws c
def Ob.open? :Ob→Bool
 |.cells _=>true
 |.row _ _=>true
 |.map _ _ _=>true
 |_=>false
structure HR (w0:W0) (Z0 Zp:cD) (h:bg) (g:G) (w:World):Prop where
 ext:w0.Extends w
 ob:∀o,QZ w w0.heap.size Zp h g o (look .dead o h)
 dead:∀o,¬ g.al o→look .dead o h= .dead
 home:∀o b,look .dead o h≠.dead→g.hm o=some b→w0.heap.size≤b∧b<w.heap.size
 oa:∀o p b,look .dead o h≠.dead→look .dead p h≠.dead→g.hm o=some b→g.hm p=some b→o=p
 lq:∀o b i,(look .dead o h).open? =true→g.hm o=some b→¬ g.Z b i
 Na:∀o b i,look .dead o h= .tok→g.hm o=some b→g.Z b i→i<g.lo o
 Nb:∀b i,g.Z b i→b<w.heap.size
 JZ:∀b i,b<w0.heap.size→g.Z b i→Z0 b i∨w0.B b
 z0:∀b i,Z0 b i→g.Z b i
 zp:∀b i,Zp b i→b<w0.heap.size∧¬ w0.B b
 gh:GHR w0 Zp h g w
def Ob.to(x y:Ob):Prop:=
 y= .dead∨(x= .tok∧y= .tok)∨(∃cs cs',x= .cells cs∧y= .cells cs')∨(∃r,jS x=some r∧jS y=some r)∨(∃k v l l',x= .map k v l∧y= .map k v l')∨(∃K H H',x= .gh true K H∧y= .gh true K H')∨(∃K H,x= .gh false K H∧y= .gh false K H)
theorem Ob.to.refl(x:Ob):x.to x:=by
 cases x
 ·exact .inl rfl
 ·exact .inr (.inl ⟨rfl,rfl⟩)
 ·exact .inr (.inr (.inl ⟨_,_,rfl,rfl⟩))
 ·exact .inr (.inr (.inr (.inl ⟨_,rfl,rfl⟩)))
 ·exact .inr (.inr (.inr (.inl ⟨_,rfl,rfl⟩)))
 ·exact .inr (.inr (.inr (.inr (.inl ⟨_,_,_,_,rfl,rfl⟩))))
 ·rename_i wr K H
  cases wr
  ·exact .inr (.inr (.inr (.inr (.inr (.inr ⟨_,_,rfl,rfl⟩)))))
  ·exact .inr (.inr (.inr (.inr (.inr (.inl ⟨_,_,_,rfl,rfl⟩)))))
structure Le (Zp:cD) (h:bg) (g:G) (w:World) (h':bg) (g':G) (w':World):Prop where
 al:∀o,g.al o→g'.al o
 z:dK w w' g.Z g'.Z
 zp:dK w w' Zp Zp
 ob:∀o,g.al o→(look .dead o h).to (look .dead o h')
 hm:∀o,g.al o→look .dead o h'≠.dead→g'.hm o=g.hm o
 tok:∀o,g.al o→look .dead o h'= .tok→g'.lo o=g.lo o∧∀b,g.hm o=some b→w'.heap[b]? =w.heap[b]?
 pm:∀c id e,g.pm c id=some e→g'.pm c id=some e
theorem Le.refl(Zp:cD)(h:bg)(g:G)(w:World):Le Zp h g w h g w:=
 ⟨fun _ h=>h,dK.refl _ _,dK.refl _ _,fun _ _=>Ob.to.refl _,fun _ _ _=>rfl,fun _ _ _=>⟨rfl,fun _ _=>rfl⟩,fun _ _ _ h=>h⟩
theorem Ob.to.alive{x y:Ob}(h:x.to y)(hy:y≠.dead):x≠.dead:=by
 rcases h with h |⟨rfl,rfl⟩|⟨_,_,rfl,rfl⟩|⟨r,h1,h2⟩|⟨_,_,_,_,rfl,rfl⟩|⟨_,_,_,rfl,rfl⟩|⟨_,_,rfl,rfl⟩
 ·exact absurd h hy
 ·simp
 ·simp
 ·intro hx;subst hx;simp[jS]at h1
 ·simp
 ·simp
 ·simp
theorem Ob.to.row{x y:Ob}(h:x.to y){r:Ty×Nat}(hy:jS y=some r):jS x=some r:=by
 rcases h with rfl |⟨rfl,rfl⟩|⟨_,_,rfl,rfl⟩|⟨q,h1,h2⟩|⟨_,_,_,_,rfl,rfl⟩|⟨_,_,_,rfl,rfl⟩|⟨_,_,rfl,rfl⟩
 ·simp[jS]at hy
 ·simp[jS]at hy
 ·simp[jS]at hy
 ·rw[h2]at hy;cases hy;exact h1
 ·simp[jS]at hy
 ·simp[jS]at hy
 ·simp[jS]at hy
theorem Ob.to.tok{x y:Ob}(h:x.to y)(hy:y= .tok):x= .tok:=by
 subst hy;rcases h with h |⟨rfl,_⟩|⟨_,_,_,h⟩|⟨q,_,h⟩|⟨_,_,_,_,_,h⟩|⟨_,_,_,_,h⟩|⟨_,_,_,h⟩
 ·cases h
 ·rfl
 ·cases h
 ·simp[jS]at h
 ·cases h
 ·cases h
 ·cases h
section
variable {w w':World} {base:Nat} {Zp:cD} {h h':bg} {g g':G}
theorem CR.mono(L:Le Zp h g w h' g' w'):∀(c:C) (v:Value),CR w base Zp h g c v→CR w' base Zp h' g' c v
 |.undef,_,_=>trivial
 |.bool _,_,hh=>hh
 |.int _ _,_,hh=>hh
 |.str _,_,hh=>hh
 |.sl e l t,v,⟨h1,h2⟩=>by
  refine⟨PR.mono L.z L.zp _ _ _ h1,?_⟩
  cases t with
  |no=>trivial
  |nn=>exact h2
  |nl=>exact h2
  |own o=>
   obtain⟨ha,h2⟩:=h2;refine⟨L.al o ha,fun ht=> ?_⟩;have ht0:=(L.ob o ha).tok ht;have hhm:=L.hm o ha (by rw[ht];simp);obtain⟨hlo,hb⟩:=L.tok o ha ht;rcases h2 ht0 with⟨a,b,c⟩|⟨b,cap,cur,e0,a1,a2,a3,a4⟩
   ·exact .inl ⟨hhm.trans a,b,c⟩
   ·exact .inr ⟨b,cap,cur,e0,hhm.trans a1,a2,(hb b a1).trans a3,a4.1,a4.2.1,a4.2.2.1,a4.2.2.2.1,hlo.trans a4.2.2.2.2⟩
 |.nils,_,hh=>hh
 |.vec o,v,⟨ha,hs,hr⟩=>⟨L.al o ha,hs,fun e n he=>by
   obtain⟨b,h1,h2⟩:=hr e n ((L.ob o ha).row he);exact⟨b,(L.hm o ha (by intro hd;rw[hd]at he;simp[jS]at he)).trans h1,h2⟩⟩
 |.ptr o off,v,⟨ha,hs,hr⟩=>⟨L.al o ha,hs,fun hd=>by
   obtain⟨b,h1,h2⟩:=hr ((L.ob o ha).alive hd);exact⟨b,(L.hm o ha hd).trans h1,h2⟩⟩
 |.afO o i c,v,⟨ha,hs,hr⟩=>⟨L.al o ha,hs,fun e n he=>by
   obtain⟨b,h1,h2⟩:=hr e n ((L.ob o ha).row he);exact⟨b,(L.hm o ha (by intro hd;rw[hd]at he;simp[jS]at he)).trans h1,h2⟩⟩
 |.ar4 o off _ i,v,⟨ha,hs,hr⟩=>⟨L.al o ha,hs,fun hd=>by
   obtain⟨b,h1,h2⟩:=hr ((L.ob o ha).alive hd);exact⟨b,(L.hm o ha hd).trans h1,h2⟩⟩
 |.JR a x c,v,⟨b,off,us,h1,h2,h3⟩=>⟨b,off,us,h1,PR.mono L.z L.zp _ _ _ h2,fun j u hj=>by
   obtain⟨h4,h5⟩:=h3 j u hj;rcases h5 with h5 |h5
   ·exact⟨(L.z _ _ h5).2.trans h4,.inl (L.z _ _ h5).1⟩
   ·exact⟨(L.zp _ _ h5).2.trans h4,.inr h5⟩⟩
 |.clos f ids,v,⟨caps,h1,h2⟩=>⟨caps,h1,dY.mono (fun o es ⟨ha,u,e,hp,hr⟩=>⟨L.al o ha,u,e,hp,fun hd=>by
   obtain⟨b,h1,h2⟩:=hr ((L.ob o ha).alive hd);exact⟨b,(L.hm o ha hd).trans h1,h2⟩⟩) _ _ h2⟩
 |.nilfn,_,hh=>hh
 |.nilp,_,hh=>hh
 |.mp o,v,⟨ha,hs,hr⟩=>⟨L.al o ha,hs,fun hd=>by
   obtain⟨b,h1,h2⟩:=hr ((L.ob o ha).alive hd);exact⟨b,(L.hm o ha hd).trans h1,h2⟩⟩
 |.E4 _ _ _,_,hh=>PR.mono L.z L.zp _ _ _ hh
 |.gp c off none,_,hh=>hh
 |.gp c off (some id),_,⟨e,h1,h2⟩=>⟨e,L.pm _ _ _ h1,h2⟩
 |.gs c none,_,hh=>hh
 |.gs c (some (id,a,n)),_,⟨b,k,cap,sz,o,h1,h2⟩=>⟨b,k,cap,sz,o,L.pm _ _ _ h1,h2⟩
 |.ge c id ix off,_,⟨b,k,cap,sz,h1,h2⟩=>⟨b,k,cap,sz,L.pm _ _ _ h1,h2⟩
 |.gm c none,_,hh=>hh
 |.gm c (some id),_,⟨e,h1,h2⟩=>⟨e,L.pm _ _ _ h1,h2⟩
theorem dT.mono(L:Le Zp h g w h' g' w'):∀(cs:List C) (vs:List Value),dT w base Zp h g cs vs→dT w' base Zp h' g' cs vs
 |[],_,hh=>hh
 |c::cs,_,⟨v,rest,e,h1,h2⟩=>⟨v,rest,e,CR.mono L c v h1,dT.mono L cs rest h2⟩
theorem VR.mono(L:Le Zp h g w h' g' w')(agg:Bool)(cs:List C)(v:Value)(hh:VR w base Zp h g agg cs v):VR w' base Zp h' g' agg cs v:=by
 cases agg with
 |true=>obtain⟨vs,e,h1⟩:=hh;exact⟨vs,e,dT.mono L _ _ h1⟩
 |false=>exact dT.mono L _ _ hh
theorem AR.mono(L:Le Zp h g w h' g' w')(a:A)(v:Value)(hh:AR w base Zp h g a v):AR w' base Zp h' g' a v:=by
 cases a with
 |v agg cs=>exact VR.mono L _ _ _ hh
 |lO ps=>
  obtain⟨vs,e,h1⟩:=hh;exact⟨vs,e,dY.mono (fun p es ⟨u,e,hu⟩=>⟨u,e,VR.mono L _ _ _ hu⟩) _ _ h1⟩
end
theorem dT.length{w:World}{base:Nat}{Zp:cD}{h:bg}{g:G}:∀(cs:List C) (vs:List Value),dT w base Zp h g cs vs→vs.length=cs.length
 |[],_,hh=>by simp[dT]at hh;simp[hh]
 |_::cs,_,⟨v,rest,e,_,h2⟩=>by simp[e,dT.length cs rest h2]
theorem dT.append{w:World}{base:Nat}{Zp:cD}{h:bg}{g:G}:∀(cs ds:List C) (vs us:List Value),dT w base Zp h g cs vs→dT w base Zp h g ds us→dT w base Zp h g (cs++ds) (vs++us)
 |[],_,_,_,h1,h2=>by simp[dT]at h1;subst h1;simpa using h2
 |_::cs,ds,_,us,⟨v,rest,e,h1,h3⟩,h2=>by subst e;exact⟨v,rest++us,by simp,h1,dT.append cs ds rest us h3 h2⟩
theorem dT.split{w:World}{base:Nat}{Zp:cD}{h:bg}{g:G}:∀(cs ds:List C) (vs:List Value),dT w base Zp h g (cs++ds) vs→∃us rs,vs=us++rs∧dT w base Zp h g cs us∧dT w base Zp h g ds rs
 |[],_,vs,hh=>⟨[],vs,by simp,by simp[dT],by simpa using hh⟩
 |_::cs,ds,_,⟨v,rest,e,h1,h2⟩=>by
  obtain⟨us,rs,e2,h3,h4⟩:=dT.split cs ds rest h2;exact⟨v::us,rs,by simp[e,e2],⟨v,us,rfl,h1,h3⟩,h4⟩
theorem dT.take{w:World}{base:Nat}{Zp:cD}{h:bg}{g:G}(n:Nat):∀(cs:List C) (vs:List Value),dT w base Zp h g cs vs→dT w base Zp h g (cs.take n) (vs.take n):=by
 induction n with
 |zero=>intro cs vs _;simp[dT]
 |succ n ih=>
  intro cs vs hh
  cases cs with
  |nil=>simp[dT]at hh;subst hh;simp[dT]
  |cons c cs=>obtain⟨v,rest,e,h1,h2⟩:=hh;subst e;exact⟨v,rest.take n,by simp,h1,ih _ _ h2⟩
theorem dT.drop{w:World}{base:Nat}{Zp:cD}{h:bg}{g:G}(n:Nat):∀(cs:List C) (vs:List Value),dT w base Zp h g cs vs→dT w base Zp h g (cs.drop n) (vs.drop n):=by
 induction n with
 |zero=>intro cs vs hh;simpa using hh
 |succ n ih=>
  intro cs vs hh
  cases cs with
  |nil=>simp[dT]at hh;subst hh;simp[dT]
  |cons c cs=>obtain⟨v,rest,e,h1,h2⟩:=hh;subst e;simpa using ih _ _ h2
theorem CR.one{w:World}{base:Nat}{Zp:cD}{h:bg}{g:G}:∀(c:C) (v:Value),c.known=true→CR w base Zp h g c v→v.oneCell'=true
 |.undef,_,hk,_=>by simp[C.known]at hk
 |.bool _,_,_,hh=>by simp[CR]at hh;subst hh;rfl
 |.int _ _,_,_,hh=>by simp[CR]at hh;subst hh;rfl
 |.str _,_,_,hh=>by simp[CR]at hh;subst hh;rfl
 |.sl _ _ _,_,_,⟨⟨_,_,_,hh,_⟩,_⟩=>by simp at hh;subst hh;rfl
 |.nils,_,_,hh=>by simp[CR]at hh;subst hh;rfl
 |.vec _,_,_,⟨_,⟨_,_,_,hh⟩,_⟩=>by subst hh;rfl
 |.ptr _ _,_,_,⟨_,⟨_,hh⟩,_⟩=>by subst hh;rfl
 |.afO _ _ _,_,_,⟨_,⟨_,hh⟩,_⟩=>by subst hh;rfl
 |.ar4 _ _ _ _,_,_,⟨_,⟨_,hh⟩,_⟩=>by subst hh;rfl
 |.JR _ _ _,_,_,⟨_,_,_,hh,_⟩=>by subst hh;rfl
 |.clos _ _,_,_,⟨_,hh,_⟩=>by subst hh;rfl
 |.nilfn,_,_,hh=>by simp[CR]at hh;subst hh;rfl
 |.nilp,_,_,hh=>by simp[CR]at hh;subst hh;rfl
 |.mp _,_,_,⟨_,⟨_,hh⟩,_⟩=>by subst hh;rfl
 |.E4 _ _ _,_,_,⟨_,hh,_⟩=>by simp at hh;subst hh;rfl
 |.gp _ _ none,_,_,hh=>by simp[CR]at hh;subst hh;rfl
 |.gp _ _ (some _),_,_,⟨_,_,_,hh⟩=>by subst hh;rfl
 |.gs _ none,_,_,hh=>by simp[CR]at hh;subst hh;rfl
 |.gs _ (some (_,_,_)),_,_,⟨_,_,_,_,_,_,_,_,hh⟩=>by subst hh;rfl
 |.ge _ _ _ _,_,_,⟨_,_,_,_,_,hh⟩=>by subst hh;rfl
 |.gm _ none,_,_,hh=>by simp[CR]at hh;subst hh;rfl
 |.gm _ (some _),_,_,⟨_,_,hh⟩=>by subst hh;rfl
theorem dT.one{w:World}{base:Nat}{Zp:cD}{h:bg}{g:G}:∀(cs:List C) (vs:List Value),cs.all C.known=true→dT w base Zp h g cs vs→∀v∈vs,v.oneCell'=true
 |[],_,_,hh=>by simp[dT]at hh;simp[hh]
 |c::cs,_,hk,⟨v,rest,e,h1,h2⟩=>by
  simp at hk;subst e;intro u hu;simp at hu;rcases hu with rfl |hu
  ·exact CR.one c u hk.1 h1
  ·exact dT.one cs rest (by simpa using hk.2) h2 u hu
theorem dT.uZ{w:World}{base:Nat}{Zp:cD}{h:bg}{g:G}:∀(τ:Ty) (x:τ.den) (vs:List Value),PR w g.Z Zp τ x vs→dT w base Zp h g (τ.cells x) vs
 |.bool,_,_,hh=>⟨_,[],hh,rfl,rfl⟩
 |.int _,_,_,hh=>⟨_,[],hh,rfl,rfl⟩
 |.str,_,_,hh=>⟨_,[],hh,rfl,rfl⟩
 |.sl e,l,_,⟨base,cap,us,e1,e2⟩=>⟨_,[],e1,⟨⟨base,cap,us,rfl,e2⟩,trivial⟩,rfl⟩
 |.pair a b,x,_,⟨us,rs,e,h1,h2⟩=>by subst e;exact dT.append _ _ _ _ (dT.uZ a _ _ h1) (dT.uZ b _ _ h2)
 |.unit,_,_,hh=>hh
 |.ref a,x,_,⟨b,off,us,e,h1,h2⟩=>⟨_,[],e,⟨b,off,us,by simp,h1,fun j u hj=>⟨(h2 j u hj).1,.inr (h2 j u hj).2⟩⟩,rfl⟩
 |.fn f,_,_,hh=>⟨_,[],hh,⟨#[],rfl,by simp[dY]⟩,rfl⟩
 |.cl f a,x,_,⟨caps,e,h1⟩=>⟨_,[],e,⟨caps,rfl,h1⟩,rfl⟩
theorem oE{a b:Ty}{l:List a.den}{m:List b.den}(hc:rY a b l=some m):∃h:a=b,m=h▸l:=by
 unfold rY at hc
 split at hc
 ·rename_i h _;cases hc;exact⟨h,rfl⟩
 ·cases hc
theorem abB{w:World}{base:Nat}{Zp:cD}{h:bg}{g:G}:∀(τ:Ty) (cs:List C) (vs:List Value) (x:τ.den) (r:List C),τ.cI=true→dT w base Zp h g cs vs→τ.take cs=some (x,r)→
  ∃us rs,vs=us++rs∧PR w g.Z Zp τ x us∧dT w base Zp h g r rs
 |.bool,cs,vs,x,r,_,hc,ht=>by
  cases cs with
  |nil=>simp[Ty.take]at ht
  |cons c cs=>
   obtain⟨v,rest,e,h1,h2⟩:=hc
   cases c<;>simp[Ty.take]at ht;obtain⟨rfl,rfl⟩:=ht;simp[CR]at h1;exact⟨[v],rest,e,by simp[PR,h1],h2⟩
 |.int k,cs,vs,x,r,_,hc,ht=>by
  cases cs with
  |nil=>simp[Ty.take]at ht
  |cons c cs=>
   obtain⟨v,rest,e,h1,h2⟩:=hc
   cases c<;>simp only[Ty.take]at ht<;>try (cases ht;done)
   split at ht
   ·rename_i hk _;subst hk;simp at ht;obtain⟨rfl,rfl⟩:=ht;simp[CR]at h1;exact⟨[v],rest,e,by simp[PR,h1],h2⟩
   ·cases ht
 |.str,cs,vs,x,r,_,hc,ht=>by
  cases cs with
  |nil=>simp[Ty.take]at ht
  |cons c cs=>
   obtain⟨v,rest,e,h1,h2⟩:=hc
   cases c<;>simp[Ty.take]at ht;obtain⟨rfl,rfl⟩:=ht;simp[CR]at h1;exact⟨[v],rest,e,by simp[PR,h1],h2⟩
 |.sl e,cs,vs,x,r,_,hc,ht=>by
  cases cs with
  |nil=>simp[Ty.take]at ht
  |cons c cs=>
   obtain⟨v,rest,e1,h1,h2⟩:=hc
   cases c<;>simp only[Ty.take]at ht<;>try (cases ht;done)
   ·rename_i e' l t
    split at ht
    ·rename_i m hm;obtain⟨he,hm⟩:=oE hm;subst he;subst hm;simp at ht;obtain⟨rfl,rfl⟩:=ht;exact⟨[v],rest,e1,h1.1,h2⟩
    ·cases ht
   ·simp at ht;obtain⟨rfl,rfl⟩:=ht;simp[CR]at h1;exact⟨[v],rest,e1,⟨none,0,[],by simp[h1],by simp,by simp[dY],by simp[At]⟩,h2⟩
 |.pair a b,cs,vs,x,r,hn,hc,ht=>by
  simp[Ty.cI]at hn;simp only[Ty.take]at ht
  split at ht
  ·rename_i y r1 h1
   split at ht
   ·rename_i z r2 h2
    cases ht;obtain⟨us,rs,e,p1,c1⟩:=abB a cs vs y r1 hn.1 hc h1;obtain⟨us2,rs2,e2,p2,c2⟩:=abB b r1 rs z _ hn.2 c1 h2;exact⟨us++us2,rs2,by simp[e,e2],⟨us,us2,rfl,p1,p2⟩,c2⟩
   ·cases ht
  ·cases ht
 |.unit,cs,vs,x,r,_,hc,ht=>by
  cases ht;exact⟨[],vs,by simp,by simp[PR],hc⟩
 |.ref a,_,_,_,_,hn,_,_=>by simp[Ty.cI]at hn
 |.cl _ _,_,_,_,_,hn,_,_=>by simp[Ty.cI]at hn
 |.fn f,cs,vs,x,r,_,hc,ht=>by
  cases cs with
  |nil=>simp[Ty.take]at ht
  |cons c cs=>
   obtain⟨v,rest,e1,h1,h2⟩:=hc
   cases c<;>try (cases ht;done)
   rename_i g' ids
   cases ids with
   |cons _ _=>cases ht
   |nil=>
   simp only[Ty.take]at ht
   split at ht
   ·rename_i hf _;subst hf
    cases ht;obtain⟨caps,e2,e3⟩:=h1;simp[dY]at e3;have:caps= #[]:=by simpa using e3
    subst this;exact⟨[v],rest,e1,by simp[PR,e2],h2⟩
   ·cases ht
theorem eM{w:World}{base:Nat}{Zp:cD}{h:bg}{g:G}{τ:Ty}{cs:List C}{vs:List Value}{x:τ.den}(hn:τ.cI=true)(hc:dT w base Zp h g cs vs)(ht:τ.dG cs=some x):PR w g.Z Zp τ x vs:=by
 unfold Ty.dG at ht
 split at ht
 ·rename_i y hy
  cases ht;obtain⟨us,rs,e,p,c⟩:=abB τ cs vs _ _ hn hc hy;simp[dT]at c;subst c;simp at e;subst e;exact p
 ·cases ht
end Go.Am
