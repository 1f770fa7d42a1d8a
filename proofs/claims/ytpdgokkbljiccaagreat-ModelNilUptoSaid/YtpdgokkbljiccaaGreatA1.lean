import Derived.WalkKit
import Derived.Deep.AppendSrc
set_option linter.unusedVariables false
set_option linter.unusedSimpArgs false
open Bool renaming and_eq_true→ae
open List renaming getElem?_append_left→aH,getElem?_append_right→aY,getElem?_eq_none→bM,getElem?_set_ne→bI,getElem?_set_self→bJ,length→aa,mem_cons_of_mem→bz,replicate→bE
open Nat renaming add_mul→bF,beq→aJ,eq_of_beq_eq_true→af,le_refl→aq,lt_of_lt_of_le→aK,lt_or_ge→cx
open Go.World renaming cell?_of_block→az
namespace Go.Am
inductive Ty where
 |bool |int (k:IntKind)|str |sl (e:Ty)|pair (a b:Ty)|unit |ref (a:Ty)|fn (f:FuncId)|cl (f:FuncId) (a:Ty)
 deriving DecidableEq
def Ty.den:Ty→Type
 |.bool=>Bool
 |.int _=>Int
 |.str=>List UInt8
 |.sl e=>List e.den
 |.pair a b=>a.den×b.den
 |.unit=>Unit
 |.ref a=>a.den
 |.fn _=>Unit
 |.cl _ a=>a.den
def Ty.size:Ty→Nat
 |.pair a b=>a.size+b.size
 |.unit=>0
 |_=>1
def Ty.isAgg:Ty→Bool
 |.pair _ _ |.unit=>true
 |_=>false
def Ty.zero:(τ:Ty)→τ.den
 |.bool=>false
 |.int _=>(0:Int)
 |.str=>([]:List UInt8)
 |.sl _=>[]
 |.pair a b=>(a.zero,b.zero)
 |.unit=>()
 |.ref a=>a.zero
 |.fn _=>()
 |.cl _ a=>a.zero
def eo:List Ty→Ty
 |[]=> .unit
 |[a]=>a
 |a::b::r=> .pair a (eo (b::r))
def Kb:List Ty→Ty
 |[]=> .unit
 |[a]=> .pair a .unit
 |a::b::r=> .pair a (eo (b::r))
inductive VT where
 |data (τ:Ty)|gp (c off:Nat)|gs (c:Nat)|gm (c:Nat)|cl (f:FuncId) (l m:List (Nat×Nat))|pair (a b:VT)|unit
 deriving DecidableEq
def VT.den:VT→Type
 |.data τ=>τ.den
 |.gp _ _=>Option Nat
 |.gs _=>Option (Nat×Nat×Nat)
 |.gm _=>Option Nat
 |.cl _ _ _=>Option (List Nat×List Nat)
 |.pair a b=>a.den×b.den
 |.unit=>Unit
def VT.size:VT→Nat
 |.data τ=>τ.size
 |.pair a b=>a.size+b.size
 |.unit=>0
 |_=>1
def VT.isAgg:VT→Bool
 |.data τ=>τ.isAgg
 |.pair _ _ |.unit=>true
 |_=>false
def VT.zero:(V:VT)→V.den
 |.data τ=>τ.zero
 |.gp _ _=>(none:Option Nat)
 |.gs _=>(none:Option (Nat×Nat×Nat))
 |.gm _=>(none:Option Nat)
 |.cl _ _ _=>(none:Option (List Nat×List Nat))
 |.pair a b=>(a.zero,b.zero)
 |.unit=>()
def iz:List VT→VT
 |[]=> .unit
 |[a]=>a
 |a::b::r=> .pair a (iz (b::r))
inductive GK where
 |st (V:VT)|bf (V:VT)|mp (k:Ty) (V:VT)
 deriving DecidableEq
def GK.ga:GK→Type
 |.st V=>V.den
 |.bf V=>List V.den
 |.mp k V=>List (k.den×V.den)
inductive Mw where
 |no |nn |nl |own (o:Nat)
inductive C where
 |undef
 |bool (b:Bool)
 |int (k:IntKind) (n:Int)
 |str (s:List UInt8)
 |sl (e:Ty) (l:List e.den) (t:Mw)
 |nils
 |vec (o:Nat)
 |ptr (o off:Nat)
 |xn (o i c:Nat)
 |E2 (o off len i:Nat)
 |mj (a:Ty) (x:a.den) (c:Nat)
 |clos (f:FuncId) (caps:List Nat)
 |nilfn
 |nilp
 |mp (o:Nat)
 |kI (f:FuncId) (a:Ty) (x:a.den)
 |gp (c off:Nat) (x:Option Nat)
 |gs (c:Nat) (x:Option (Nat×Nat×Nat))
 |ge (c id ix off:Nat)
 |gm (c:Nat) (x:Option Nat)
 |gcl (f:FuncId) (l m:List (Nat×Nat)) (x:Option (List Nat×List Nat))
inductive A where
 |v (agg:Bool) (cs:List C)
 |eo (ps:List (Bool×List C))
def ar:A:=.v false [.undef]
def gR:A:=.eo []
inductive Ob where
 |dead
 |tok
 |cells (cs:List C)
 |row (e:Ty) (l:List e.den)
 |iA (e:Ty) (l:List e.den)
 |map (k v:Ty) (l:List (k.den×v.den))
 |gh (wr:Bool) (K:GK) (H:List (Option K.ga))
def Ty.cells:(τ:Ty)→τ.den→List C
 |.bool,b=>[.bool b]
 |.int k,n=>[.int k n]
 |.str,s=>[.str s]
 |.sl e,l=>[.sl e l .no]
 |.pair a b,x=>a.cells x.1++b.cells x.2
 |.unit,_=>[]
 |.ref a,x=>[.mj a x 0]
 |.fn f,_=>[.clos f []]
 |.cl f a,x=>[.kI f a x]
def Ty.er:Ty→List C
 |.bool=>[.bool false]
 |.int k=>[.int k 0]
 |.str=>[.str []]
 |.sl _=>[.nils]
 |.pair a b=>a.er++b.er
 |.unit=>[]
 |.ref _=>[.nilp]
 |.fn _=>[.nilfn]
 |.cl _ _=>[.nilfn]
def fP(a b:Ty)(l:List a.den):Option (List b.den):=
 match decEq a b with
 |.isTrue h=>some (h▸l)
 |.isFalse _=>none
def gb(a b:Ty)(x:a.den):Option b.den:=
 match decEq a b with
 |.isTrue h=>some (h▸x)
 |.isFalse _=>none
def Ty.take:(τ:Ty)→List C→Option (τ.den×List C)
 |.bool,.bool b::r=>some (b,r)
 |.int k,.int j n::r=>match decEq k j with |.isTrue _=>some (n,r)|.isFalse _=>none
 |.str,.str s::r=>some (s,r)
 |.sl e,.sl i l _::r=>match fP i e l with |some l=>some (l,r)|none=>none
 |.sl _,.nils::r=>some ([],r)
 |.pair a b,h=>match a.take h with
  |some (x,r)=>match b.take r with
   |some (y,p)=>some ((x,y),p)
   |none=>none
  |none=>none
 |.unit,h=>some ((),h)
 |.ref a,.mj d x 0::r=>match gb d a x with |some x=>some (x,r)|none=>none
 |.fn f,.clos g []::r=>match decEq f g with |.isTrue _=>some ((),r)|.isFalse _=>none
 |.cl f a,.kI g d x::r=>match decEq f g with |.isTrue _=>(match gb d a x with |some x=>some (x,r)|none=>none)|.isFalse _=>none
 |_,_=>none
def Ty.bp(τ:Ty)(cs:List C):Option τ.den:=
 match τ.take cs with
 |some (x,[])=>some x
 |_=>none
def VT.cells:(V:VT)→V.den→List C
 |.data τ,x=>τ.cells x
 |.gp c d,x=>[.gp c d x]
 |.gs c,x=>[.gs c x]
 |.gm c,x=>[.gm c x]
 |.cl f l m,x=>[.gcl f l m x]
 |.pair a b,x=>a.cells x.1++b.cells x.2
 |.unit,_=>[]
def VT.er:VT→List C
 |.data τ=>τ.er
 |.gp _ _=>[.nilp]
 |.gs _=>[.nils]
 |.gm c=>[.gm c none]
 |.cl f l m=>[.gcl f l m none]
 |.pair a b=>a.er++b.er
 |.unit=>[]
def VT.take:(V:VT)→List C→Option (V.den×List C)
 |.data τ,g=>τ.take g
 |.gp c i,.gp d h x::r=>match aJ c d&&aJ i h with |true=>some (x,r)|false=>none
 |.gp _ _,.nilp::r=>some (none,r)
 |.gs c,.gs d x::r=>match aJ c d with |true=>some (x,r)|false=>none
 |.gs _,.nils::r=>some (none,r)
 |.gm c,.gm d x::r=>match aJ c d with |true=>some (x,r)|false=>none
 |.cl f l m,.gcl j p t x::r=>match decEq f j,decEq l p,decEq m t with |.isTrue _,.isTrue _,.isTrue _=>some (x,r)|_,_,_=>none
 |.pair a b,g=>match a.take g with
  |some (x,r)=>match b.take r with
   |some (y,u)=>some ((x,y),u)
   |none=>none
  |none=>none
 |.unit,g=>some ((),g)
 |_,_=>none
def VT.bp(V:VT)(cs:List C):Option V.den:=
 match V.take cs with
 |some (x,[])=>some x
 |_=>none
def dz(K a:GK)(H:List (Option K.ga)):Option (List (Option a.ga)):=
 match decEq K a with
 |.isTrue h=>some (h▸H)
 |.isFalse _=>none
def eN{R:Type}(b:Bool)(x y:Option R):Option R:=match b with |true=>x |false=>y
def idx{α:Type}(l:List α)(i:Int):Option α:=if 0≤i then l[i.toNat]? else none
def ck(i:Int)(n:Nat):Option Nat:=if 0≤i∧i<n then some i.toNat else none
def qt(k:IntKind)(a b:Int):Option Int:=if b=0 then none else some (k.wrap (a.tdiv b))
def rm(a b:Int):Option Int:=if b=0 then none else some (a.tmod b)
def Ix(k:IntKind)(a b:Int):Option Int:=if b<0 then none else some (k.wrap (a*2^(min b.toNat k.bits)))
def Iy(k:IntKind)(a b:Int):Option Int:=if b<0 then none else some (a.fdiv (2^(min b.toNat k.bits)))
def Gt(op:BinOp)(k:IntKind)(x y:Int):Int:=
 let a:=BitVec.ofInt k.bits x
 let b:=BitVec.ofInt k.bits y
 k.wrap (match op with |.and=>(a &&& b).toNat |.or=>(a ||| b).toNat |.xor=>(a ^^^ b).toNat |_=>(a &&& ~~~b).toNat)
def room:Nat:=140737488355328
def Gn(bytes:Nat)(n:Int):Option Nat:=if 0≤n∧n.toNat*bytes≤room∧n≤140737488355328 then some n.toNat else none
def app{α:Type}(bytes:Nat)(l m:List α):Option (List α):=if(l.length+m.length)*bytes≤room∧l.length+m.length≤room then some (l++m)else none
def slc{α:Type}(l:List α)(lo a:Int):Option (List α):=if 0≤lo∧lo≤a∧a≤l.length then some ((l.take a.toNat).drop lo.toNat)else none
def cat(s t:List UInt8):Option (List UInt8):=if s.length+t.length≤2^62 then some (s++t)else none
def Iz(s:List UInt8)(i:Int):Option Int:=if 0≤i then(s[i.toNat]?).map (fun b=>(b.toNat:Int))else none
def bytesOf(l:List Int):List UInt8:=l.map fun n=>UInt8.ofNat n.toNat
def imax(x y:Int):Int:=if y>x then y else x
def Kc(x y:Int):Int:=if y<x then y else x
def n4{α β:Type}(a:α→α→Bool):List (α×β)→α→Option β
 |[],_=>none
 |p::r,k=>match a k p.1 with
  |true=>some p.2
  |false=>n4 a r k
def jK{α β:Type}(a:α→α→Bool):List (α×β)→α→β→List (α×β)
 |[],k,v=>[(k,v)]
 |p::r,k,v=>match a k p.1 with
  |true=>(k,v)::r
  |false=>p::jK a r k v
def tO{α β:Type}(a:α→α→Bool):List (α×β)→α→List (α×β)
 |[],_=>[]
 |p::r,k=>match a k p.1 with
  |true=>r
  |false=>p::tO a r k
def nth{α:Type}(l:List α)(i:Nat):Option α:=l[i]?
def dl{α:Type}(H:List (Option α))(x:α):List (Option α):=H++[some x]
def dI{α:Type}(H:List (Option α))(i:Nat):Option α:=match H[i]? with |some (some x)=>some x |_=>none
def n5{α:Type}(H:List (Option α))(i:Nat)(x:α):Option (List (Option α)):=match H[i]? with |some (some _)=>some (H.set i (some x))|_=>none
def Gu{α:Type}(H:List (Option (List α)))(x:Option (Nat×Nat×Nat)):Option (List α):=
 match x with
 |none=>some []
 |some (i,a,n)=>match dI H i with
  |some l=>if a+n≤l.length then some ((l.drop a).take n)else none
  |none=>none
def IA{α:Type}(H:List (Option (List α)))(x:Option (Nat×Nat×Nat)):Option (List α×List (Option (List α))):=
 match x with
 |none=>some ([],H)
 |some (i,a,n)=>match Gu H (some (i,a,n))with
  |some l=>some (l,H.set i none)
  |none=>none
def Mx{α:Type}(H:List (Option (List α)))(l:List α):Option (List (Option (List α))×Option (Nat×Nat×Nat)):=
 match l with
 |[]=>none
 |y::m=>some (dl H (y::m),some (H.length,0,(y::m).length))
def J4(x:Option (Nat×Nat×Nat)):Int:=match x with |none=>0 |some (_,_,n)=>n
def Mc(x:Option (Nat×Nat×Nat))(lo b:Int):Option (Option (Nat×Nat×Nat)):=
 match x with
 |none=>if lo=0∧b=0 then some none else none
 |some (i,a,n)=>if 0≤lo∧lo≤b∧b≤n then some (some (i,a+lo.toNat,(b -lo).toNat))else none
def Md{α:Type}(bytes:Nat)(H:List (Option (List α)))(x:Option (Nat×Nat×Nat))(m:List α):Option (List (Option (List α))×Option (Nat×Nat×Nat)):=
 match x with
 |none=>match m with
  |[]=>some (H,none)
  |y::m=>match app bytes [] (y::m)with
   |some l=>some (dl H l,some (H.length,0,l.length))
   |none=>none
 |some (i,a,n)=>match Gu H (some (i,a,n))with
  |some l=>match app bytes l m with
   |some l=>some (dl (H.set i none) l,some (H.length,0,l.length))
   |none=>none
  |none=>none
def ml{α:Type}(l:List α)(a:Nat)(m:List α):List α:=l.take a++m++l.drop (a+m.length)
def Oz{α:Type}(H:List (Option (List α)))(y:Option (Nat×Nat×Nat))(m:List α):Option (List (Option (List α))×Int):=
 match y with
 |none=>some (H,0)
 |some (i,a,n)=>match dI H i with
  |some l=>if a+n≤l.length then some (H.set i (some (ml l a (m.take n))),((min m.length n:Nat):Int))else none
  |none=>none
def CW{α:Type}(H:List (Option α))(x y:Option Nat):Option Bool:=
 match x,y with
 |some i,some j=>match dI H i,dI H j with
  |some _,some _=>some (aJ i j)
  |_,_=>none
 |none,none=>some true
 |_,_=>some false
inductive HM:Type 1 where
 |ret (a:A)
 |fail
 |get (o:Nat) (k:Ob→HM)
 |set (o:Nat) (x:Ob) (k:HM)
 |opt {β:Type} (x:Option β) (k:β→HM)
 |br (b:Bool) (x y:HM)
abbrev Log:=List (Nat×Bool)
abbrev aD:=List (Nat×Ob)
abbrev Env:=List (Nat×A)
def look{α:Type}(d:α)(t:Nat):List (Nat×α)→α
 |[]=>d
 |(u,x)::r=>match aJ u t with |true=>x |false=>look d t r
def HM.run{R:Type}(next:Nat):HM→aD→Log→(A→aD→Log→Option R)→Option R
 |.ret a,h,L,K=>K a h L
 |.fail,_,_,_=>none
 |.get o k,h,L,K=>(k (look .dead o h)).run next h ((o,false)::L) K
 |.set o x k,h,L,K=>match Nat.blt o next with
  |true=>k.run next ((o,x)::h) ((o,true)::L) K
  |false=>none
 |.opt x k,h,L,K=>x.bind fun b=>(k b).run next h L K
 |.br b x y,h,L,K=>eN b (x.run next h L K) (y.run next h L K)
inductive TK where
 |bool |int (k:IntKind)|str |slice (e:TypeId)|struct (fs:List (TypeId×Nat))|array (n:Nat) (e:TypeId)|map (k v:TypeId)|ptr (e:TypeId)|other
def jb:TypeDesc→TK
 |.bool=> .bool
 |.int k=> .int k
 |.string=> .str
 |.slice e=> .slice e
 |.struct a=> .struct (a.toList.map fun f=>(f.type,f.offset))
 |.array n e=> .array n e
 |.map k v=> .map k v
 |.pointer e=> .ptr e
 |_=> .other
def D6:TK→Bool
 |.struct _ |.array _ _=>true
 |_=>false
structure TD where
 desc:TK
 size:Nat
 bytes:Nat
 agg:Bool
 ty:Option Ty
 zero:Bool
 eq:List Ty
structure Entry where
 ps:List Ty
 rs:List Ty
 F:(eo ps).den→Option (eo rs).den
structure jc where
 ps:List Ty
 e:Ty
 F:(eo ps).den→Option (List e.den)
def cJ:List (Nat×GK)→Type
 |[]=>Unit
 |k::r=>List (Option k.2.ga)×cJ r
structure bl where
 ps:List VT
 rs:List VT
 ws:List (Nat×GK)
 os:List (Nat×GK)
 F:(iz ps).den→cJ ws→cJ os→Option ((iz rs).den×cJ ws)
inductive CK where
 |data (τ:Ty)|own (e:Ty)|fix (c:C)
inductive SK where
 |data (τ:Ty)|own (e:Ty)|fix (a:A)|box (l:List CK)|ref (a:Ty)|vt (V:VT)|cl (f:FuncId) (a:Ty)
inductive OK where
 |row (e:Ty)|iA (e:Ty)|cells (l:List CK)|map (k v:Ty)|gh (wr:Bool) (K:GK)|obj (τ:Ty)
structure NS where
 slots:List (Nat×SK)
 obs:List (Nat×OK)
 next:Nat
inductive Ex where
 |normal |ret |exit (id:Nat)
structure LS where
 Gv:NS
 outs:List (Ex×NS)
structure Cx where
 tt:List (TypeId×TD)
 calls:List (FuncId×Entry)
 owns:List (FuncId×jc)
 stats:List (FuncId×bl):=[]
 la:List (TypeId×VT):=[]
 E3:List (TypeId×Nat):=[]
 OA:List (TypeId×Nat):=[]
 IB:List (FuncId×Nat):=[]
 loc:List (Nat×GK):=[]
 nc:Nat:=0
 tail:Bool:=false
 loops:List (Nat×LS)
 bu:List (Nat×NS)
 IC:List (Nat×NS):=[]
 A6:List (Nat×List (Nat×Ty)):=[]
 lcs:List (Nat×List (Nat×Ty)×Nat):=[]
 nt:Nat
 fuel:Nat
def ba{α:Type}(t:Nat):List (Nat×α)→Option α
 |[]=>none
 |(u,x)::r=>match aJ u t with |true=>some x |false=>ba t r
def fk(mark:Bool)(c:C)(k:C→HM):HM:=
 match c with
 |.vec o=> .get o fun
  |.row e l=>match mark with
   |true=> .set o (.iA e l) (k (.sl e l .no))
   |false=>k (.sl e l .no)
  |.iA e l=>k (.sl e l .no)
  |_=> .fail
 |.sl e l _=>k (.sl e l .no)
 |c=>k c
def di(mark:Bool):List C→(List C→HM)→HM
 |[],k=>k []
 |c::r,k=>fk mark c fun a=>di mark r fun b=>k (a::b)
def Ty.flat:Ty→Bool
 |.bool |.int _ |.str |.unit |.fn _=>true
 |.pair a b=>a.flat&&b.flat
 |_=>false
def Ty.isKey:Ty→Bool
 |.bool |.int _ |.str |.unit=>true
 |.pair a b=>a.isKey&&b.isKey
 |_=>false
def Ty.rU(k:IntKind):Ty→Bool
 |.int q=>match decEq k q with
  |.isTrue _=>true
  |.isFalse _=>false
 |.unit=>true
 |.pair a b=>a.rU k&&b.rU k
 |_=>false
def Ty.gS:(τ:Ty)→τ.den→τ.den→Bool
 |.bool,a,b=>(show Bool from a)==(show Bool from b)
 |.int _,a,b=>(show Int from a)==(show Int from b)
 |.str,a,b=>(show List UInt8 from a)==(show List UInt8 from b)
 |.pair a b,x,y=>a.gS x.1 y.1&&b.gS x.2 y.2
 |_,_,_=>true
def Ty.aX:Ty→Bool
 |.ref _=>false
 |.cl _ _=>false
 |.pair a b=>a.aX&&b.aX
 |.sl e=>e.aX
 |_=>true
def A.cellsOf:A→Option (List C)
 |.v _ a=>some a
 |.eo _=>none
def Gw(mark:Bool):(a:Ty)→List Nat→(a.den→HM)→HM
 |.unit,[],k=>k ()
 |.pair (.ref σ) r,o::c,k=>match σ.aX with
  |true=> .get o fun
   |.cells b=>di mark (b.take σ.size) fun b=>match σ.bp b with
    |some x=>Gw mark r c fun y=>k (x,y)
    |none=> .fail
   |_=> .fail
  |false=> .fail
 |_,_,_=> .fail
def J5(a:C)(k:List C→HM):HM:=
 match a with
 |.gp c b x=> .opt x fun id=> .get c fun
  |.gh _ (.st V) H=> .opt (dI (α:=V.den) H id) fun y=>k ((V.cells y).drop b)
  |_=> .fail
 |.ge c id d b=> .get c fun
  |.gh _ (.bf V) H=> .opt (dI (α:=List V.den) H id) fun l=> .opt (nth (α:=V.den) l d) fun y=>k ((V.cells y).drop b)
  |_=> .fail
 |_=> .fail
def pT(σ:Ty)(c:Nat)(x:Option (Nat×Nat×Nat))(k:List σ.den→HM):HM:=
 .get c fun
  |.gh _ K H=>match dz K (.bf (.data σ)) H,σ.aX with
   |some H,true=> .opt (Gu H x) k
   |_,_=> .fail
  |_=> .fail
def DI(σ:Ty)(c:Nat)(x:Option (Nat×Nat×Nat))(k:List σ.den→HM):HM:=
 .get c fun
  |.gh true K H=>match dz K (.bf (.data σ)) H,σ.aX with
   |some H,true=> .opt (IA H x) fun r=> .set c (.gh true (.bf (.data σ)) r.2) (k r.1)
   |_,_=> .fail
  |_=> .fail
def D7(mark:Bool)(τ:Ty)(a:A)(k:τ.den→HM):HM:=
 match τ,a with
 |.ref σ,.v false [.ptr o d]=>match σ.aX with
  |true=> .get o fun
   |.cells b=>di mark ((b.drop d).take σ.size) fun b=>match σ.bp b with
    |some x=>k x
    |none=> .fail
   |_=> .fail
  |false=> .fail
 |.ref σ,.v false [.mj h x c]=>match σ.aX with
  |true=>match σ.bp (((h.cells x).drop c).take σ.size)with
   |some x=>k x
   |none=> .fail
  |false=> .fail
 |.ref σ,.v false [.gp c d x]=>match σ.aX&& !mark with
  |true=>J5 (.gp c d x) fun b=>match σ.bp (b.take σ.size)with
   |some x=>k x
   |none=> .fail
  |false=> .fail
 |.ref σ,.v false [.ge c id l d]=>match σ.aX&& !mark with
  |true=>J5 (.ge c id l d) fun b=>match σ.bp (b.take σ.size)with
   |some x=>k x
   |none=> .fail
  |false=> .fail
 |.sl σ,.v false [.gs c x]=>match mark with
  |false=>pT σ c x k
  |true=>DI σ c x k
 |.cl f a,.v false [.clos i j]=>match decEq f i with
  |.isTrue _=>Gw mark a j k
  |.isFalse _=> .fail
 |.cl f a,.v false [.kI i h x]=>match decEq f i with
  |.isTrue _=>(match gb h a x with
   |some x=>k x
   |none=> .fail)
  |.isFalse _=> .fail
 |τ,.v g b=>match g==τ.isAgg&&τ.aX with
  |true=>di mark b fun b=>match τ.bp b with
   |some x=>k x
   |none=> .fail
  |false=> .fail
 |_,.eo _=> .fail
def A8(mark:Bool):(ps:List Ty)→List A→((eo ps).den→HM)→HM
 |[],[],k=>k ()
 |[τ],[a],k=>D7 mark τ a k
 |τ::σ::r,a::as,k=>D7 mark τ a fun x=>A8 mark (σ::r) as fun y=>k (x,y)
 |_,_,_=> .fail
def tP(τ:Ty)(x:τ.den):A:=.v τ.isAgg (τ.cells x)
def lc:(ps:List Ty)→(eo ps).den→List A
 |[],_=>[]
 |[τ],x=>[tP τ x]
 |τ::σ::r,x=>tP τ x.1::lc (σ::r) x.2
def Kd(τ:Ty)(x:τ.den):Bool×List C:=(τ.isAgg,τ.cells x)
def E4:(ps:List Ty)→(eo ps).den→List (Bool×List C)
 |[],_=>[]
 |[τ],x=>[Kd τ x]
 |τ::σ::r,x=>Kd τ x.1::E4 (σ::r) x.2
def E5(rs:List Ty)(x:(eo rs).den):A:=
 match rs,x with
 |[τ],x=>tP τ x
 |rs,x=> .eo (E4 rs x)
def Ib(a:List Nat):List A:=a.map fun o=> .v false [.ptr o 0]
def CX:Ty→Bool
 |.unit=>true
 |.pair (.ref _) r=>CX r
 |_=>false
def E6:(a:Ty)→a.den→List A
 |.pair (.ref σ) r,x=> .v false [.mj σ x.1 0]::E6 r x.2
 |_,_=>[]
def VT.ok:VT→Bool
 |.data τ=>τ.aX
 |.pair a b=>a.ok&&b.ok
 |_=>true
def GK.ok:GK→Bool
 |.st V=>V.ok
 |.bf V=>V.ok
 |.mp _ V=>V.ok
def DJ(mark:Bool)(V:VT)(a:A)(k:V.den→HM):HM:=
 match V,a with
 |.data τ,a=>D7 mark τ a k
 |V,.v g b=>match g==V.isAgg&&V.ok with
  |true=>di mark b fun b=>match V.bp b with
   |some x=>k x
   |none=> .fail
  |false=> .fail
 |_,.eo _=> .fail
def CY(mark:Bool):(ps:List VT)→List A→((iz ps).den→HM)→HM
 |[],[],k=>k ()
 |[τ],[a],k=>DJ mark τ a k
 |τ::σ::r,a::as,k=>DJ mark τ a fun x=>CY mark (σ::r) as fun y=>k (x,y)
 |_,_,_=> .fail
def kJ(V:VT)(x:V.den):A:=.v V.isAgg (V.cells x)
def jd:(ps:List VT)→(iz ps).den→List A
 |[],_=>[]
 |[τ],x=>[kJ τ x]
 |τ::σ::r,x=>kJ τ x.1::jd (σ::r) x.2
def px:(ps:List VT)→(iz ps).den→List (Bool×List C)
 |[],_=>[]
 |[τ],x=>[(τ.isAgg,τ.cells x)]
 |τ::σ::r,x=>(τ.isAgg,τ.cells x.1)::px (σ::r) x.2
def jZ(rs:List VT)(x:(iz rs).den):A:=
 match rs,x with
 |[τ],x=>kJ τ x
 |rs,x=> .eo (px rs x)
def Gx(wr:Bool):(l:List (Nat×GK))→(cJ l→HM)→HM
 |[],k=>k ()
 |(c,K)::r,k=> .get c fun
  |.gh a b H=>match dz b K H,(!wr||a)with
   |some H,true=>Gx wr r fun y=>k (H,y)
   |_,_=> .fail
  |_=> .fail
def CZ:(l:List (Nat×GK))→cJ l→HM→HM
 |[],_,k=>k
 |(c,K)::r,x,k=> .set c (.gh true K x.1) (CZ r x.2 k)
def pU(l:List Nat):Bool:=match l with
 |[]=>true
 |c::r=> !(r.contains c)&&pU r
def Ic(E:bl)(as:List A):HM:=
 match pU ((E.ws++E.os).map (·.1))with
 |true=>CY true E.ps as fun x=>Gx true E.ws fun a=>Gx false E.os fun os=>
  .opt (E.F x a os) fun r=>CZ E.ws r.2 (.ret (jZ E.rs r.1))
 |false=> .fail
def yv(X:Cx)(new:Nat)(f:FuncId)(as:List A):HM:=
 match ba f X.owns with
 |some E=>match ba f X.IB with
  |none=>A8 (!E.e.flat) E.ps as fun x=> .opt (E.F x) fun l=> .set new .tok (.ret (.v false [.sl E.e l (.own new)]))
  |some c=>match E.e.flat&&Nat.blt 0 E.e.size with
   |true=>A8 false E.ps as fun x=> .opt (E.F x) fun l=> .get c fun
    |.gh true K H=>match dz K (.bf (.data E.e)) H with
     |some H=> .opt (Mx (α:=E.e.den) H l) fun r=> .set c (.gh true (.bf (.data E.e)) r.1) (.ret (.v false [.gs c r.2]))
     |none=> .fail
    |_=> .fail
   |false=> .fail
 |none=>match ba f X.calls with
  |some E=>A8 (!(E.rs.all Ty.flat)) E.ps as fun x=> .opt (E.F x) fun r=> .ret (E5 E.rs r)
  |none=>match ba f X.stats with
   |some E=>Ic E as
   |none=> .fail
def E7:Value→A
 |.bool b=> .v false [.bool b]
 |.int k n=> .v false [.int k n]
 |.string s=> .v false [.str s.data.toList]
 |.slice none 0 0=> .v false [.nils]
 |.nilFunc=> .v false [.nilfn]
 |.pointer none=> .v false [.nilp]
 |_=>ar
def jJ(env:Env):Operand→A
 |.tmp t=>look ar t env
 |.const v=>E7 v
 |.global _=>ar
 |.func f=> .v false [.clos f []]
def iY(k:IntKind)(n:Int):HM:=.ret (.v false [.int k n])
def hA(b:Bool):HM:=.ret (.v false [.bool b])
def eC(c:C):HM:=.ret (.v false [c])
def pV:List UInt8→List UInt8→Bool:=Op.bytesLess
def tQ(op:BinOp)(x y:A):HM:=
 match x,y with
 |.v false [.int k a],.v false [.int c b]=>
  match op with
  |.shl=> .opt (Ix k a b) (iY k)
  |.shr=> .opt (Iy k a b) (iY k)
  |op=>match decEq k c with
   |.isFalse _=> .fail
   |.isTrue _=>match op with
    |.add=>iY k (k.wrap (a+b))
    |.sub=>iY k (k.wrap (a -b))
    |.mul=>iY k (k.wrap (a*b))
    |.quo=> .opt (qt k a b) (iY k)
    |.rem=> .opt (rm a b) (iY k)
    |.eql=>hA (a==b)
    |.neq=>hA (a !=b)
    |.lss=>hA (decide (a<b))
    |.leq=>hA (decide (a≤b))
    |.gtr=>hA (decide (a>b))
    |.geq=>hA (decide (a≥b))
    |op=>iY k (Gt op k a b)
 |.v false [.str a],.v false [.str b]=>
  match op with
  |.add=> .opt (cat a b) fun s=>eC (.str s)
  |.eql=>hA (a==b)
  |.neq=>hA (!(a==b))
  |.lss=>hA (pV a b)
  |.leq=>hA (pV a b||a==b)
  |.gtr=>hA (!(pV a b||a==b))
  |.geq=>hA (!(pV a b))
  |_=> .fail
 |.v false [.bool a],.v false [.bool b]=>
  match op with
  |.eql=>hA (a==b)
  |.neq=>hA (!(a==b))
  |_=> .fail
 |_,_=> .fail
def My(op:UnOp)(x:A):HM:=
 match op,x with
 |.neg,.v false [.int k a]=>iY k (k.wrap (0 -a))
 |.xor,.v false [.int k a]=>iY k (Gt .xor k (if k.signed then -1 else k.max) a)
 |.not,.v false [.bool b]=>hA (!b)
 |_,_=> .fail
def OB(τ:Ty):C→C→Option Bool
 |.int k a,.int c b=>match τ with
  |.int q=>match decEq k q,decEq c q with
   |.isTrue _,.isTrue _=>some (a==b)
   |_,_=>none
  |_=>none
 |.bool a,.bool b=>match τ with
  |.bool=>some (a==b)
  |_=>none
 |.str a,.str b=>match τ with
  |.str=>some (a==b)
  |_=>none
 |_,_=>none
def Gy:List Ty→List C→List C→Option Bool
 |[],[],[]=>some true
 |τ::τs,c::g,d::h=>match OB τ c d,Gy τs g h with
  |some a,some b=>some (a&&b)
  |_,_=>none
 |_,_,_=>none
def Mz(op:BinOp)(d:TD)(cs:List C)(y:A):HM:=
 match d.eq,y with
 |τ::τs,.v true a=>match Gy (τ::τs) cs a with
  |some b=>match op with
   |.eql=>hA b
   |.neq=>hA (!b)
   |_=> .fail
  |none=> .fail
 |_,_=> .fail
def ID(op:BinOp)(d:TD)(t:Mw)(y:A):HM:=
 match d.desc,y with
 |.slice _,.v false [.nils]=>match t,op with
  |.nn,.eql=>hA false
  |.nn,.neq=>hA true
  |.nl,.eql=>hA true
  |.nl,.neq=>hA false
  |_,_=> .fail
 |_,_=> .fail
def rV(sl:Bool)(op:BinOp)(d:TD)(nil:Bool)(y:A):HM:=
 match sl,d.desc,y with
 |true,.slice _,.v false [.nils]=>go
 |false,.ptr _,.v false [.nilp]=>go
 |_,_,_=> .fail
 where go:HM:=match op with
 |.eql=>hA nil
 |.neq=>hA (!nil)
 |_=> .fail
def C.known:C→Bool
 |.undef=>false
 |_=>true
def hC(cs:List C)(off:Nat)(new:List C):List C:=cs.take off++new++cs.drop (off+new.length)
def pW(a:Nat→Option (Nat×Nat)):List C→List (Nat×A)→Option (List C)
 |cs,[]=>some cs
 |cs,(i,.v _ b)::r=>match a i with
  |some (c,size)=>match aJ b.length size&&Nat.ble (c+size) cs.length&&b.all C.known with
   |true=>pW a (hC cs c b) r
   |false=>none
  |none=>none
 |_,(_,.eo _)::_=>none
def hI{α β:Type}(f:α→Option β):List α→Option (List β)
 |[]=>some []
 |a::r=>match f a with
  |some b=>match hI f r with
   |some c=>some (b::c)
   |none=>none
  |none=>none
def u1(τ:Ty):Nat→List (Nat×A)→(List τ.den→HM)→HM
 |_,[],k=>k []
 |n,(i,.v g a)::r,k=>match aJ i n&&(g==τ.isAgg)&&a.all C.known with
  |true=>di true a fun a=>match τ.bp a with
   |some x=>u1 τ (n+1) r fun l=>k (x::l)
   |none=> .fail
  |false=> .fail
 |_,(_,.eo _)::_,_=> .fail
def sub(off size:Nat)(cs:List C):Option (List C):=
 match Nat.ble (off+size) cs.length with
 |true=>some ((cs.drop off).take size)
 |false=>none
def partOf(agg:Bool)(size off:Nat)(cs:List C)(k:A→HM):HM:=
 match sub off size cs with
 |some cs=>match agg,cs with
  |true,cs=>k (.v true cs)
  |false,[c]=>k (.v false [c])
  |_,_=> .fail
 |none=> .fail
def u2(k:IntKind):List C→Option (List Int)
 |[]=>some []
 |.int a n::r=>match decEq k a with
  |.isTrue _=>match u2 k r with
   |some l=>some (n::l)
   |none=>none
  |.isFalse _=>none
 |_=>none
def u4(d:TD)(a:A):HM:=
 match a with
 |.v false [.ptr o b]=> .get o fun
  |.cells g=>partOf d.agg d.size b g .ret
  |_=> .fail
 |.v false [.mj τ x c]=>partOf d.agg d.size c (τ.cells x) .ret
 |.v false [.xn o i c]=> .get o fun
  |.row e l=> .opt (l[i]?) fun x=>partOf d.agg d.size c (e.cells x) .ret
  |.iA e l=> .opt (l[i]?) fun x=>partOf d.agg d.size c (e.cells x) .ret
  |_=> .fail
 |.v false [.E2 o b len i]=>match d.desc with
  |.int k=> .get o fun
   |.cells g=>match sub b len g with
    |some g=>match u2 k g with
     |some l=> .opt (l[i]?) (iY k)
     |none=> .fail
    |none=> .fail
   |_=> .fail
  |_=> .fail
 |.v false [.gp c b x]=>J5 (.gp c b x) fun g=>partOf d.agg d.size 0 g .ret
 |.v false [.ge c id h b]=>J5 (.ge c id h b) fun g=>partOf d.agg d.size 0 g .ret
 |_=> .fail
def C0(d:TD)(a x:A):HM:=
 match a,x with
 |.v false [.ptr o h],.v g b=>match aJ b.length d.size&&b.all C.known&&(g==d.agg)with
  |true=> .get o fun
   |.cells j=>match Nat.ble (h+b.length) j.length with
    |true=> .set o (.cells (hC j h b)) (.ret gR)
    |false=> .fail
   |_=> .fail
  |false=> .fail
 |.v false [.xn o i c],.v g b=>match aJ b.length d.size&&b.all C.known&&(g==d.agg)with
  |true=>di true b fun b=> .get o fun
   |.row e l=> .opt (l[i]?) fun x=>match Nat.ble (c+b.length) e.size with
    |true=>match e.bp (hC (e.cells x) c b)with
     |some y=> .set o (.row e (l.set i y)) (.ret gR)
     |none=> .fail
    |false=> .fail
   |_=> .fail
  |false=> .fail
 |.v false [.gp c h x],.v g b=>match aJ b.length d.size&&b.all C.known&&(g==d.agg)with
  |true=>di true b fun b=> .opt x fun id=> .get c fun
   |.gh true (.st V) H=> .opt (dI (α:=V.den) H id) fun y=>match Nat.ble (h+b.length) V.size&&V.ok with
    |true=>match V.bp (hC (V.cells y) h b)with
     |some z=> .opt (n5 (α:=V.den) H id z) fun H=> .set c (.gh true (.st V) H) (.ret gR)
     |none=> .fail
    |false=> .fail
   |_=> .fail
  |false=> .fail
 |.v false [.ge c id k h],.v g b=>match aJ b.length d.size&&b.all C.known&&(g==d.agg)with
  |true=>di true b fun b=> .get c fun
   |.gh true (.bf V) H=> .opt (dI (α:=List V.den) H id) fun l=> .opt (nth (α:=V.den) l k) fun y=>match Nat.ble (h+b.length) V.size&&V.ok with
    |true=>match V.bp (hC (V.cells y) h b)with
     |some z=> .opt (n5 (α:=List V.den) H id (l.set k z)) fun H=> .set c (.gh true (.bf V) H) (.ret gR)
     |none=> .fail
    |false=> .fail
   |_=> .fail
  |false=> .fail
 |_,_=> .fail
def zn:Operand→Operand→Bool
 |.tmp a,.tmp b=>aJ a b
 |_,_=>false
def IE(x:A):HM:=
 match x with
 |.v false [.sl _ l _]=>iY .i64 l.length
 |.v false [.nils]=>iY .i64 0
 |.v false [.gs _ x]=>iY .i64 (J4 x)
 |.v false [.vec o]=> .get o fun
  |.row _ l=>iY .i64 l.length
  |.iA _ l=>iY .i64 l.length
  |_=> .fail
 |_=> .fail
def D8(mark:Bool)(e:Ty)(x:A)(k:List e.den→HM):HM:=
 match x with
 |.v false [.gs c y]=>match mark with
  |false=>pT e c y k
  |true=> .fail
 |.v false [c]=>fk mark c fun
  |.sl a m _=>match fP a e m with
   |some m=>k m
   |none=> .fail
  |.nils=>k []
  |_=> .fail
 |_=> .fail
def zo(new:Nat)(e:Ty)(bytes:Nat)(s x:A):HM:=
 D8 false e x fun m=>
  match s with
  |.v false [.nils]=> .opt (app bytes [] m) fun l=> .set new .tok (eC (.sl e l (.own new)))
  |.v false [.sl a l (.own o)]=>match fP a e l with
   |some l=> .get o fun
    |.tok=> .opt (app bytes l m) fun l=> .set o .dead (.set new .tok (eC (.sl e l (.own new))))
    |_=> .fail
   |none=> .fail
  |.v false [.vec o]=> .get o fun
   |.row a l=>match fP a e l with
    |some l=> .opt (app bytes l m) fun l=> .set o .dead (.set new .tok (eC (.sl e l (.own new))))
    |none=> .fail
   |_=> .fail
  |_=> .fail
def Gz(V:VT)(x:A)(k:List V.den→HM):HM:=
 match V,x with
 |.data e,x=>D8 false e x k
 |V,.v false [.gs c y]=> .get c fun
  |.gh _ K H=>match dz K (.bf V) H with
   |some H=> .opt (Gu H y) k
   |none=> .fail
  |_=> .fail
 |V,.v false [.nils]=>k []
 |_,_=> .fail
def zq(V:VT)(c bytes:Nat)(y:Option (Nat×Nat×Nat))(x:A):HM:=
 Gz V x fun m=> .get c fun
  |.gh true K H=>match dz K (.bf V) H with
   |some H=> .opt (Md bytes H y m) fun r=> .set c (.gh true (.bf V) r.1) (eC (.gs c r.2))
   |none=> .fail
  |_=> .fail
def GA:A→Bool
 |.v false [.sl _ _ _]=>true
 |.v false [.nils]=>true
 |.v false [.gs _ _]=>true
 |.v false [.vec _]=>true
 |_=>false
def E8(V:VT)(c:Nat)(y:Option (Nat×Nat×Nat))(x:A):HM:=
 match GA x with
 |true=>Gz V x fun m=> .get c fun
  |.gh true K H=>match dz K (.bf V) H with
   |some H=> .opt (Oz (α:=V.den) H y m) fun r=> .set c (.gh true (.bf V) r.1) (iY .i64 r.2)
   |none=> .fail
  |_=> .fail
 |false=> .fail
def GC(X:Cx)(t:TypeId)(s:A):Option (Nat×Option (Nat×Nat×Nat)):=
 match s with
 |.v false [.gs c y]=>some (c,y)
 |.v false [.nils]=>match ba t X.OA with
  |some c=>some (c,none)
  |none=>none
 |_=>none
def mm(f:Int→Int→Int)(k:IntKind):Int→List A→HM
 |n,[]=>iY k n
 |n,.v false [.int a m]::r=>match decEq k a with
  |.isTrue _=>mm f k (f n m) r
  |.isFalse _=> .fail
 |_,_=> .fail
def ld(X:Cx)(t:TypeId)(n:Nat):Bool:=
 match ba t X.tt with
 |some d=>aJ n d.size&&Nat.blt 0 n
 |none=>false
def E9(X:Cx)(a:TypeId)(o:Nat)(x:A):HM:=
 match GA x with
 |true=> .get o fun
  |.row e l=>match ld X a e.size with
   |true=>D8 false e x fun m=> .set o (.row e (ml l 0 (m.take l.length))) (iY .i64 ((min m.length l.length:Nat):Int))
   |false=> .fail
  |_=> .fail
 |false=> .fail
def u6(X:Cx)(new:Nat)(b:Builtin)(ts:List TypeId)(as:List A):HM:=
 match b,ts,as with
 |.len,[t],[x]=>match ba t X.tt with
  |some d=>match d.desc,x with
   |.slice _,x=>IE x
   |.str,.v false [.str s]=>iY .i64 s.length
   |.array n _,_=>iY .i64 n
   |_,_=> .fail
  |none=> .fail
 |.append,[t,u],[s,x]=>match ba t X.tt,ba u X.tt with
  |some d,some g=>match d.desc,g.desc with
   |.slice e,.slice _=>match ba e X.tt with
    |some a=>match GC X t s with
     |some (c,y)=>match ba e X.la,Nat.blt 0 a.size with
       |some V,true=>zq V c a.bytes y x
       |_,_=> .fail
     |none=>match a.ty with
      |some τ=>match Nat.blt 0 a.size&&a.zero with
        |true=>zo new τ a.bytes s x
        |false=> .fail
      |none=> .fail
    |none=> .fail
   |_,_=> .fail
  |_,_=> .fail
 |.copy,[t,u],[s,x]=>match ba t X.tt,ba u X.tt with
  |some d,some g=>match d.desc,g.desc with
   |.slice e,.slice _=>match GC X t s with
    |some (c,y)=>match ba e X.la with
      |some V=>E8 V c y x
      |none=> .fail
    |none=>match s with
      |.v false [.vec o]=>E9 X e o x
      |_=> .fail
   |_,_=> .fail
  |_,_=> .fail
 |.max,_,.v false [.int k n]::r=>mm imax k n r
 |.min,_,.v false [.int k n]::r=>mm Kc k n r
 |_,_,_=> .fail
def Fa(x:Option A)(d:Int):Option Int:=
 match x with
 |none=>some d
 |some (.v false [.int _ n])=>some n
 |_=>none
def DK(V a:VT):Bool:=match decEq V a with
 |.isTrue _=>true
 |.isFalse _=>false
def C2(X:Cx)(d:TD)(x:A)(lo g mx:Option A):HM:=
 match d.desc,mx with
 |.str,none=>match x with
  |.v false [.str s]=>match Fa lo 0,Fa g s.length with
   |some a,some b=> .opt (slc s a b) fun s=>eC (.str s)
   |_,_=> .fail
  |_=> .fail
 |.slice h,none=>match x with
  |.v false [.gs c y]=>match ba h X.la,Fa lo 0,Fa g (J4 y)with
   |some i,some a,some b=> .get c fun
    |.gh _ (.bf V) _=>match DK V i,Nat.blt 0 V.size with
     |true,true=> .opt (Mc y a b) fun z=>eC (.gs c z)
     |_,_=> .fail
    |_=> .fail
   |_,_,_=> .fail
  |.v false [c]=>fk true c fun
   |.sl e l _=>match ld X h e.size with
    |true=>match Fa lo 0,Fa g l.length with
     |some a,some b=> .opt (slc l a b) fun l=>eC (.sl e l .no)
     |_,_=> .fail
    |false=> .fail
   |_=> .fail
  |_=> .fail
 |.slice h,some m=>match x with
  |.v false [c]=>fk true c fun
   |.sl e l _=>match ld X h e.size with
    |true=>match Fa lo 0,(match g with |some b=>Fa (some b) 0 |none=>none),Fa (some m) 0 with
     |some a,some b,some m=> .opt (slc l b m) fun _=> .opt (slc l a b) fun l=>eC (.sl e l .no)
     |_,_,_=> .fail
    |false=> .fail
   |_=> .fail
  |_=> .fail
 |_,_=> .fail
def pX(d:TD)(j:Nat):Option (TypeId×Nat):=
 match d.desc with
 |.struct a=>a[j]?
 |_=>none
def zr(a:A)(n:Nat):HM:=
 match a with
 |.v false [.ptr o b]=> .get o fun
  |.dead=> .fail
  |_=>eC (.ptr o (b+n))
 |.v false [.mj τ x c]=>eC (.mj τ x (c+n))
 |.v false [.xn o i c]=> .get o fun
  |.row _ _=>eC (.xn o i (c+n))
  |.iA _ _=>eC (.xn o i (c+n))
  |_=> .fail
 |.v false [.gp c b x]=> .opt x fun id=>eC (.gp c (b+n) (some id))
 |.v false [.ge c id d b]=>eC (.ge c id d (b+n))
 |_=> .fail
def py(X:Cx)(d:TD)(x j:A):HM:=
 match j with
 |.v false [.int _ i]=>
  match d.desc,x with
  |.slice a,.v false [.sl e l _]=>match ld X a e.size with
   |true=> .opt (idx l i) fun y=>eC (.mj e y 0)
   |false=> .fail
  |.slice a,.v false [.gs c y]=> .get c fun
   |.gh _ (.bf V) _=>match ba a X.la with
    |some g=>match DK V g,Nat.blt 0 V.size with
     |true,true=> .opt y fun p=> .opt (ck i p.2.2) fun n=>eC (.ge c p.1 (p.2.1+n) 0)
     |_,_=> .fail
    |none=> .fail
   |_=> .fail
  |.slice a,.v false [.vec o]=> .get o fun
   |.row e l=>match ld X a e.size with
    |true=> .opt (ck i l.length) fun n=>eC (.xn o n 0)
    |false=> .fail
   |.iA e l=>match ld X a e.size with
    |true=> .opt (ck i l.length) fun n=>eC (.xn o n 0)
    |false=> .fail
   |_=> .fail
  |.array len e,.v false [.ptr o b]=>match ba e X.tt with
   |some h=>match aJ h.size 1&&Nat.blt 1 len with
    |true=> .get o fun
     |.cells _=> .opt (ck i len) fun n=>eC (.E2 o b len n)
     |_=> .fail
    |false=> .fail
   |none=> .fail
  |_,_=> .fail
 |_=> .fail
def Fb(d:TD)(x a:A):HM:=
 match d.desc,x,a with
 |.str,.v false [.str s],.v false [.int _ i]=> .opt (Iz s i) (iY .u8)
 |_,_,_=> .fail
def u7(x:A)(j:Nat):HM:=
 match x with
 |.eo ps=>match ps[j]? with
  |some (g,a)=> .ret (.v g a)
  |none=> .fail
 |_=> .fail
def zs(cap:List A):Option (List Nat):=
 hI (fun |.v false [.ptr o 0]=>some o |_=>none) cap
def u9:List A→(List (Nat×Nat)→List Nat→HM)→HM
 |[],k=>k [] []
 |.v false [.gp c b z]::r,k=> .opt z fun id=>u9 r fun l a=>k ((c,b)::l) (id::a)
 |_,_=> .fail
def zt:List (Nat×Nat)→List Nat→List A
 |(c,b)::l,id::a=> .v false [.gp c b (some id)]::zt l a
 |_,_=>[]
def vb:List (Nat×Nat)→Nat→List Nat→(List A→HM)→HM
 |[],_,_,k=>k []
 |(c,b)::l,i,a,k=> .opt (nth a i) fun id=>vb l (i+1) a fun r=>k (.v false [.gp c b (some id)]::r)
def dr(X:Cx)(t:TypeId)(k:TD→HM):HM:=
 match ba t X.tt with
 |some d=>k d
 |none=> .fail
def pz(d:TD)(k:Ty→HM):HM:=
 match d.ty with
 |some τ=>k τ
 |none=> .fail
def pY(X:Cx)(tk:TypeId):Option Ty:=
 match ba tk X.tt with
 |some d=>match d.desc,d.ty with
  |.int k,some (.int q)=>match decEq k q with
   |.isTrue _=>some (.int q)
   |.isFalse _=>none
  |.str,some .str=>some .str
  |.array n e,some τ=>match ba e X.tt with
   |some a=>match a.desc with
    |.int k=>match aJ a.size 1&&aJ τ.size n&&τ.isAgg&&τ.rU k with
     |true=>some τ
     |false=>none
    |_=>none
   |none=>none
  |_,_=>none
 |none=>none
def mn(X:Cx)(tk a:TypeId):Option (Ty×Ty):=
 match pY X tk,ba a X.tt with
 |some k,some d=>match d.zero,d.ty with
  |true,some v=>match v.isKey with
   |true=>some (k,v)
   |false=>none
  |_,_=>none
 |_,_=>none
def lf(k v a b:Ty)(l:List (k.den×v.den)):Option (List (a.den×b.den)):=
 match decEq k a,decEq v b with
 |.isTrue h,.isTrue c=>some (h▸c▸l)
 |_,_=>none
def zu(k v:Ty)(x b:A)(ok:Bool):HM:=
 match x,b with
 |.v false [.mp o],.v g a=>match g==k.isAgg,k.bp a with
  |true,some y=> .get o fun
   |.map c d l=>match lf c d k v l with
    |some l=>match ok with
     |true=> .ret (.eo [(v.isAgg,v.cells ((n4 k.gS l y).getD v.zero)),(false,[.bool (n4 k.gS l y).isSome])])
     |false=> .ret (.v v.isAgg (v.cells ((n4 k.gS l y).getD v.zero)))
    |none=> .fail
   |_=> .fail
  |_,_=> .fail
 |_,_=> .fail
def zv(k v:Ty)(x h a:A):HM:=
 match x,h,a with
 |.v false [.mp o],.v g b,.v d c=>match g==k.isAgg&&d==v.isAgg,k.bp b,v.bp c with
  |true,some y,some z=> .get o fun
   |.map i j l=>match lf i j k v l with
    |some l=> .set o (.map k v (jK k.gS l y z)) (.ret gR)
    |none=> .fail
   |_=> .fail
  |_,_,_=> .fail
 |_,_,_=> .fail
def Fc(V:VT)(q:Option V.den)(ok:Bool):HM:=
 match ok with
 |true=> .ret (.eo [(V.isAgg,V.cells (q.getD V.zero)),(false,[.bool q.isSome])])
 |false=> .ret (.v V.isAgg (V.cells (q.getD V.zero)))
def vd(k:Ty)(V:VT)(x d:A)(ok:Bool):HM:=
 match x,d with
 |.v false [.gm c z],.v b a=>match b==k.isAgg,k.bp a with
  |true,some y=> .opt z fun id=> .get c fun
   |.gh _ K H=>match dz K (.mp k V) H with
    |some H=> .opt (dI (α:=List (k.den×V.den)) H id) fun l=>Fc V (n4 k.gS l y) ok
    |none=> .fail
   |_=> .fail
  |_,_=> .fail
 |_,_=> .fail
def C3(c:Nat)(k:Ty)(V:VT):HM:=
 .get c fun
  |.gh true K H=>match dz K (.mp k V) H with
   |some H=> .set c (.gh true (.mp k V) (dl (α:=List (k.den×V.den)) H [])) (eC (.gm c (some H.length)))
   |none=> .fail
  |_=> .fail
def ve(k:Ty)(V:VT)(x i a:A):HM:=
 match x,i,a with
 |.v false [.gm c j],.v h d,.v g b=>match h==k.isAgg&&b.all C.known&&(g==V.isAgg)&&V.ok,k.bp d with
  |true,some y=>di true b fun b=> .opt j fun id=> .get c fun
   |.gh true K H=>match dz K (.mp k V) H,V.bp b with
    |some H,some z=> .opt (dI (α:=List (k.den×V.den)) H id) fun l=> .opt (n5 (α:=List (k.den×V.den)) H id (jK k.gS l y z)) fun H=> .set c (.gh true (.mp k V) H) (.ret gR)
    |_,_=> .fail
   |_=> .fail
  |_,_=> .fail
 |_,_,_=> .fail
def vf(k:Ty)(V:VT)(x d:A):HM:=
 match x,d with
 |.v false [.gm c g],.v b a=>match b==k.isAgg,k.bp a with
  |true,some y=> .opt g fun id=> .get c fun
   |.gh true K H=>match dz K (.mp k V) H with
    |some H=> .opt (dI (α:=List (k.den×V.den)) H id) fun l=> .opt (n5 (α:=List (k.den×V.den)) H id (tO k.gS l y)) fun H=> .set c (.gh true (.mp k V) H) (.ret gR)
    |none=> .fail
   |_=> .fail
  |_,_=> .fail
 |_,_=> .fail
def Ke:A→Bool
 |.v false [.gm _ _]=>true
 |_=>false
def nQ(X:Cx)(tk a:TypeId):Option (Ty×VT):=
 match pY X tk,ba a X.la with
 |some k,some V=>some (k,V)
 |_,_=>none
def IF:A→Option (Nat×Nat×Option Nat)
 |.v false [.gp c o z]=>some (c,o,z)
 |_=>none
def Fe(X:Cx)(op:BinOp)(d:TD)(c o:Nat)(x:Option Nat)(q:Nat×Nat×Option Nat):HM:=
 match d.desc,aJ c q.1&&aJ o q.2.1 with
 |.ptr g,true=>dr X g fun a=>match Nat.blt 0 a.size with
  |true=> .get c fun
   |.gh _ (.st V) H=> .opt (CW (α:=V.den) H x q.2.2) fun b=>match op with
    |.eql=>hA b
    |.neq=>hA (!b)
    |_=> .fail
   |_=> .fail
  |false=> .fail
 |_,_=> .fail
def vA:A→HM
 |.v g a=> .ret (.v g a)
 |.eo ps=> .ret (.eo ps)
theorem DL(a:A):vA a= .ret a:=by cases a<;>rfl
def EZ(X:Cx)(new:Nat)(ρ:Operand→A)(o:Op):HM:=
 match o with
 |.move x |.assign x=>vA (ρ x)
 |.pick c a b=>match ρ c with
   |.v false [.bool t]=> .br t (vA (ρ a)) (vA (ρ b))
   |_=> .fail
 |.alloc t=>dr X t fun d=>match ba t X.E3,ba t X.la with
  |some c,some V=> .get c fun
   |.gh true K H=>match dz K (.st V) H with
     |some H=> .set c (.gh true (.st V) (dl (α:=V.den) H V.zero)) (eC (.gp c 0 (some H.length)))
     |none=> .fail
   |_=> .fail
  |some _,none=> .fail
  |none,_=>match d.zero with
   |true=>pz d fun τ=> .set new (.cells τ.er) (eC (.ptr new 0))
   |false=> .fail
 |.box t x=>dr X t fun d=>match ρ x with
   |.v g p=>match aJ p.length d.size&&p.all C.known&&(g==d.agg)with
    |true=>match ba t X.E3,ba t X.la with
     |some c,some V=>di true p fun p=> .get c fun
      |.gh true K H=>match dz K (.st V) H,V.bp p,V.ok with
       |some H,some z,true=> .set c (.gh true (.st V) (dl (α:=V.den) H z)) (eC (.gp c 0 (some H.length)))
       |_,_,_=> .fail
      |_=> .fail
     |some _,none=> .fail
     |none,_=> .set new (.cells p) (eC (.ptr new 0))
    |false=> .fail
   |_=> .fail
 |.build t parts=>dr X t fun d=>match d.desc,d.zero with
   |.struct L,false=>match ba t X.la with
     |some V=>match hI (fun f=>match ba f.1 X.tt with |some E=>some (f.2,E.size)|none=>none) L with
      |some h=>match pW (fun i=>h[i]?) V.er (parts.toList.map fun(i,x)=>(i,ρ x))with
       |some p=> .ret (.v true p)
       |none=> .fail
      |none=> .fail
     |none=> .fail
   |.struct L,true=>pz d fun τ=>
     match hI (fun f=>match ba f.1 X.tt with |some E=>some (f.2,E.size)|none=>none) L with
     |some h=>match pW (fun i=>h[i]?) τ.er (parts.toList.map fun(i,x)=>(i,ρ x))with
      |some p=> .ret (.v true p)
      |none=> .fail
     |none=> .fail
   |.array n e,true=>pz d fun τ=>dr X e fun r=>
     match pW (fun i=>match Nat.blt i n with |true=>some (i*r.size,r.size)|false=>none) τ.er (parts.toList.map fun(i,x)=>(i,ρ x))with
     |some p=> .ret (.v true p)
     |none=> .fail
   |_,_=> .fail
 |.buildSlice t len parts=>dr X t fun d=>match d.desc with
   |.slice e=>dr X e fun r=>match ba t X.OA,len,parts.toList with
    |some F,0,[]=>match ba e X.la with
     |some V=> .get F fun
      |.gh true K H=>match dz K (.bf V) H with
       |some H=> .set F (.gh true (.bf V) (dl (α:=List V.den) H [])) (eC (.gs F (some (H.length,0,0))))
       |none=> .fail
      |_=> .fail
     |none=> .fail
    |_,_,_=>pz r fun τ=>match aJ parts.size len&&Nat.ble (len*r.size) 16777216&&Nat.blt 0 r.size&&(len==0||r.zero)with
     |true=>u1 τ 0 (parts.toList.map fun(i,x)=>(i,ρ x)) fun l=> .set new .tok (eC (.sl τ l (.own new)))
     |false=> .fail
   |_=> .fail
 |.load t a=>dr X t fun d=>u4 d (ρ a)
 |.store t a x=>dr X t fun d=>C0 d (ρ a) (ρ x)
 |.nilCheck x=>zr (ρ x) 0
 |.binOp D t x y _=>match ρ x with
   |.v false [.bool b]=>dr X t fun d=>match d.desc with
     |.bool=>tQ D (.v false [.bool b]) (ρ y)
     |_=> .fail
   |.v true p=>dr X t fun d=>Mz D d p (ρ y)
   |.v false [.sl _ _ u]=>dr X t fun d=>ID D d u (ρ y)
   |.v false [.gp c o z]=>dr X t fun d=>match IF (ρ y)with
     |some q=>Fe X D d c o z q
     |none=>rV false D d z.isNone (ρ y)
   |.v false [.gs _ z]=>dr X t fun d=>rV true D d z.isNone (ρ y)
   |a=>tQ D a (ρ y)
 |.unOp D _ x=>My D (ρ x)
 |.convert src J x=>dr X src fun O=>dr X J fun d=>match d.desc,ρ x with
   |.int k,.v false [.int _ n]=>iY k (k.wrap n)
   |.str,.v false [c]=>match O.desc with
     |.slice e=>dr X e fun r=>match r.desc with
      |.int .u8=>fk false c fun
       |.sl (.int .u8) l _=>eC (.str (bytesOf l))
       |.nils=>eC (.str [])
       |_=> .fail
      |_=> .fail
     |_=> .fail
   |_,_=> .fail
 |.makeFunc (.func f) first captured=>match first.size,zs (captured.toList.map ρ)with
   |0,some I=>eC (.clos f I)
   |_,_=>u9 (first.toList.map ρ) fun l a=>u9 (captured.toList.map ρ) fun m b=>eC (.gcl f l m (some (a,b)))
 |.makeSlice t l c=>dr X t fun d=>match d.desc with
   |.slice e=>dr X e fun r=>match ba t X.E3,ba e X.la with
    |some F,some V=>match zn l c,ρ l,Nat.blt 0 V.size with
     |true,.v false [.int _ n],true=> .get F fun
      |.gh true K H=>match dz K (.bf V) H with
       |some H=> .opt (Gn r.bytes n) fun n=> .set F (.gh true (.bf V) (dl (α:=List V.den) H (bE n V.zero))) (eC (.gs F (some (H.length,0,n))))
       |none=> .fail
      |_=> .fail
     |_,_,_=> .fail
    |some _,none=> .fail
    |none,_=>match r.zero&&Nat.blt 0 r.size with
     |true=>pz r fun τ=>match zn l c,ρ l,ρ c with
      |true,.v false [.int _ n],_=> .opt (Gn r.bytes n) fun n=> .set new (.row τ (bE n τ.zero)) (eC (.vec new))
      |false,.v false [.int _ 0],.v false [.int _ n]=> .opt (Gn r.bytes n) fun _=> .set new .tok (eC (.sl τ [] (.own new)))
      |_,_,_=> .fail
     |false=> .fail
   |_=> .fail
 |.slice t x Q P mx=>dr X t fun d=>C2 X d (ρ x) (Q.map ρ) (P.map ρ) (mx.map ρ)
 |.fieldAddr s x j=>dr X s fun d=>match pX d j with
   |some f=>dr X f.1 fun E=>match Nat.blt 0 E.size with
     |true=>zr (ρ x) f.2
     |false=> .fail
   |none=> .fail
 |.field s x j=>dr X s fun d=>match pX d j with
   |some f=>dr X f.1 fun E=>match ρ x with
     |.v true p=>partOf E.agg E.size f.2 p .ret
     |_=> .fail
   |none=> .fail
 |.indexAddr t x w=>dr X t fun d=>py X d (ρ x) (ρ w)
 |.index t x w=>dr X t fun d=>Fb d (ρ x) (ρ w)
 |.makeMap t none=>dr X t fun d=>match d.desc with
   |.map u B=>match ba t X.E3 with
    |some c=>match nQ X u B with
     |some (k,V)=>C3 c k V
     |none=> .fail
    |none=>match mn X u B with
     |some (k,v)=> .set new (.map k v []) (eC (.mp new))
     |none=> .fail
   |_=> .fail
 |.lookup t x w ok=>dr X t fun d=>match d.desc with
   |.map u B=>match Ke (ρ x)with
    |true=>match nQ X u B with
     |some (k,V)=>vd k V (ρ x) (ρ w) ok
     |none=> .fail
    |false=>match mn X u B with
     |some (k,v)=>zu k v (ρ x) (ρ w) ok
     |none=> .fail
   |_=> .fail
 |.mapUpdate t m w x=>dr X t fun d=>match d.desc with
   |.map u B=>match Ke (ρ m)with
    |true=>match nQ X u B with
     |some (k,V)=>ve k V (ρ m) (ρ w) (ρ x)
     |none=> .fail
    |false=>match mn X u B with
     |some (k,v)=>zv k v (ρ m) (ρ w) (ρ x)
     |none=> .fail
   |_=> .fail
 |.extract x j=>u7 (ρ x) j
 |.call c=>match c.callee with
   |.builtin .delete=>match c.argTypes.toList,c.args.toList.map ρ with
     |t::_,[x,w]=>dr X t fun d=>match d.desc with
      |.map u B=>match nQ X u B with
       |some (k,V)=>vf k V x w
       |none=> .fail
      |_=> .fail
     |_,_=> .fail
   |.builtin b=>u6 X new b c.argTypes.toList (c.args.toList.map ρ)
   |.value f=>match ρ f with
     |.v false [.clos f I]=>yv X new f (c.args.toList.map ρ++Ib I)
     |.v false [.kI f a x]=>match CX a with
      |true=>yv X new f (c.args.toList.map ρ++E6 a x)
      |false=> .fail
     |.v false [.gcl f l m x]=> .opt x fun x=>vb l 0 x.1 fun M=>vb m 0 x.2 fun N=>yv X new f (M++c.args.toList.map ρ++N)
     |_=> .fail
   |.invoke _ _=> .fail
 |_=> .fail
structure St where
 env:Env
 next:Nat
 heap:aD
def pA(env:Env)(b:Option Tmp)(a:A):Env:=
 match b with
 |some d=>(d,a)::env
 |none=>env
def yw(X:Cx)(a:Option Tmp):Bool:=
 match a with
 |some d=>Nat.blt d X.nt
 |none=>true
def Kf{R:Type}(X:Cx)(new:Nat)(o:Oper)(s:St)(K:St→Log→Option R):Option R:=
 (EZ X new (jJ s.env) o.op).run s.next s.heap [] fun a h L=>K { s with env:=pA s.env o.dst a,heap:=h } L
def vg(a:List Oper)(j:Nat):Option Tmp:=
 match a[j]? with
 |some o=>o.dst
 |none=>none
def xo{R:Type}(X:Cx)(a:List Oper)(K:St→List Log→Option R):Nat→List Oper→St→List Log→Option R
 |_,[],s,c=>K s c
 |new,o::r,s,c=>match yw X o.dst with
  |false=>none
  |true=>match o.guard with
   |none=>Kf X new o s fun s L=>xo X a K (new+1) r s (L::c)
   |some (j,d)=>match vg a j with
    |some g=>match look ar g s.env with
     |.v false [.bool b]=>match d with
      |true=>eN b (Kf X new o { s with env:=(g,.v false [.bool true])::s.env } fun s L=>xo X a K (new+1) r s (L::c))
       (xo X a K (new+1) r { s with env:=pA ((g,.v false [.bool false])::s.env) o.dst gR } ([]::c))
      |false=>eN b (xo X a K (new+1) r { s with env:=pA ((g,.v false [.bool true])::s.env) o.dst gR } ([]::c))
       (Kf X new o { s with env:=(g,.v false [.bool false])::s.env } fun s L=>xo X a K (new+1) r s (L::c))
     |.eo []=>xo X a K (new+1) r { s with env:=pA s.env o.dst gR } ([]::c)
     |_=>none
    |none=>none
def nR(a b:Log):Bool:=a.all fun(o,w)=>b.all fun(p,c)=> !(aJ o p&&(w||c))
def uses(a:List Oper)(o:Oper):List Tmp:=
 (o.op.operands.toList.filterMap fun |.tmp t=>some t |_=>none)++
 (match o.guard with
  |some (g,_)=>(vg a g).toList
  |none=>[])
def fR(a:List Oper)(x y:Oper):Bool:=
 (match x.dst with
  |some d=>(uses a y).all (fun t=> !aJ t d)&&(match y.dst with |some e=> !aJ e d |none=>true)
  |none=>true)&&
 (match y.dst with
  |some d=>(uses a x).all fun t=> !aJ t d
  |none=>true)
def C4(c:Array Oper)(a:List Log):Bool:=
 let b:=Region.before c
 let l:=c.toList
 (List.range c.size).all fun j=>match l[j]?,a[j]? with
  |some y,some g=>y.after.all (fun e=> !Region.binds .any e||Nat.blt e.on j)&&
   (List.range j).all fun i=>(b.getD j 0).testBit i||(match l[i]?,a[i]? with
    |some x,some d=>fR l x y&&nR d g
    |_,_=>false)
  |_,_=>false
def lg{R:Type}(X:Cx)(b:Array Oper)(a:Bool)(K:St→Option R)(s:St):Option R:=
 let l:=b.toList
 xo X l (fun s c=>match a with
  |false=>K s
  |true=>match C4 b c.reverse with
   |true=>K s
   |false=>none) s.next l { s with next:=s.next+l.length } []
def clean(a:List Log):Bool:=a.all fun L=>L.all fun q=> !q.2
def pZ{R:Type}(X:Cx)(b:Array Oper)(a:Bool)(K:St→Option R)(s:St):Option R:=
 let l:=b.toList
 xo X l (fun s c=>match clean c with
  |false=>none
  |true=>match a with
   |false=>K s
   |true=>match C4 b c.reverse with
    |true=>K s
    |false=>none) s.next l { s with next:=s.next+l.length } []
def DM(env:Env)(t:Nat)(τ:Ty):Option τ.den:=
 match look ar t env with
 |.v g a=>match g==τ.isAgg&&τ.aX with
  |true=>τ.bp a
  |false=>none
 |.eo _=>none
def vh(env:Env):(l:List (Nat×Ty))→Option (eo (l.map Prod.snd)).den
 |[]=>some ()
 |[(t,τ)]=>DM env t τ
 |(t,τ)::q::r=>match DM env t τ with
  |some x=>match vh env (q::r)with
   |some y=>some (x,y)
   |none=>none
  |none=>none
def vj:(l:List (Nat×Ty))→(eo (l.map Prod.snd)).den→Env→Env
 |[],_,env=>env
 |[(t,τ)],x,env=>(t,tP τ x)::env
 |(t,τ)::q::r,x,env=>(t,tP τ x.1)::vj (q::r) x.2 env
def p0(a:Array Oper):List Tmp:=a.toList.filterMap fun o=>o.dst
def gc:Code→List Tmp
 |.seq a b=>gc a++gc b
 |.cond _ a b=>gc a++gc b
 |.region _ c _=>p0 c
 |_=>[]
def mo(l:List Tmp):Env:=l.map fun d=>(d,ar)
def sR(X:Cx):Code→{R:Type}→(St→Option R)→St→Option R
 |.skip,_,K,s=>K s
 |.seq a b,_,K,s=>sR X a (sR X b K) s
 |.cond c a b,_,K,s=>match jJ s.env c with
  |.v false [.bool t]=>eN t (sR X a K s) (sR X b K s)
  |_=>none
 |.region _ g d,_,K,s=>pZ X g d K s
 |_,_,_,_=>none
def DN(l:List (Nat×Ty))(n:Nat)(s:St):Option (eo (l.map Prod.snd)).den:=
 match Nat.ble s.next n with
 |true=>vh s.env l
 |false=>none
def CK.den:CK→Type
 |.data τ=>τ.den
 |.own e=>List e.den
 |.fix _=>Unit
def rW:List CK→Type
 |[]=>Unit
 |k::r=>k.den×rW r
def SK.den:SK→Type
 |.data τ=>τ.den
 |.own e=>List e.den
 |.fix _=>Unit
 |.box l=>rW l
 |.ref a=>a.den
 |.vt V=>V.den
 |.cl _ a=>a.den
def OK.den:OK→Type
 |.row e=>List e.den
 |.iA e=>List e.den
 |.cells l=>rW l
 |.map k v=>List (k.den×v.den)
 |.gh _ K=>List (Option K.ga)
 |.obj τ=>τ.den
def vk:List (Nat×OK)→Type
 |[]=>Unit
 |k::r=>k.2.den×vk r
def mq:List (Nat×SK)→List (Nat×OK)→Type
 |[],a=>vk a
 |k::r,a=>k.2.den×mq r a
def NS.den(N:NS):Type:=mq N.slots N.obs
def DO:C→C→Bool
 |.vec o,.vec p=>aJ o p
 |.ptr o a,.ptr p b=>aJ o p&&aJ a b
 |.clos f l,.clos g m=>aJ f g&&l==m
 |.nilfn,.nilfn=>true
 |.nilp,.nilp=>true
 |.mp o,.mp p=>aJ o p
 |_,_=>false
def DP:A→A→Bool
 |.v false [c],.v false [d]=>DO c d
 |_,_=>false
def rX(n:Nat):C→Bool
 |.vec o=>Nat.blt o n
 |.ptr o _=>Nat.blt o n
 |.clos _ a=>a.all fun o=>Nat.blt o n
 |.nilfn=>true
 |.nilp=>true
 |.mp o=>Nat.blt o n
 |_=>false
def zw(n:Nat):A→Bool
 |.v false [c]=>rX n c
 |_=>false
def A9(e:Ty)(c:C)(h:aD):Option (List e.den×aD):=
 match c with
 |.nils=>some ([],h)
 |.sl a l (.own o)=>match look .dead o h with
  |.tok=>match fP a e l with
   |some l=>some (l,(o,.dead)::h)
   |none=>none
  |_=>none
 |_=>none
def IG(next:Nat)(k:CK)(c:C)(h:aD):Option (k.den×aD):=
 match k with
 |.data τ=>match aJ τ.size 1&& !τ.isAgg&&τ.aX with
  |true=>match τ.bp [c]with
   |some x=>some (x,h)
   |none=>none
  |false=>none
 |.own e=>A9 e c h
 |.fix d=>match DO d c&&rX next d with
  |true=>some ((),h)
  |false=>none
def sS(next:Nat):(l:List CK)→List C→aD→Option (rW l×aD)
 |[],[],h=>some ((),h)
 |k::r,c::a,h=>match IG next k c h with
  |some (x,h)=>match sS next r a h with
   |some (y,h)=>some ((x,y),h)
   |none=>none
  |none=>none
 |_,_,_=>none
def Ba(next:Nat)(k:SK)(a:A)(h:aD):Option (k.den×aD):=
 match k,a with
 |.data τ,.v g d=>match g==τ.isAgg&&τ.aX with
  |true=>match τ.bp d with
   |some x=>some (x,h)
   |none=>none
  |false=>none
 |.own e,.v false [c]=>A9 e c h
 |.fix a,b=>match DP a b&&zw next a with
  |true=>some ((),h)
  |false=>none
 |.box n,.v false [.ptr o j]=>match aJ j 0,look .dead o h with
  |true,.cells d=>sS next n d ((o,.dead)::h)
  |_,_=>none
 |.ref a,.v false [.mj i x c]=>match aJ c 0,gb i a x with
  |true,some x=>some (x,h)
  |_,_=>none
 |.vt V,.v g d=>match g==V.isAgg&&V.ok with
  |true=>match V.bp d with
   |some x=>some (x,h)
   |none=>none
  |false=>none
 |.cl f a,.v false [.kI l i x]=>match aJ f l,gb i a x with
  |true,some x=>some (x,h)
  |_,_=>none
 |_,_=>none
def IH(next:Nat)(k:OK)(x:Ob)(h:aD):Option (k.den×aD):=
 match k,x with
 |.row e,.row b l=>match fP b e l with
  |some l=>some (l,h)
  |none=>none
 |.iA e,.iA b l=>match fP b e l with
  |some l=>some (l,h)
  |none=>none
 |.cells i,.cells a=>sS next i a h
 |.map k v,.map g j l=>match lf g j k v l with
  |some l=>some (l,h)
  |none=>none
 |.gh wr K,.gh c d H=>match wr==c,dz d K H with
  |true,some H=>some (H,h)
  |_,_=>none
 |.obj τ,.cells a=>match τ.aX with
  |true=>match τ.bp a with
   |some x=>some (x,h)
   |none=>none
  |false=>none
 |_,_=>none
def zx(next:Nat):(l:List (Nat×OK))→aD→Option (vk l×aD)
 |[],h=>some ((),h)
 |(o,k)::r,h=>match Nat.blt o next with
  |false=>none
  |true=>match IH next k (look .dead o h) h with
   |some (x,h)=>match zx next r h with
    |some (y,h)=>some ((x,y),h)
    |none=>none
   |none=>none
def p1(next:Nat)(env:Env):(l:List (Nat×SK))→(a:List (Nat×OK))→aD→Option (mq l a×aD)
 |[],a,h=>zx next a h
 |(t,k)::r,a,h=>match Ba next k (look ar t env) h with
  |some (x,h)=>match p1 next env r a h with
   |some (y,h)=>some ((x,y),h)
   |none=>none
  |none=>none
def dec(N:NS)(s:St):Option N.den:=
 match Nat.ble N.next s.next with
 |false=>none
 |true=>match p1 N.next s.env N.slots N.obs s.heap with
  |some (x,_)=>some x
  |none=>none
def II(k:CK)(x:k.den)(new:Nat):List C×Nat:=
 match k,x with
 |.data τ,x=>(τ.cells x,new)
 |.own e,l=>([.sl e l (.own new)],new+1)
 |.fix c,_=>([c],new)
def mr:(l:List CK)→rW l→Nat→List C×Nat
 |[],_,c=>([],c)
 |k::r,x,c=>
  let a:=II k x.1 c
  let b:=mr r x.2 a.2
  (a.1++b.1,b.2)
def Ea(k:SK)(x:k.den)(new:Nat):A×Nat:=
 match k,x with
 |.data τ,x=>(.v τ.isAgg (τ.cells x),new)
 |.own e,l=>(.v false [.sl e l (.own new)],new+1)
 |.fix a,_=>(a,new)
 |.box b,x=>(.v false [.ptr new 0],(mr b x (new+1)).2)
 |.ref a,x=>(.v false [.mj a x 0],new)
 |.vt V,x=>(kJ V x,new)
 |.cl f a,x=>(.v false [.kI f a x],new)
def je(k:SK)(x:k.den)(new:Nat):aD:=
 match k,x with
 |.box a,x=>[(new,.cells (mr a x (new+1)).1)]
 |_,_=>[]
def iZ(k:OK)(x:k.den)(new:Nat):Ob×Nat:=
 match k,x with
 |.row e,l=>(.row e l,new)
 |.iA e,l=>(.iA e l,new)
 |.map k v,l=>(.map k v l,new)
 |.gh wr K,H=>(.gh wr K H,new)
 |.obj τ,x=>(.cells (τ.cells x),new)
 |.cells b,x=>let a:=mr b x new;(.cells a.1,a.2)
def jf:(l:List (Nat×OK))→vk l→Nat→aD×Nat
 |[],_,c=>([],c)
 |(o,k)::r,x,c=>
  let a:=iZ k x.1 c
  let b:=jf r x.2 a.2
  ((o,a.1)::b.1,b.2)
def cK:(l:List (Nat×SK))→(c:List (Nat×OK))→mq l c→Nat→Env×aD×Nat
 |[],c,x,d=>([],jf c x d)
 |(t,k)::r,c,x,d=>
  let a:=Ea k x.1 d
  let b:=cK r c x.2 a.2
  ((t,a.1)::b.1,je k x.1 d++b.2.1,b.2.2)
def toks(a:Nat):Nat→aD
 |0=>[]
 |n+1=>(a+n,.tok)::toks a n
def enc(N:NS)(x:N.den):St:=
 let a:=cK N.slots N.obs x N.next
 { env:=a.1,next:=a.2.2,heap:=a.2.1++toks N.next (a.2.2 -N.next) }
def ms:List (Ex×NS)→Type
 |[]=>Empty
 |[o]=>o.2.den
 |o::p::r=>o.2.den⊕ms (p::r)
def zy:Ex→Ex→Bool
 |.normal,.normal=>true
 |.ret,.ret=>true
 |.exit a,.exit b=>aJ a b
 |_,_=>false
def rY:(l:List (Ex×NS))→Ex→St→Option (ms l)
 |[],_,_=>none
 |[o],e,s=>match zy o.1 e with
  |true=>dec o.2 s
  |false=>none
 |o::p::r,e,s=>match zy o.1 e with
  |true=>match dec o.2 s with
   |some x=>some (.inl x)
   |none=>none
  |false=>match rY (p::r) e s with
   |some x=>some (.inr x)
   |none=>none
def Kg{α β R:Type}(x:α⊕β)(f:α→Option R)(g:β→Option R):Option R:=
 match x with
 |.inl a=>f a
 |.inr b=>g b
def zA{R:Type}:(l:List (Ex×NS))→ms l→(Ex→St→Option R)→Option R
 |[],_,_=>none
 |[o],x,K=>K o.1 (enc o.2 x)
 |o::p::r,x,K=>Kg x (fun x=>K o.1 (enc o.2 x)) (fun y=>zA (p::r) y K)
def fS:Code→Nat
 |.region id _ _=>id
 |.seq a _=>fS a
 |.block _ a=>fS a
 |.loop a=>fS a
 |.scope a=>fS a
 |_=>0
def MA{R:Type}(next:St→Option R)(K:Ex→St→Option R)(e:Ex)(s:St):Option R:=
 match e with
 |.normal=>next s
 |e=>K e s
def IJ{R:Type}(id:Nat)(K:Ex→St→Option R)(e:Ex)(s:St):Option R:=
 match e with
 |.exit j=>match aJ j id with
  |true=>K .normal s
  |false=>K (.exit j) s
 |e=>K e s
def nS(N:NS)(e:Ex)(s:St):Option N.den:=
 match e with
 |.normal=>dec N s
 |_=>none
def yx(S:LS)(body:(Ex→St→Option (ms S.outs))→St→Option (ms S.outs)):Nat→S.Gv.den→Option (ms S.outs)
 |0,_=>none
 |n+1,v=>body (fun e s=>match e with
  |.normal=>match dec S.Gv s with
   |some v=>yx S body n v
   |none=>none
  |e=>rY S.outs e s) (enc S.Gv v)
def IK(X:Cx):Operand→Option NS
 |.tmp t=>ba t X.bu
 |_=>none
def MB(X:Cx):Operand→Option (List (Nat×Ty)×Nat)
 |.tmp t=>ba t X.lcs
 |_=>none
def fp(X:Cx):Code→{R:Type}→(Ex→St→Option R)→St→Option R
 |.skip,_,K,s=>K .normal s
 |.seq a b,_,K,s=>fp X a (MA (fp X b K) K) s
 |.cond c a b,_,K,s=>match jJ s.env c with
  |.v false [.bool t]=>match IK X c with
   |some N=>(eN t (fp X a (nS N) s) (fp X b (nS N) s)).bind fun v=>K .normal (enc N v)
   |none=>match MB X c with
    |some (l,k)=>(eN t (sR X a (DN l (s.next+k)) s) (sR X b (DN l (s.next+k)) s)).bind fun v=>K .normal { env:=vj l v (mo (gc a++gc b)++s.env),next:=s.next+k,heap:=s.heap }
    |none=>eN t (fp X a K s) (fp X b K s)
  |_=>none
 |.block id a,_,K,s=>fp X a (IJ id K) s
 |.loop a,_,K,s=>match ba (fS a) X.loops with
  |some S=>match dec S.Gv s with
   |some v=>(yx S (fun K s=>fp X a K s) X.fuel v).bind fun h=>zA S.outs h K
   |none=>none
  |none=>none
 |.exit id,_,K,s=>K (.exit id) s
 |.ret,_,K,s=>K .ret s
 |.region id g d,_,K,s=>match ba id X.IC with
  |some N=>(lg X g d (fun s=>dec N s) s).bind fun v=>K .normal (enc N v)
  |none=>match ba id X.A6 with
   |some l=>(pZ X g d (fun i=>vh i.env l) s).bind fun v=>K .normal { env:=vj l v (mo (p0 g)++s.env),next:=s.next+g.toList.length,heap:=s.heap }
   |none=>lg X g d (K .normal) s
 |.scope a,_,K,s=>fp X a K s
 |.label _,_,K,s=>K .normal s
 |_,_,_,_=>none
def hP(key:Nat):Code→Option Code
 |.seq a b=>match hP key a with
  |some c=>some c
  |none=>hP key b
 |.cond _ a b=>match hP key a with
  |some c=>some c
  |none=>hP key b
 |.block _ a=>hP key a
 |.loop a=>match aJ (fS a) key with
  |true=>some a
  |false=>hP key a
 |.scope a=>hP key a
 |_=>none
def nT(X:Cx)(fn:Func)(S:LS)(key:Nat)(n:Nat)(v:S.Gv.den):Option (ms S.outs):=
 match fn.body with
 |none=>none
 |some c=>match hP key c with
  |some a=>yx S (fun K s=>fp X a K s) n v
  |none=>none
def et:Nat→List A→Env
 |_,[]=>[]
 |n,a::r=>(n,a)::et (n+1) r
def hU{R:Type}(X:Cx)(s:St):(rs:List Ty)→List ResultVar→aD→((eo rs).den→aD→Option R)→Option R
 |[],[],h,k=>k () h
 |[τ],[r],h,k=>resK τ r h k
 |τ::σ::rs,r::i,h,k=>resK τ r h fun x h=>hU X s (σ::rs) i h fun y h=>k (x,y) h
 |_,_,_,_=>none
 where
 resK (τ:Ty) (r:ResultVar) (h:aD) (k:τ.den→aD→Option R):Option R:=
  match r with
  |.tmp t=>valK τ (look ar t s.env) h k
  |.cell a t=>match ba t X.tt with
   |some d=>(u4 d (look ar a s.env)).run s.next h [] fun a h _=>valK τ a h k
   |none=>none
 valK (τ:Ty) (a:A) (h:aD) (k:τ.den→aD→Option R):Option R:=
  match τ,a with
  |.sl σ,.v false [.gs c x]=>match look .dead c h with
   |.gh true K H=>match dz K (.bf (.data σ)) H,σ.aX with
    |some H,true=>(IA H x).bind fun r=>k r.1 ((c,.gh true (.bf (.data σ)) r.2)::h)
    |_,_=>none
   |_=>none
  |τ,.v g b=>match g==τ.isAgg&&τ.aX with
   |true=>(di true b fun b=> .ret (.v g b)).run s.next h [] fun a h _=>match a with
    |.v _ b=>match τ.bp b with
     |some x=>k x h
     |none=>none
    |_=>none
   |false=>none
  |_,_=>none
def fl(l:List (Nat×GK)):aD:=l.map fun k=>(k.1,.gh true k.2 [])
def Bb(nc:Nat)(l:List (Nat×GK)):Bool:=pU (l.map (·.1))&&l.all fun k=>Nat.blt k.1 nc&&k.2.ok
def au(X:Cx)(fn:Func)(ps rs:List Ty)(x:(eo ps).den):Option (eo rs).den:=
 match fn.body,Nat.ble X.nt fn.ntmps&&Bb X.nc X.loc with
 |none,_=>none
 |_,false=>none
 |some c,true=>fp X c (fun e s=>match e with
  |.exit _=>none
  |_=>hU X s rs fn.results.toList s.heap fun r _=>some r) { env:=et 0 (lc ps x),next:=X.nc,heap:=fl X.loc }
def fT{R:Type}(X:Cx)(s:St):(rs:List VT)→List ResultVar→aD→((iz rs).den→aD→Option R)→Option R
 |[],[],h,k=>k () h
 |[V],[r],h,k=>resK V r h k
 |V::U::rs,r::i,h,k=>resK V r h fun x h=>fT X s (U::rs) i h fun y h=>k (x,y) h
 |_,_,_,_=>none
 where
 resK (V:VT) (r:ResultVar) (h:aD) (k:V.den→aD→Option R):Option R:=
  match r with
  |.tmp t=>valK V (look ar t s.env) h k
  |.cell a t=>match ba t X.tt with
   |some d=>(u4 d (look ar a s.env)).run s.next h [] fun a h _=>valK V a h k
   |none=>none
 valK (V:VT) (a:A) (h:aD) (k:V.den→aD→Option R):Option R:=
  match V,a with
  |.data (.sl σ),.v false [.gs c x]=>match look .dead c h with
   |.gh true K H=>match dz K (.bf (.data σ)) H,σ.aX with
    |some H,true=>(IA H x).bind fun r=>k r.1 ((c,.gh true (.bf (.data σ)) r.2)::h)
    |_,_=>none
   |_=>none
  |V,.v g b=>match g==V.isAgg&&V.ok with
   |true=>(di true b fun b=> .ret (.v g b)).run s.next h [] fun a h _=>match a with
    |.v _ b=>match V.bp b with
     |some x=>k x h
     |none=>none
    |_=>none
   |false=>none
  |_,_=>none
def vl(h:aD):(l:List (Nat×GK))→Option (cJ l)
 |[]=>some ()
 |(c,K)::r=>match look .dead c h with
  |.gh true a H=>match dz a K H,vl h r with
   |some H,some y=>some (H,y)
   |_,_=>none
  |_=>none
def bq(wr:Bool):(l:List (Nat×GK))→cJ l→aD
 |[],_=>[]
 |(c,K)::r,x=>(c,.gh wr K x.1)::bq wr r x.2
def VT.tR(l:List Nat):VT→Bool
 |.data _=>true
 |.gp c _=> !(l.contains c)
 |.gs c=> !(l.contains c)
 |.gm c=> !(l.contains c)
 |.cl _ a b=>(a.all fun p=> !(l.contains p.1))&&(b.all fun p=> !(l.contains p.1))
 |.pair a b=>a.tR l&&b.tR l
 |.unit=>true
def GK.tR(l:List Nat):GK→Bool
 |.st V=>V.tR l
 |.bf V=>V.tR l
 |.mp _ V=>V.tR l
def DQ(l:List Nat)(ps rs:List VT)(a:List (Nat×GK)):Bool:=ps.all (VT.tR l)&&rs.all (VT.tR l)&&a.all fun k=>k.2.tR l&& !(l.contains k.1)
def aO(X:Cx)(fn:Func)(ps rs:List VT)(ws os:List (Nat×GK))(x:(iz ps).den)(b:cJ ws)(a:cJ os):Option ((iz rs).den×cJ ws):=
 match fn.body,Nat.ble X.nt fn.ntmps,Bb X.nc (ws++os)&&Bb X.nc X.loc&&DQ (X.loc.map (·.1)) ps rs (ws++os)with
 |some c,true,true=>fp X c (fun e s=>match e with
  |.exit _=>none
  |_=>fT X s rs fn.results.toList s.heap fun r h=>match vl h ws with
   |some y=>some (r,y)
   |none=>none) { env:=et 0 (jd ps x),next:=X.nc,heap:=bq true ws b++(bq false os a++fl X.loc) }
 |_,_,_=>none
def gd(X:Cx)(fn:Func)(e:Ty)(as:List A):Option (List e.den):=
 match fn.body,Nat.ble X.nt fn.ntmps,fn.results.toList with
 |some c,true,[.tmp t]=>fp X c (fun a s=>match a with
  |.exit _=>none
  |_=>match look ar t s.env with
   |.v false [c]=>(A9 e c s.heap).map (·.1)
   |_=>none) { env:=et 0 as,next:=0,heap:=[] }
 |_,_,_=>none
open Go
abbrev aL:=Nat→Nat→Prop
def bm{α:Type}(R:α→List Value→Prop):List α→List Value→Prop
 |[],b=>b=[]
 |x::l,b=>∃c a,b=c++a∧R x c∧bm R l a
def At(w:World)(Z:aL)(base:Option Addr)(c:List Value):Prop:=
 c≠[]→∃b a,base=some ⟨b,a,none⟩∧∀j u,c[j]? =some u→w.cell? ⟨b,a+j,none⟩=some u∧Z b (a+j)
def PR(w:World)(Z Zp:aL):(τ:Ty)→τ.den→List Value→Prop
 |.bool,b,c=>c=[.bool b]
 |.int k,n,c=>c=[.int k n]
 |.str,s,c=>c=[.string ⟨s.toArray⟩]
 |.sl e,l,c=>∃base p i,c=[.slice base (aa l) p]∧aa l≤p∧bm (PR w Z Zp e) l i∧At w Z base i
 |.pair a b,x,c=>∃i q,c=i++q∧PR w Z Zp a x.1 i∧PR w Z Zp b x.2 q
 |.unit,_,c=>c=[]
 |.ref a,x,c=>∃b o i,c=[.pointer (some ⟨b,o,none⟩)]∧PR w Z Zp a x i∧
  ∀j u,i[j]? =some u→w.cell? ⟨b,o+j,none⟩=some u∧Zp b (o+j)
 |.fn f,_,c=>c=[.func (.func f) #[] #[]]
 |.cl f a,x,c=>∃d:Array Value,c=[.func (.func f) #[] d]∧PR w Z Zp a x d.toList
theorem bm.length{α:Type}{R:α→List Value→Prop}{k:Nat}(d:∀x b,R x b→b.length=k):∀(l:List α) (vs:List Value),bm R l vs→vs.length=l.length*k
 |[],vs,h=>by simp[bm]at h;simp[h]
 |x::l,vs,⟨b,a,e,j,i⟩=>by
  subst e;simp[d x b j,bm.length d l a i,bF,Nat.add_comm]
theorem PR.length{w:World}{Z Zp:aL}:∀(τ:Ty) (x:τ.den) (vs:List Value),PR w Z Zp τ x vs→vs.length=τ.size
 |.bool,_,_,h=>by simp[PR]at h;simp[h,Ty.size]
 |.int _,_,_,h=>by simp[PR]at h;simp[h,Ty.size]
 |.str,_,_,h=>by simp[PR]at h;simp[h,Ty.size]
 |.sl _,_,_,⟨_,_,_,h,_⟩=>by simp[h,Ty.size]
 |.pair a b,x,_,⟨j,rs,h,d,i⟩=>by simp[h,Ty.size,PR.length a _ _ d,PR.length b _ _ i]
 |.unit,_,_,h=>by simp[PR]at h;simp[h,Ty.size]
 |.ref _,_,_,⟨_,_,_,h,_⟩=>by simp[h,Ty.size]
 |.fn _,_,_,h=>by simp[PR]at h;simp[h,Ty.size]
 |.cl _ _,_,_,⟨_,h,_⟩=>by simp[h,Ty.size]
theorem bm.mono{α:Type}{R d:α→List Value→Prop}(h:∀x b,R x b→d x b):∀(l:List α) (vs:List Value),bm R l vs→bm d l vs
 |[],_,i=>i
 |_::l,_,⟨b,a,e,p,j⟩=>⟨b,a,e,h _ _ p,bm.mono h l a j⟩
def bc(w w':World)(Z a:aL):Prop:=∀b i,Z b i→a b i∧w'.cell? ⟨b,i,none⟩=w.cell? ⟨b,i,none⟩
theorem bc.refl(w:World)(Z:aL):bc w w Z Z:=fun _ _ h=>⟨h,rfl⟩
theorem bc.trans{w w1 l:World}{Z d j:aL}(h:bc w w1 Z d)(k:bc w1 l d j):bc w l Z j:=
 fun b i a=>⟨(k b i (h b i a).1).1,(k b i (h b i a).1).2.trans (h b i a).2⟩
theorem At.mono{w w':World}{Z p:aL}(h:bc w w' Z p){base:Option Addr}{r:List Value}(t:At w Z base r):At w' p base r:=by
 intro i;obtain⟨b,l,hb,a⟩:=t i;exact⟨b,l,hb,fun j u d=>⟨(h _ _ (a j u d).2).2.trans (a j u d).1,(h _ _ (a j u d).2).1⟩⟩
theorem PR.mono{w w':World}{Z I Zp rT:aL}(h:bc w w' Z I)(i:bc w w' Zp rT):∀(τ:Ty) (x:τ.den) (vs:List Value),PR w Z Zp τ x vs→PR w' I rT τ x vs
 |.bool,_,_,d=>d
 |.int _,_,_,d=>d
 |.str,_,_,d=>d
 |.sl e,l,_,⟨base,D,p,J,K,L,M⟩=>⟨base,D,p,J,K,bm.mono (fun x N O=>PR.mono h i e x N O) l p L,M.mono h⟩
 |.pair a b,_,_,⟨p,rs,e,t,y⟩=>⟨p,rs,e,PR.mono h i a _ _ t,PR.mono h i b _ _ y⟩
 |.unit,_,_,d=>d
 |.ref a,_,_,⟨b,H,p,e,t,y⟩=>⟨b,H,p,e,PR.mono h i a _ _ t,fun j u E=>⟨(i _ _ (y j u E).2).2.trans (y j u E).1,(i _ _ (y j u E).2).1⟩⟩
 |.fn _,_,_,d=>d
 |.cl _ a,_,_,⟨r,e,t⟩=>⟨r,e,PR.mono h i a _ _ t⟩
theorem PR.flat{w w':World}{Z j Zp rT:aL}:∀(τ:Ty) (x:τ.den) (vs:List Value),τ.flat=true→PR w Z Zp τ x vs→PR w' j rT τ x vs
 |.bool,_,_,_,i=>i
 |.int _,_,_,_,i=>i
 |.str,_,_,_,i=>i
 |.sl _,_,_,d,_=>by simp[Ty.flat]at d
 |.pair a b,_,_,d,⟨r,rs,e,l,p⟩=>by
  simp[Ty.flat]at d;exact⟨r,rs,e,PR.flat a _ _ d.1 l,PR.flat b _ _ d.2 p⟩
 |.unit,_,_,_,i=>i
 |.ref _,_,_,d,_=>by simp[Ty.flat]at d
 |.fn _,_,_,_,i=>i
 |.cl _ _,_,_,d,_=>by simp[Ty.flat]at d
theorem PR.aX{w:World}{Z Zp rT:aL}:∀(τ:Ty) (x:τ.den) (vs:List Value),τ.aX=true→PR w Z Zp τ x vs→PR w Z rT τ x vs
 |.bool,_,_,_,i=>i
 |.int _,_,_,_,i=>i
 |.str,_,_,_,i=>i
 |.sl e,l,_,d,⟨base,p,j,r,t,u,y⟩=>⟨base,p,j,r,t,bm.mono (fun x D I=>PR.aX e x D d I) l j u,y⟩
 |.pair a b,_,_,d,⟨j,rs,e,E,H⟩=>by
  simp[Ty.aX]at d;exact⟨j,rs,e,PR.aX a _ _ d.1 E,PR.aX b _ _ d.2 H⟩
 |.unit,_,_,_,i=>i
 |.ref _,_,_,d,_=>by simp[Ty.aX]at d
 |.fn _,_,_,_,i=>i
 |.cl _ _,_,_,d,_=>by simp[Ty.aX]at d
def Ty.vals:(τ:Ty)→τ.den→List Value
 |.bool,b=>[.bool b]
 |.int k,n=>[.int k n]
 |.str,s=>[.string ⟨s.toArray⟩]
 |.pair a b,x=>a.vals x.1++b.vals x.2
 |_,_=>[]
theorem PR.vals{w:World}{Z Zp:aL}:∀(τ:Ty) (x:τ.den) (vs:List Value),τ.isKey=true→(PR w Z Zp τ x vs↔vs=τ.vals x)
 |.bool,_,_,_=>Iff.rfl
 |.int _,_,_,_=>Iff.rfl
 |.str,_,_,_=>Iff.rfl
 |.sl _,_,_,d=>by simp[Ty.isKey]at d
 |.pair a b,x,vs,d=>by
  simp[Ty.isKey]at d;constructor
  ·rintro⟨l,rs,e,i,j⟩;rw[e,(PR.vals a _ _ d.1).1 i,(PR.vals b _ _ d.2).1 j];rfl
  ·intro e;exact⟨_,_,e,(PR.vals a _ _ d.1).2 rfl,(PR.vals b _ _ d.2).2 rfl⟩
 |.unit,_,_,_=>Iff.rfl
 |.ref _,_,_,d=>by simp[Ty.isKey]at d
 |.fn _,_,_,d=>by simp[Ty.isKey]at d
 |.cl _ _,_,_,d=>by simp[Ty.isKey]at d
def FV(τ:Ty)(x:τ.den)(v:Value):Prop:=
 match τ.isAgg with
 |true=>v= .agg (τ.vals x).toArray
 |false=>τ.vals x=[v]
def Eb(k v:Ty)(l:List (k.den×v.den))(a:List MapEntry):Prop:=
 l.length=a.length∧∀(j:Nat) (p:k.den×v.den) (e:MapEntry),l[j]? =some p→a[j]? =some e→FV k p.1 e.key∧FV v p.2 e.val
structure G where
 al:Nat→Prop
 Z:aL
 hm:Nat→Option Nat
 lo:Nat→Nat
 pm:Nat→Nat→Option (Nat×Nat×Nat×Nat)
structure W0 extends World where
 B:Nat→Prop
 pm:Nat→Nat→Option (Nat×Nat×Nat×Nat)
 ro:Nat→Option (Σ K:GK,List (Option K.ga))
 ws:Nat→Prop
structure W0.Extends (w0:W0) (w:World):Prop where
 os:w.os=w0.os
 tape:w.tape=w0.tape
 output:w.output=w0.output
 size:w0.heap.size≤w.heap.size
 block:∀i:Nat,i<w0.heap.size→¬ w0.B i→w.heap[i]? =w0.heap[i]?
theorem W0.Extends.trans{w0:W0}{w w':World}(h:w0.Extends w)(k:w.Extends w'):w0.Extends w':=
 ⟨k.os.trans h.os,k.tape.trans h.tape,k.output.trans h.output,Nat.le_trans h.size k.size,fun i a hb=>(k.block i (aK a h.size)).trans (h.block i a hb)⟩
theorem W0.Extends.drew{w0:W0}{w:World}(h:w0.Extends w):w0.Extends w.drew:=⟨h.os,h.tape,h.output,h.size,h.block⟩
theorem W0.Extends.alloc{w0:W0}{w:World}(h:w0.Extends w)(o:Obj):w0.Extends (w.alloc o):=h.trans ((World.Extends.refl w).alloc o)
theorem W0.Extends.world{w0:W0}{w:World}(h:w0.Extends w)(hb:∀b,¬ w0.B b):w0.toWorld.Extends w:=by
 have hB:∀i:Nat,i<w0.heap.size→w.heap[i]? =w0.heap[i]? :=fun i j=>h.block i j (hb i)
 refine⟨h.os,h.tape,h.output,h.size,fun a d=> ?_,fun a d=> ?_,hB⟩
 ·simp only[World.cell?,hB a.block d]
 ·simp only[World.frozen?,hB a.block d]
def Kh(w:World)(base:Nat)(g:G)(o:Nat)(size len:Nat)(v:Value):Prop:=
 (g.hm o=none∧v= .slice none 0 0∧len=0)∨
 (∃b a c d,g.hm o=some b∧v= .slice (some ⟨b,0,none⟩) len a∧w.heap[b]? =some (.cells c d (0,0))∧
  len≤a∧a≤maxLen∧c.size=a*size∧base≤b∧g.lo o=len*size)
def dn:Ob→Option (Ty×Nat)
 |.row e l=>some (e,aa l)
 |.iA e l=>some (e,aa l)
 |_=>none
def ov(v:Value):Prop:=∃a,v= .pointer a
def iL(pm:Nat→Nat→Option (Nat×Nat×Nat×Nat)):List (Nat×Nat)→List Nat→List Value→Prop
 |[],[],j=>j=[]
 |(c,d)::l,i::a,j=>∃e b,j= .pointer (some ⟨e.1,d,none⟩)::b∧(pm c i=some e∧e.2.1=0)∧iL pm l a b
 |_,_,_=>False
theorem iL.mono{pm d:Nat→Nat→Option (Nat×Nat×Nat×Nat)}(p:∀c i e,pm c i=some e→d c i=some e):∀(l:List (Nat×Nat)) (a:List Nat) (vs:List Value),iL pm l a vs→iL d l a vs
 |[],[],_,h=>h
 |_::l,_::a,_,⟨e,b,r,j,t⟩=>⟨e,b,r,⟨p _ _ _ j.1,j.2⟩,iL.mono p l a b t⟩
 |[],_::_,_,h=>h.elim
 |_::_,[],_,h=>h.elim
def CR(w:World)(base:Nat)(Zp:aL)(h:aD)(g:G):C→Value→Prop
 |.undef,_=>True
 |.bool b,v=>v= .bool b
 |.int k n,v=>v= .int k n
 |.str s,v=>v= .string ⟨s.toArray⟩
 |.sl e l t,v=>PR w g.Z Zp (.sl e) l [v]∧match t with
  |.no=>True
  |.nn=>∃a n c,v= .slice (some a) n c
  |.nl=>∃n c,v= .slice none n c
  |.own o=>g.al o∧(look .dead o h= .tok→Kh w base g o e.size (aa l) v)
 |.nils,v=>v= .slice none 0 0
 |.vec o,v=>g.al o∧(∃a n m,v= .slice a n m)∧∀e n,dn (look .dead o h)=some (e,n)→∃b,g.hm o=some b∧v= .slice (some ⟨b,0,none⟩) n n
 |.ptr o d,v=>g.al o∧ov v∧(look .dead o h≠.dead→∃b,g.hm o=some b∧v= .pointer (some ⟨b,d,none⟩))
 |.xn o i c,v=>g.al o∧ov v∧∀e n,dn (look .dead o h)=some (e,n)→∃b,g.hm o=some b∧v= .pointer (some ⟨b,i*e.size+c,none⟩)
 |.E2 o d _ i,v=>g.al o∧ov v∧(look .dead o h≠.dead→∃b,g.hm o=some b∧v= .pointer (some ⟨b,d+i,none⟩))
 |.mj a x c,v=>∃b d D,v= .pointer (some ⟨b,d+c,none⟩)∧PR w g.Z Zp a x D∧
   ∀j u,D[j]? =some u→w.cell? ⟨b,d+j,none⟩=some u∧(g.Z b (d+j)∨Zp b (d+j))
 |.clos f B,v=>∃y,v= .func (.func f) #[] y∧bm (fun o E=>g.al o∧∃u,E=[u]∧ov u∧(look .dead o h≠.dead→∃b,g.hm o=some b∧u= .pointer (some ⟨b,0,none⟩))) B y.toList
 |.nilfn,v=>v= .nilFunc
 |.nilp,v=>v= .pointer none
 |.mp o,v=>g.al o∧(∃r,v= .map (some r))∧(look .dead o h≠.dead→∃b,g.hm o=some b∧v= .map (some b))
 |.kI f a x,v=>PR w g.Z Zp (.cl f a) x [v]
 |.gp c d x,v=>match x with
  |none=>v= .pointer none
  |some id=>∃e,g.pm c id=some e∧e.2.1=0∧v= .pointer (some ⟨e.1,d,none⟩)
 |.gs c x,v=>match x with
  |none=>v= .slice none 0 0
  |some (id,a,n)=>∃b k p z o,g.pm c id=some (b,k,p,z)∧a+n≤p∧(a<p→o=k+a*z)∧v= .slice (some ⟨b,o,none⟩) n (p -a)
 |.ge c id F d,v=>∃b k p z,g.pm c id=some (b,k,p,z)∧v= .pointer (some ⟨b,k+F*z+d,none⟩)
 |.gm c x,v=>match x with
  |none=>v= .map none
  |some id=>∃e,g.pm c id=some e∧v= .map (some e.1)
 |.gcl f l m x,v=>match x with
  |none=>v= .nilFunc
  |some q=>∃a b:Array Value,v= .func (.func f) a b∧iL g.pm l q.1 a.toList∧iL g.pm m q.2 b.toList
def bG(w:World)(base:Nat)(Zp:aL)(h:aD)(g:G):List C→List Value→Prop
 |[],b=>b=[]
 |c::d,b=>∃v a,b=v::a∧CR w base Zp h g c v∧bG w base Zp h g d a
def VR(w:World)(base:Nat)(Zp:aL)(h:aD)(g:G)(agg:Bool)(cs:List C)(v:Value):Prop:=
 match agg with
 |true=>∃a:List Value,v= .agg a.toArray∧bG w base Zp h g cs a
 |false=>bG w base Zp h g cs [v]
def AR(w:World)(base:Nat)(Zp:aL)(h:aD)(g:G):A→Value→Prop
 |.v agg b,v=>VR w base Zp h g agg b v
 |.eo ps,v=>∃a:List Value,v= .tuple a.toArray∧bm (fun(p:Bool×List C) c=>∃u,c=[u]∧VR w base Zp h g p.1 p.2 u) ps a
def p2(w:World)(base:Nat)(Zp:aL)(h:aD)(g:G)(o:Nat):Ob→Prop
 |.dead=>True
 |.tok=>True
 |.cells n=>∃b a d,g.hm o=some b∧w.heap[b]? =some (.cells a d (0,0))∧bG w base Zp h g n a.toList
 |.row e l=>0<e.size∧e.aX=true∧∃b a d,g.hm o=some b∧w.heap[b]? =some (.cells a d (0,0))∧bm (PR w g.Z Zp e) l a.toList
 |.iA e l=>0<e.size∧e.aX=true∧∃b a d p,g.hm o=some b∧w.heap[b]? =some (.cells a d p)∧bm (PR w g.Z Zp e) l a.toList∧∀i,i<a.size→g.Z b i
 |.map k v l=>k.isKey=true∧v.isKey=true∧(l.map (·.1)).Nodup∧∃b j c,g.hm o=some b∧w.heap[b]? =some (.map j c)∧Eb k v l j.toList
 |.gh _ _ _=>g.hm o=none
def gi(w:World)(base:Nat)(Zp:aL)(h:aD)(g:G)(c id:Nat):(K:GK)→K.ga→Prop
 |.st V,x=>0<V.size∧∃b a d o,g.pm c id=some (b,0,a,V.size)∧w.heap[b]? =some (.cells d o (0,0))∧bG w base Zp h g (V.cells x) d.toList
 |.bf V,l=>0<V.size∧∃b k a d o,g.pm c id=some (b,k,a,V.size)∧w.heap[b]? =some (.cells d o (0,0))∧d.size=k+a*V.size∧aa l≤a∧a≤maxLen∧
  bm (fun y n=>bG w base Zp h g (V.cells y) n) l ((d.toList.drop k).take (aa l*V.size))
 |.mp k V,l=>k.isKey=true∧(List.map (·.1) l).Nodup∧∃b n i,g.pm c id=some (b,0,0,0)∧w.heap[b]? =some (.map n i)∧aa l=n.size∧
  ∀(j:Nat) (p:k.den×V.den) (e:MapEntry),nth (α:=k.den×V.den) l j=some p→n[j]? =some e→FV k p.1 e.key∧VR w base Zp h g V.isAgg (V.cells p.2) e.val
def GL(h:aD)(g:G)(c id b:Nat):Prop:=∃wr K H x e,look .dead c h= .gh wr K H∧H[id]? =some (some x)∧g.pm c id=some e∧e.1=b
structure IL (w0:W0) (Zp:aL) (h:aD) (g:G) (w:World):Prop where
 ga:∀c wr K H id x,look .dead c h= .gh wr K H→H[id]? =some (some x)→gi w w0.heap.size Zp h g c id K x
 fresh:∀c wr K H id,look .dead c h= .gh wr K H→H.length≤id→g.pm c id=none
 lt:∀c id b,GL h g c id b→b<w.heap.size
 own:∀c K H id x e,look .dead c h= .gh true K H→H[id]? =some (some x)→g.pm c id=some e→w0.heap.size≤e.1∨w0.B e.1
 ei:∀c id c' id' b,GL h g c id b→GL h g c' id' b→c=c'∧id=id'
 dC:∀c id b i,GL h g c id b→¬ g.Z b i
 loc:∀c id b o,GL h g c id b→look .dead o h≠.dead→g.hm o=some b→False
 Gp:∀c wr V H id e,look .dead c h= .gh wr (.bf V) H→g.pm c id=some e→e.2.2.2=V.size
 old:∀c id e,w0.pm c id=some e→g.pm c id=some e
 ro:∀c K H,look .dead c h= .gh false K H→w0.ro c=some ⟨K,H⟩
 Ie:∀c id b i,GL h g c id b→¬ Zp b i
 Ff:∀c wr K H,look .dead c h= .gh wr K H→K.ok=true
 GD:∀c K H,look .dead c h= .gh true K H→w0.ws c
 new:∀c id e,g.pm c id=some e→w0.pm c id=some e∨w0.ws c
def Ob.open? :Ob→Bool
 |.cells _=>true
 |.row _ _=>true
 |.map _ _ _=>true
 |_=>false
structure HR (w0:W0) (Z0 Zp:aL) (h:aD) (g:G) (w:World):Prop where
 ext:w0.Extends w
 ob:∀o,p2 w w0.heap.size Zp h g o (look .dead o h)
 dead:∀o,¬ g.al o→look .dead o h= .dead
 home:∀o b,look .dead o h≠.dead→g.hm o=some b→w0.heap.size≤b∧b<w.heap.size
 ei:∀o p b,look .dead o h≠.dead→look .dead p h≠.dead→g.hm o=some b→g.hm p=some b→o=p
 dC:∀o b i,(look .dead o h).open? =true→g.hm o=some b→¬ g.Z b i
 oa:∀o b i,look .dead o h= .tok→g.hm o=some b→g.Z b i→i<g.lo o
 nU:∀b i,g.Z b i→b<w.heap.size
 me:∀b i,b<w0.heap.size→g.Z b i→Z0 b i∨w0.B b
 z0:∀b i,Z0 b i→g.Z b i
 zp:∀b i,Zp b i→b<w0.heap.size∧¬ w0.B b
 gh:IL w0 Zp h g w
def Ob.to(x y:Ob):Prop:=
 y= .dead∨(x= .tok∧y= .tok)∨(∃d a,x= .cells d∧y= .cells a)∨(∃r,dn x=some r∧dn y=some r)∨(∃k v l i,x= .map k v l∧y= .map k v i)∨(∃K H b,x= .gh true K H∧y= .gh true K b)∨(∃K H,x= .gh false K H∧y= .gh false K H)
theorem Ob.to.refl(x:Ob):x.to x:=by
 cases x
 ·exact .inl rfl
 ·exact .inr (.inl ⟨rfl,rfl⟩)
 ·exact .inr (.inr (.inl ⟨_,_,rfl,rfl⟩))
 ·exact .inr (.inr (.inr (.inl ⟨_,rfl,rfl⟩)))
 ·exact .inr (.inr (.inr (.inl ⟨_,rfl,rfl⟩)))
 ·exact .inr (.inr (.inr (.inr (.inl ⟨_,_,_,_,rfl,rfl⟩))))
 ·rename_i wr K H
  cases wr
  ·exact .inr (.inr (.inr (.inr (.inr (.inr ⟨_,_,rfl,rfl⟩)))))
  ·exact .inr (.inr (.inr (.inr (.inr (.inl ⟨_,_,_,rfl,rfl⟩)))))
structure Le (Zp:aL) (h:aD) (g:G) (w:World) (h':aD) (g':G) (w':World):Prop where
 al:∀o,g.al o→g'.al o
 z:bc w w' g.Z g'.Z
 zp:bc w w' Zp Zp
 ob:∀o,g.al o→(look .dead o h).to (look .dead o h')
 hm:∀o,g.al o→look .dead o h'≠.dead→g'.hm o=g.hm o
 tok:∀o,g.al o→look .dead o h'= .tok→g'.lo o=g.lo o∧∀b,g.hm o=some b→w'.heap[b]? =w.heap[b]?
 pm:∀c id e,g.pm c id=some e→g'.pm c id=some e
theorem Le.refl(Zp:aL)(h:aD)(g:G)(w:World):Le Zp h g w h g w:=
 ⟨fun _ h=>h,bc.refl _ _,bc.refl _ _,fun _ _=>Ob.to.refl _,fun _ _ _=>rfl,fun _ _ _=>⟨rfl,fun _ _=>rfl⟩,fun _ _ _ h=>h⟩
theorem Ob.to.alive{x y:Ob}(h:x.to y)(d:y≠.dead):x≠.dead:=by
 rcases h with h |⟨rfl,rfl⟩|⟨_,_,rfl,rfl⟩|⟨r,a,i⟩|⟨_,_,_,_,rfl,rfl⟩|⟨_,_,_,rfl,rfl⟩|⟨_,_,rfl,rfl⟩
 ·exact absurd h d
 ·simp
 ·simp
 ·intro b;subst b;simp[dn]at a
 ·simp
 ·simp
 ·simp
theorem Ob.to.row{x y:Ob}(h:x.to y){r:Ty×Nat}(a:dn y=some r):dn x=some r:=by
 rcases h with rfl |⟨rfl,rfl⟩|⟨_,_,rfl,rfl⟩|⟨q,b,d⟩|⟨_,_,_,_,rfl,rfl⟩|⟨_,_,_,rfl,rfl⟩|⟨_,_,rfl,rfl⟩
 ·simp[dn]at a
 ·simp[dn]at a
 ·simp[dn]at a
 ·rw[d]at a;cases a;exact b
 ·simp[dn]at a
 ·simp[dn]at a
 ·simp[dn]at a
theorem Ob.to.tok{x y:Ob}(h:x.to y)(a:y= .tok):x= .tok:=by
 subst a;rcases h with h |⟨rfl,_⟩|⟨_,_,_,h⟩|⟨q,_,h⟩|⟨_,_,_,_,_,h⟩|⟨_,_,_,_,h⟩|⟨_,_,_,h⟩
 ·cases h
 ·rfl
 ·cases h
 ·simp[dn]at h
 ·cases h
 ·cases h
 ·cases h
section
variable {w w':World} {base:Nat} {Zp:aL} {h h':aD} {g g':G}
theorem CR.mono(L:Le Zp h g w h' g' w'):∀(c:C) (v:Value),CR w base Zp h g c v→CR w' base Zp h' g' c v
 |.undef,_,_=>trivial
 |.bool _,_,y=>y
 |.int _ _,_,y=>y
 |.str _,_,y=>y
 |.sl e l t,v,⟨r,d⟩=>by
  refine⟨PR.mono L.z L.zp _ _ _ r,?_⟩
  cases t with
  |no=>trivial
  |nn=>exact d
  |nl=>exact d
  |own o=>
   obtain⟨p,d⟩:=d;refine⟨L.al o p,fun S=> ?_⟩;have T:=(L.ob o p).tok S;have O:=L.hm o p (by rw[S];simp);obtain⟨R,hb⟩:=L.tok o p S;rcases d T with⟨a,b,c⟩|⟨b,H,P,e0,V,X,Y,M⟩
   ·exact .inl ⟨O.trans a,b,c⟩
   ·exact .inr ⟨b,H,P,e0,O.trans V,X,(hb b V).trans Y,M.1,M.2.1,M.2.2.1,M.2.2.2.1,R.trans M.2.2.2.2⟩
 |.nils,_,y=>y
 |.vec o,v,⟨p,I,hr⟩=>⟨L.al o p,I,fun e n K=>by
   obtain⟨b,r,d⟩:=hr e n ((L.ob o p).row K);exact⟨b,(L.hm o p (by intro D;rw[D]at K;simp[dn]at K)).trans r,d⟩⟩
 |.ptr o E,v,⟨p,I,hr⟩=>⟨L.al o p,I,fun D=>by
   obtain⟨b,r,d⟩:=hr ((L.ob o p).alive D);exact⟨b,(L.hm o p D).trans r,d⟩⟩
 |.xn o i c,v,⟨p,I,hr⟩=>⟨L.al o p,I,fun e n K=>by
   obtain⟨b,r,d⟩:=hr e n ((L.ob o p).row K);exact⟨b,(L.hm o p (by intro D;rw[D]at K;simp[dn]at K)).trans r,d⟩⟩
 |.E2 o E _ i,v,⟨p,I,hr⟩=>⟨L.al o p,I,fun D=>by
   obtain⟨b,r,d⟩:=hr ((L.ob o p).alive D);exact⟨b,(L.hm o p D).trans r,d⟩⟩
 |.mj a x c,v,⟨b,E,us,r,d,Q⟩=>⟨b,E,us,r,PR.mono L.z L.zp _ _ _ d,fun j u hj=>by
   obtain⟨W,J⟩:=Q j u hj;rcases J with J |J
   ·exact⟨(L.z _ _ J).2.trans W,.inl (L.z _ _ J).1⟩
   ·exact⟨(L.zp _ _ J).2.trans W,.inr J⟩⟩
 |.clos f ids,v,⟨N,r,d⟩=>⟨N,r,bm.mono (fun o es ⟨p,u,e,hp,hr⟩=>⟨L.al o p,u,e,hp,fun D=>by
   obtain⟨b,r,d⟩:=hr ((L.ob o p).alive D);exact⟨b,(L.hm o p D).trans r,d⟩⟩) _ _ d⟩
 |.nilfn,_,y=>y
 |.nilp,_,y=>y
 |.mp o,v,⟨p,I,hr⟩=>⟨L.al o p,I,fun D=>by
   obtain⟨b,r,d⟩:=hr ((L.ob o p).alive D);exact⟨b,(L.hm o p D).trans r,d⟩⟩
 |.kI _ _ _,_,y=>PR.mono L.z L.zp _ _ _ y
 |.gp c E none,_,y=>y
 |.gp c E (some id),_,⟨e,r,d⟩=>⟨e,L.pm _ _ _ r,d⟩
 |.gs c none,_,y=>y
 |.gs c (some (id,a,n)),_,⟨b,k,H,U,o,r,d⟩=>⟨b,k,H,U,o,L.pm _ _ _ r,d⟩
 |.ge c id ix E,_,⟨b,k,H,U,r,d⟩=>⟨b,k,H,U,L.pm _ _ _ r,d⟩
 |.gm c none,_,y=>y
 |.gm c (some id),_,⟨e,r,d⟩=>⟨e,L.pm _ _ _ r,d⟩
 |.gcl _ _ _ none,_,y=>y
 |.gcl _ l m (some q),_,⟨a,b,r,d,Q⟩=>⟨a,b,r,iL.mono L.pm _ _ _ d,iL.mono L.pm _ _ _ Q⟩
theorem bG.mono(L:Le Zp h g w h' g' w'):∀(cs:List C) (vs:List Value),bG w base Zp h g cs vs→bG w' base Zp h' g' cs vs
 |[],_,i=>i
 |c::cs,_,⟨v,a,e,b,d⟩=>⟨v,a,e,CR.mono L c v b,bG.mono L cs a d⟩
theorem VR.mono(L:Le Zp h g w h' g' w')(agg:Bool)(cs:List C)(v:Value)(a:VR w base Zp h g agg cs v):VR w' base Zp h' g' agg cs v:=by
 cases agg with
 |true=>obtain⟨d,e,b⟩:=a;exact⟨d,e,bG.mono L _ _ b⟩
 |false=>exact bG.mono L _ _ a
theorem AR.mono(L:Le Zp h g w h' g' w')(a:A)(v:Value)(b:AR w base Zp h g a v):AR w' base Zp h' g' a v:=by
 cases a with
 |v agg l=>exact VR.mono L _ _ _ b
 |eo ps=>
  obtain⟨j,e,d⟩:=b;exact⟨j,e,bm.mono (fun p r ⟨u,e,i⟩=>⟨u,e,VR.mono L _ _ _ i⟩) _ _ d⟩
end
theorem bG.length{w:World}{base:Nat}{Zp:aL}{h:aD}{g:G}:∀(cs:List C) (vs:List Value),bG w base Zp h g cs vs→vs.length=cs.length
 |[],_,b=>by simp[bG]at b;simp[b]
 |_::cs,_,⟨v,a,e,_,d⟩=>by simp[e,bG.length cs a d]
theorem bG.append{w:World}{base:Nat}{Zp:aL}{h:aD}{g:G}:∀(cs d:List C) (vs b:List Value),bG w base Zp h g cs vs→bG w base Zp h g d b→bG w base Zp h g (cs++d) (vs++b)
 |[],_,_,_,i,j=>by simp[bG]at i;subst i;simpa using j
 |_::cs,d,_,b,⟨v,a,e,i,l⟩,j=>by subst e;exact⟨v,a++b,by simp,i,bG.append cs d a b l j⟩
theorem bG.split{w:World}{base:Nat}{Zp:aL}{h:aD}{g:G}:∀(cs d:List C) (vs:List Value),bG w base Zp h g (cs++d) vs→∃b rs,vs=b++rs∧bG w base Zp h g cs b∧bG w base Zp h g d rs
 |[],_,vs,t=>⟨[],vs,by simp,by simp[bG],by simpa using t⟩
 |_::cs,d,_,⟨v,a,e,j,l⟩=>by
  obtain⟨b,rs,i,p,r⟩:=bG.split cs d a l;exact⟨v::b,rs,by simp[e,i],⟨v,b,rfl,j,p⟩,r⟩
theorem bG.take{w:World}{base:Nat}{Zp:aL}{h:aD}{g:G}(n:Nat):∀(cs:List C) (vs:List Value),bG w base Zp h g cs vs→bG w base Zp h g (cs.take n) (vs.take n):=by
 induction n with
 |zero=>intro cs vs _;simp[bG]
 |succ n j=>
  intro cs vs b
  cases cs with
  |nil=>simp[bG]at b;subst b;simp[bG]
  |cons c cs=>obtain⟨v,a,e,d,i⟩:=b;subst e;exact⟨v,a.take n,by simp,d,j _ _ i⟩
theorem bG.drop{w:World}{base:Nat}{Zp:aL}{h:aD}{g:G}(n:Nat):∀(cs:List C) (vs:List Value),bG w base Zp h g cs vs→bG w base Zp h g (cs.drop n) (vs.drop n):=by
 induction n with
 |zero=>intro cs vs a;simpa using a
 |succ n i=>
  intro cs vs a
  cases cs with
  |nil=>simp[bG]at a;subst a;simp[bG]
  |cons c cs=>obtain⟨v,b,e,j,d⟩:=a;subst e;simpa using i _ _ d
theorem CR.one{w:World}{base:Nat}{Zp:aL}{h:aD}{g:G}:∀(c:C) (v:Value),c.known=true→CR w base Zp h g c v→v.oneCell'=true
 |.undef,_,b,_=>by simp[C.known]at b
 |.bool _,_,_,a=>by simp[CR]at a;subst a;rfl
 |.int _ _,_,_,a=>by simp[CR]at a;subst a;rfl
 |.str _,_,_,a=>by simp[CR]at a;subst a;rfl
 |.sl _ _ _,_,_,⟨⟨_,_,_,a,_⟩,_⟩=>by simp at a;subst a;rfl
 |.nils,_,_,a=>by simp[CR]at a;subst a;rfl
 |.vec _,_,_,⟨_,⟨_,_,_,a⟩,_⟩=>by subst a;rfl
 |.ptr _ _,_,_,⟨_,⟨_,a⟩,_⟩=>by subst a;rfl
 |.xn _ _ _,_,_,⟨_,⟨_,a⟩,_⟩=>by subst a;rfl
 |.E2 _ _ _ _,_,_,⟨_,⟨_,a⟩,_⟩=>by subst a;rfl
 |.mj _ _ _,_,_,⟨_,_,_,a,_⟩=>by subst a;rfl
 |.clos _ _,_,_,⟨_,a,_⟩=>by subst a;rfl
 |.nilfn,_,_,a=>by simp[CR]at a;subst a;rfl
 |.nilp,_,_,a=>by simp[CR]at a;subst a;rfl
 |.mp _,_,_,⟨_,⟨_,a⟩,_⟩=>by subst a;rfl
 |.kI _ _ _,_,_,⟨_,a,_⟩=>by simp at a;subst a;rfl
 |.gp _ _ none,_,_,a=>by simp[CR]at a;subst a;rfl
 |.gp _ _ (some _),_,_,⟨_,_,_,a⟩=>by subst a;rfl
 |.gs _ none,_,_,a=>by simp[CR]at a;subst a;rfl
 |.gs _ (some (_,_,_)),_,_,⟨_,_,_,_,_,_,_,_,a⟩=>by subst a;rfl
 |.ge _ _ _ _,_,_,⟨_,_,_,_,_,a⟩=>by subst a;rfl
 |.gm _ none,_,_,a=>by simp[CR]at a;subst a;rfl
 |.gm _ (some _),_,_,⟨_,_,a⟩=>by subst a;rfl
 |.gcl _ _ _ none,_,_,a=>by simp[CR]at a;subst a;rfl
 |.gcl _ _ _ (some _),_,_,⟨_,_,a,_⟩=>by subst a;rfl
theorem bG.one{w:World}{base:Nat}{Zp:aL}{h:aD}{g:G}:∀(cs:List C) (vs:List Value),cs.all C.known=true→bG w base Zp h g cs vs→∀v∈vs,v.oneCell'=true
 |[],_,_,i=>by simp[bG]at i;simp[i]
 |c::cs,_,d,⟨v,a,e,j,l⟩=>by
  simp at d;subst e;intro u b;simp at b;rcases b with rfl |b
  ·exact CR.one c u d.1 j
  ·exact bG.one cs a (by simpa using d.2) l u b
theorem bG.gT{w:World}{base:Nat}{Zp:aL}{h:aD}{g:G}:∀(τ:Ty) (x:τ.den) (vs:List Value),PR w g.Z Zp τ x vs→bG w base Zp h g (τ.cells x) vs
 |.bool,_,_,d=>⟨_,[],d,rfl,rfl⟩
 |.int _,_,_,d=>⟨_,[],d,rfl,rfl⟩
 |.str,_,_,d=>⟨_,[],d,rfl,rfl⟩
 |.sl e,l,_,⟨base,y,t,H,I⟩=>⟨_,[],H,⟨⟨base,y,t,rfl,I⟩,trivial⟩,rfl⟩
 |.pair a b,x,_,⟨t,rs,e,p,r⟩=>by subst e;exact bG.append _ _ _ _ (bG.gT a _ _ p) (bG.gT b _ _ r)
 |.unit,_,_,d=>d
 |.ref a,x,_,⟨b,D,t,e,p,r⟩=>⟨_,[],e,⟨b,D,t,by simp,p,fun j u E=>⟨(r j u E).1,.inr (r j u E).2⟩⟩,rfl⟩
 |.fn f,_,_,d=>⟨_,[],d,⟨#[],rfl,by simp[bm]⟩,rfl⟩
 |.cl f a,x,_,⟨i,e,p⟩=>⟨_,[],e,⟨i,rfl,p⟩,rfl⟩
theorem eH{a b:Ty}{l:List a.den}{m:List b.den}(c:fP a b l=some m):∃h:a=b,m=h▸l:=by
 unfold fP at c
 split at c
 ·rename_i h _;cases c;exact⟨h,rfl⟩
 ·cases c
theorem uT{w:World}{base:Nat}{Zp:aL}{h:aD}{g:G}:∀(τ:Ty) (cs:List C) (vs:List Value) (x:τ.den) (r:List C),τ.aX=true→bG w base Zp h g cs vs→τ.take cs=some (x,r)→
  ∃u rs,vs=u++rs∧PR w g.Z Zp τ x u∧bG w base Zp h g r rs
 |.bool,cs,vs,x,r,_,n,d=>by
  cases cs with
  |nil=>simp[Ty.take]at d
  |cons c cs=>
   obtain⟨v,i,e,j,o⟩:=n
   cases c<;>simp[Ty.take]at d;obtain⟨rfl,rfl⟩:=d;simp[CR]at j;exact⟨[v],i,e,by simp[PR,j],o⟩
 |.int k,cs,vs,x,r,_,n,d=>by
  cases cs with
  |nil=>simp[Ty.take]at d
  |cons c cs=>
   obtain⟨v,i,e,j,o⟩:=n
   cases c<;>simp only[Ty.take]at d<;>try (cases d;done)
   split at d
   ·rename_i P _;subst P;simp at d;obtain⟨rfl,rfl⟩:=d;simp[CR]at j;exact⟨[v],i,e,by simp[PR,j],o⟩
   ·cases d
 |.str,cs,vs,x,r,_,n,d=>by
  cases cs with
  |nil=>simp[Ty.take]at d
  |cons c cs=>
   obtain⟨v,i,e,j,o⟩:=n
   cases c<;>simp[Ty.take]at d;obtain⟨rfl,rfl⟩:=d;simp[CR]at j;exact⟨[v],i,e,by simp[PR,j],o⟩
 |.sl e,cs,vs,x,r,_,n,d=>by
  cases cs with
  |nil=>simp[Ty.take]at d
  |cons c cs=>
   obtain⟨v,i,D,j,o⟩:=n
   cases c<;>simp only[Ty.take]at d<;>try (cases d;done)
   ·rename_i S l t
    split at d
    ·rename_i m F;obtain⟨N,F⟩:=eH F;subst N;subst F;simp at d;obtain⟨rfl,rfl⟩:=d;exact⟨[v],i,D,j.1,o⟩
    ·cases d
   ·simp at d;obtain⟨rfl,rfl⟩:=d;simp[CR]at j;exact⟨[v],i,D,⟨none,0,[],by simp[j],by simp,by simp[bm],by simp[At]⟩,o⟩
 |.pair a b,cs,vs,x,r,p,n,d=>by
  simp[Ty.aX]at p;simp only[Ty.take]at d
  split at d
  ·rename_i y K j
   split at d
   ·rename_i z T o
    cases d;obtain⟨u,rs,e,Q,L⟩:=uT a cs vs y K p.1 n j;obtain⟨B,I,E,R,M⟩:=uT b K rs z _ p.2 L o;exact⟨u++B,I,by simp[e,E],⟨u,B,rfl,Q,R⟩,M⟩
   ·cases d
  ·cases d
 |.unit,cs,vs,x,r,_,n,d=>by
  cases d;exact⟨[],vs,by simp,by simp[PR],n⟩
 |.ref a,_,_,_,_,p,_,_=>by simp[Ty.aX]at p
 |.cl _ _,_,_,_,_,p,_,_=>by simp[Ty.aX]at p
 |.fn f,cs,vs,x,r,_,n,d=>by
  cases cs with
  |nil=>simp[Ty.take]at d
  |cons c cs=>
   obtain⟨v,i,D,j,o⟩:=n
   cases c<;>try (cases d;done)
   rename_i g' H
   cases H with
   |cons _ _=>cases d
   |nil=>
   simp only[Ty.take]at d
   split at d
   ·rename_i O _;subst O
    cases d;obtain⟨q,E,J⟩:=j;simp[bm]at J;have:q= #[]:=by simpa using J
    subst this;exact⟨[v],i,D,by simp[PR,E],o⟩
   ·cases d
theorem ci{w:World}{base:Nat}{Zp:aL}{h:aD}{g:G}{τ:Ty}{cs:List C}{vs:List Value}{x:τ.den}(d:τ.aX=true)(b:bG w base Zp h g cs vs)(a:τ.bp cs=some x):PR w g.Z Zp τ x vs:=by
 unfold Ty.bp at a
 split at a
 ·rename_i y i
  cases a;obtain⟨k,j,e,p,c⟩:=uT τ cs vs _ _ d b i;simp[bG]at c;subst c;simp at e;subst e;exact p
 ·cases a
theorem ax{α:Type}(d:α)(t u:Nat)(x:α)(r:List (Nat×α)):look d t ((u,x)::r)=if u=t then x else look d t r:=by
 by_cases h:u=t
 ·subst h;simp[look]
 ·have:aJ u t=false:=by
   cases a:aJ u t with
   |false=>rfl
   |true=>exact absurd (af a) h
  simp[look,this,h]
def C5{α:Type}(f:Nat→α)(n:Nat)(x:α)(o:Nat):α:=if o=n then x else f o
theorem fA{α:Type}(f:Nat→α)(n:Nat)(x:α):C5 f n x n=x:=by simp[C5]
theorem dw{α:Type}(f:Nat→α){n o:Nat}(x:α)(h:o≠n):C5 f n x o=f o:=by simp[C5,h]
section
variable {w0:W0} {w w':World} {Z0 Zp:aL} {h h':aD} {g g':G}
theorem HR.alive(R:HR w0 Z0 Zp h g w){o:Nat}(b:look .dead o h≠.dead):g.al o:=by
 by_cases a:g.al o
 ·exact a
 ·exact absurd (R.dead o a) b
theorem HR.cT(R:HR w0 Z0 Zp h g w):w0.heap.size≤w.heap.size:=R.ext.size
theorem HR.IM(_:HR w0 Z0 Zp h g w)(j:∀b,b<w0.heap.size→¬ w0.B b→w'.heap[b]? =w.heap[b]?)(a:∀b i,Zp b i→b<w0.heap.size∧¬ w0.B b):bc w w' Zp Zp:=
 fun b i d=>⟨d,az (j b (a b i d).1 (a b i d).2)⟩
theorem gi.mono{base:Nat}(L:Le Zp h g w h' g' w'){c id:Nat}(hb:∀e,g.pm c id=some e→w'.heap[e.1]? =w.heap[e.1]?):∀(K:GK) (x:K.ga),gi w base Zp h g c id K x→gi w' base Zp h' g' c id K x
 |.st V,x,⟨r,b,d,l,D,a,t,u⟩=>⟨r,b,d,l,D,L.pm _ _ _ a,(hb _ a).trans t,bG.mono L _ _ u⟩
 |.bf V,x,⟨r,b,k,d,l,D,a,t,u,y,M,N⟩=>⟨r,b,k,d,l,D,L.pm _ _ _ a,(hb _ a).trans t,u,y,M,bm.mono (fun _ E O=>bG.mono L _ E O) _ _ N⟩
 |.mp k V,x,⟨r,H,b,E,i,a,t,u,y⟩=>⟨r,H,b,E,i,L.pm _ _ _ a,(hb _ a).trans t,u,fun j p e J I=>⟨(y j p e J I).1,VR.mono L _ _ _ (y j p e J I).2⟩⟩
theorem IL.keep(R:IL w0 Zp h g w)(L:Le Zp h g w h' g' w')(j:∀c wr K H,look .dead c h'= .gh wr K H→look .dead c h= .gh wr K H)(p:g'.pm=g.pm)
  (hb:∀c id b,GL h g c id b→w'.heap[b]? =w.heap[b]?) (I:w.heap.size≤w'.heap.size) (J:∀c id b i,GL h g c id b→¬ g'.Z b i) (E:∀c id b o,GL h g c id b→look .dead o h'≠.dead→g'.hm o=some b→False):
  IL w0 Zp h' g' w':=by
 have l:∀c id b,GL h' g' c id b→GL h g c id b:=fun c id b ⟨wr,K,H,x,e,a,d,r,y⟩=>⟨wr,K,H,x,e,j _ _ _ _ a,d,p▸r,y⟩;refine⟨fun c wr K H id x a d=> ?_,fun c wr K H id a d=> ?_,fun c id b a=> ?_,fun c K H id x e a d r=> ?_,fun c id u t b a d=> ?_,fun c id b i a=>J c id b i (l _ _ _ a),fun c id b o a=>E c id b o (l _ _ _ a),fun c wr V H id e a d=>R.Gp c wr V H id e (j _ _ _ _ a) (p▸d),fun c id e a=> ?_,fun c K H a=>R.ro c K H (j _ _ _ _ a),fun c id b i a=>R.Ie c id b i (l _ _ _ a),fun c wr K H a=>R.Ff c wr K H (j _ _ _ _ a),fun c K H a=>R.GD c K H (j _ _ _ _ a),fun c id e a=>R.new c id e (p▸a)⟩
 ·exact gi.mono L (fun e D=>hb c id e.1 ⟨wr,K,H,x,e,j _ _ _ _ a,d,D,rfl⟩) _ _ (R.ga c wr K H id x (j _ _ _ _ a) d)
 ·rw[p];exact R.fresh c wr K H id (j _ _ _ _ a) d
 ·exact aK (R.lt c id b (l _ _ _ a)) I
 ·exact R.own c K H id x e (j _ _ _ _ a) d (p▸r)
 ·exact R.ei c id u t b (l _ _ _ a) (l _ _ _ d)
 ·rw[p];exact R.old c id e a
theorem p2.mono{base:Nat}(L:Le Zp h g w h' g' w'){o:Nat}{x:Ob}(a:x= .dead∨g'.hm o=g.hm o)(hb:x≠.dead→∀b,g.hm o=some b→w'.heap[b]? =w.heap[b]?)
  (E:p2 w base Zp h g o x):p2 w' base Zp h' g' o x:=by
 cases x with
 |dead=>trivial
 |tok=>trivial
 |cells P=>
  obtain⟨b,d,y,p,t,u⟩:=E;rcases a with a |a
  ·cases a
  ·exact⟨b,d,y,a.trans p,(hb (by simp) b p).trans t,bG.mono L _ _ u⟩
 |row e l=>
  obtain⟨D,j,b,d,y,p,t,u⟩:=E;rcases a with a |a
  ·cases a
  ·exact⟨D,j,b,d,y,a.trans p,(hb (by simp) b p).trans t,bm.mono (fun x I a=>PR.mono L.z L.zp _ _ _ a) _ _ u⟩
 |iA e l=>
  obtain⟨D,j,b,d,y,M,p,t,u,N⟩:=E;rcases a with a |a
  ·cases a
  ·exact⟨D,j,b,d,y,M,a.trans p,(hb (by simp) b p).trans t,bm.mono (fun x I a=>PR.mono L.z L.zp _ _ _ a) _ _ u,fun i O=>(L.z b i (N i O)).1⟩
 |map k v l=>
  obtain⟨D,j,J,b,I,r,p,t,u⟩:=E;rcases a with a |a
  ·cases a
  ·exact⟨D,j,J,b,I,r,a.trans p,(hb (by simp) b p).trans t,u⟩
 |gh wr K H=>
  rcases a with a |a
  ·cases a
  ·exact a.trans E
def jL(g:G)(new:Nat)(b:Option Nat)(k:Nat):G:=
 { al:=fun o=>g.al o∨o=new,Z:=fun c i=>g.Z c i∨(b=some c∧i<k),hm:=C5 g.hm new b,lo:=C5 g.lo new k,pm:=g.pm }
theorem Le.alloc(R:HR w0 Z0 Zp h g w){y:Obj}{new:Nat}(l:¬ g.al new)(x:Ob)(k:Nat)(t:w'.heap=w.heap.push y):
  Le Zp h g w ((new,x)::h) (jL g new (some w.heap.size) k) w':=by
 have d:∀b:Nat,b<w.heap.size→w'.heap[b]? =w.heap[b]? :=fun b hb=>by rw[t,Array.getElem?_push,if_neg (Nat.ne_of_lt hb)]
 refine⟨fun o j=> .inl j,fun b i r=>⟨.inl r,az (d b (R.nU b i r))⟩,
  R.IM (fun b hb _=>d b (aK hb R.cT)) R.zp,fun o j=> ?_,fun o j _=> ?_,fun o j p=> ?_,fun _ _ _ h=>h⟩
 ·have a:new≠o:=fun e=>l (e▸j);rw[ax,if_neg a];exact Ob.to.refl _
 ·have a:o≠new:=fun e=>l (e▸j);exact dw _ _ a
 ·have a:o≠new:=fun e=>l (e▸j);rw[ax,if_neg (Ne.symm a)]at p;exact⟨dw _ _ a,fun b hb=>d b (R.home o b (by rw[p];simp) hb).2⟩
theorem HR.alloc(R:HR w0 Z0 Zp h g w){y:Obj}{new:Nat}(W:¬ g.al new)(x:Ob)(k:Nat)(T:w'.heap=w.heap.push y)(V:w0.Extends w')
  (P:p2 w' w0.heap.size Zp ((new,x)::h) (jL g new (some w.heap.size) k) new x) (X:x.open? =true→k=0):
  HR w0 Z0 Zp ((new,x)::h) (jL g new (some w.heap.size) k) w':=by
 have L:=Le.alloc R W x k T;have J:∀b:Nat,b<w.heap.size→w'.heap[b]? =w.heap[b]? :=fun b hb=>by rw[T,Array.getElem?_push,if_neg (Nat.ne_of_lt hb)]
 have Y:w'.heap.size=w.heap.size+1:=by rw[T];simp
 have E:∀o,o≠new→look .dead o ((new,x)::h)=look .dead o h:=fun o a=>by rw[ax,if_neg (Ne.symm a)]
 have O:look .dead new ((new,x)::h)=x:=by rw[ax,if_pos rfl]
 have j:∀o,o≠new→(jL g new (some w.heap.size) k).hm o=g.hm o:=fun o a=>dw _ _ a;have r:(jL g new (some w.heap.size) k).hm new=some w.heap.size:=fA _ _ _;refine⟨V,fun o=> ?_,fun o U=> ?_,fun o b t hb=> ?_,fun o p b t I hb u=> ?_,fun o b i D hb d=> ?_,fun o b i S hb d=> ?_,fun b i d=> ?_,fun b i hb d=> ?_,fun b i d=> .inl (R.z0 b i d),R.zp,R.gh.keep L (fun c wr K H Q=> ?_) rfl (fun c id b N=>J b (R.gh.lt c id b N)) (by omega) (fun c id b i N d=> ?_) (fun c id b o N t hb=> ?_)⟩
 ·by_cases a:o=new
  ·subst a;rw[O];exact P
  ·rw[E o a];exact p2.mono L (.inr (j o a)) (fun t b hb=>J b (R.home o b t hb).2) (R.ob o)
 ·have a:o≠new:=fun e=>U (.inr e);rw[E o a];exact R.dead o fun h=>U (.inl h)
 ·by_cases a:o=new
  ·subst a;rw[r]at hb;cases hb;exact⟨R.cT,by omega⟩
  ·rw[E o a]at t;rw[j o a]at hb;have:=R.home o b t hb;exact⟨this.1,by omega⟩
 ·by_cases l:o=new
  ·by_cases M:p=new
   ·rw[l,M]
   ·subst l;rw[r]at hb;cases hb;rw[E p M]at I;rw[j p M]at u;exact absurd (R.home p _ I u).2 (Nat.lt_irrefl _)
  ·by_cases M:p=new
   ·subst M;rw[r]at u;cases u;rw[E o l]at t;rw[j o l]at hb;exact absurd (R.home o _ t hb).2 (Nat.lt_irrefl _)
   ·rw[E o l]at t;rw[j o l]at hb;rw[E p M]at I;rw[j p M]at u;exact R.ei o p b t I hb u
 ·by_cases l:o=new
  ·subst l;rw[r]at hb;cases hb;rw[O]at D;rcases d with d |⟨_,d⟩
   ·exact absurd (R.nU _ _ d) (Nat.lt_irrefl _)
   ·have:=X D;omega
  ·rw[E o l]at D;rw[j o l]at hb;rcases d with d |⟨e,_⟩
   ·exact R.dC o b i D hb d
   ·cases e;exact absurd (R.home o _ (by intro t;rw[t]at D;simp[Ob.open?]at D) hb).2 (Nat.lt_irrefl _)
 ·by_cases l:o=new
  ·subst l;rw[r]at hb;cases hb;show i<C5 g.lo o k o;rw[fA];rcases d with d |⟨_,d⟩
   ·exact absurd (R.nU _ _ d) (Nat.lt_irrefl _)
   ·exact d
  ·rw[E o l]at S;rw[j o l]at hb;show i<C5 g.lo new k o;rw[dw _ _ l];rcases d with d |⟨e,_⟩
   ·exact R.oa o b i S hb d
   ·cases e;exact absurd (R.home o _ (by rw[S];simp) hb).2 (Nat.lt_irrefl _)
 ·rcases d with d |⟨e,_⟩
  ·have:=R.nU b i d;omega
  ·cases e;omega
 ·rcases d with d |⟨e,_⟩
  ·exact R.me b i hb d
  ·cases e;exact absurd hb (Nat.not_lt.2 R.cT)
 ·by_cases a:c=new
  ·subst a;rw[O]at Q;rw[Q]at P;have P:(jL g c (some w.heap.size) k).hm c=none:=P;rw[r]at P;cases P
  ·rw[E c a]at Q;exact Q
 ·rcases d with d |⟨e,_⟩
  ·exact R.gh.dC c id b i N d
  ·cases e;exact absurd (R.gh.lt c id _ N) (Nat.lt_irrefl _)
 ·by_cases a:o=new
  ·subst a;rw[r]at hb;cases hb;exact absurd (R.gh.lt c id _ N) (Nat.lt_irrefl _)
  ·rw[E o a]at t;rw[j o a]at hb;exact R.gh.loc c id b o N t hb
theorem HR.IP(R:HR w0 Z0 Zp h g w){new:Nat}(O:¬ g.al new):HR w0 Z0 Zp ((new,.tok)::h) (jL g new none 0) w∧Le Zp h g w ((new,.tok)::h) (jL g new none 0) w:=by
 have u:∀o,o≠new→look .dead o ((new,.tok)::h)=look .dead o h:=fun o a=>by rw[ax,if_neg (Ne.symm a)]
 have I:look .dead new ((new,Ob.tok)::h)= .tok:=by rw[ax,if_pos rfl]
 have j:∀o,o≠new→(jL g new none 0).hm o=g.hm o:=fun o a=>dw _ _ a;have l:(jL g new none 0).hm new=none:=fA _ _ _;have L:Le Zp h g w ((new,.tok)::h) (jL g new none 0) w:=by
  refine⟨fun o t=> .inl t,fun b i d=>⟨.inl d,rfl⟩,bc.refl _ _,fun o t=> ?_,fun o t _=> ?_,fun o t P=> ?_,fun _ _ _ h=>h⟩
  ·rw[u o (fun e=>O (e▸t))];exact Ob.to.refl _
  ·exact j o (fun e=>O (e▸t))
  ·exact⟨dw _ _ (fun e=>O (e▸t)),fun _ _=>rfl⟩
 refine⟨⟨R.ext,fun o=> ?_,fun o t=> ?_,fun o b y hb=> ?_,fun o p b y D hb x=> ?_,fun o b i E hb d=> ?_,fun o b i P hb d=> ?_,fun b i d=> ?_,fun b i hb d=> ?_,fun b i d=> .inl (R.z0 b i d),R.zp,R.gh.keep L (fun c wr K H M=> ?_) rfl (fun c id b J=>rfl) (aq _) (fun c id b i J d=> ?_) (fun c id b o J y hb=> ?_)⟩,L⟩
 ·by_cases a:o=new
  ·subst a;rw[I];trivial
  ·rw[u o a];exact p2.mono L (.inr (j o a)) (fun _ _ _=>rfl) (R.ob o)
 ·have a:o≠new:=fun e=>t (.inr e);rw[u o a];exact R.dead o fun h=>t (.inl h)
 ·by_cases a:o=new
  ·subst a;rw[l]at hb;cases hb
  ·rw[u o a]at y;rw[j o a]at hb;exact R.home o b y hb
 ·by_cases r:o=new
  ·subst r;rw[l]at hb;cases hb
  ·by_cases N:p=new
   ·subst N;rw[l]at x;cases x
   ·rw[u o r]at y;rw[j o r]at hb;rw[u p N]at D;rw[j p N]at x;exact R.ei o p b y D hb x
 ·by_cases r:o=new
  ·subst r;rw[l]at hb;cases hb
  ·rw[u o r]at E;rw[j o r]at hb;rcases d with d |⟨e,_⟩
   ·exact R.dC o b i E hb d
   ·cases e
 ·by_cases r:o=new
  ·subst r;rw[l]at hb;cases hb
  ·rw[u o r]at P;rw[j o r]at hb;show i<C5 g.lo new 0 o;rw[dw _ _ r];rcases d with d |⟨e,_⟩
   ·exact R.oa o b i P hb d
   ·cases e
 ·rcases d with d |⟨e,_⟩
  ·exact R.nU b i d
  ·cases e
 ·rcases d with d |⟨e,_⟩
  ·exact R.me b i hb d
  ·cases e
 ·by_cases a:c=new
  ·subst a;rw[I]at M;cases M
  ·rw[u c a]at M;exact M
 ·rcases d with d |⟨e,_⟩
  ·exact R.gh.dC c id b i J d
  ·cases e
 ·by_cases a:o=new
  ·subst a;rw[l]at hb;cases hb
  ·rw[u o a]at y;rw[j o a]at hb;exact R.gh.loc c id b o J y hb
theorem HR.IQ(R:HR w0 Z0 Zp h g w){new b k:Nat}(U:¬ g.al new)(l:∀o,look .dead o h≠.dead→g.hm o≠some b)(P:∀c id,¬ GL h g c id b)(W:w0.heap.size≤b)(Y:b<w.heap.size)
  (V:∀c,c≠b→w'.heap[c]? =w.heap[c]?) (hs:w'.heap.size=w.heap.size) (he:w0.Extends w') (X:∀i,g.Z b i→i<k∧w'.cell? ⟨b,i,none⟩=w.cell? ⟨b,i,none⟩):
  HR w0 Z0 Zp ((new,.tok)::h) (jL g new (some b) k) w'∧Le Zp h g w ((new,.tok)::h) (jL g new (some b) k) w':=by
 have D:∀o,o≠new→look .dead o ((new,Ob.tok)::h)=look .dead o h:=fun o d=>by rw[ax,if_neg (Ne.symm d)]
 have Q:look .dead new ((new,Ob.tok)::h)= .tok:=by rw[ax,if_pos rfl]
 have r:∀o,o≠new→(jL g new (some b) k).hm o=g.hm o:=fun o d=>dw _ _ d;have I:(jL g new (some b) k).hm new=some b:=fA _ _ _;have M:∀o,look .dead o h≠.dead→∀c,g.hm o=some c→w'.heap[c]? =w.heap[c]? :=fun o t c a=>V c (fun e=>l o t (e▸a))
 have L:Le Zp h g w ((new,.tok)::h) (jL g new (some b) k) w':=by
  refine⟨fun o E=> .inl E,fun c i j=>⟨.inl j,?_⟩,R.IM (fun c a _=>V c (by omega)) R.zp,fun o E=> ?_,fun o E _=> ?_,fun o E S=> ?_,fun _ _ _ h=>h⟩
  ·by_cases a:c=b
   ·subst a;exact(X i j).2
   ·exact az (V c a)
  ·rw[D o (fun e=>U (e▸E))];exact Ob.to.refl _
  ·exact r o (fun e=>U (e▸E))
  ·rw[D o (fun e=>U (e▸E))]at S;exact⟨dw _ _ (fun e=>U (e▸E)),fun c a=>M o (by rw[S];simp) c a⟩
 refine⟨⟨he,fun o=> ?_,fun o E=> ?_,fun o c t a=> ?_,fun o p c t J a x=> ?_,fun o c i y a j=> ?_,fun o c i S a j=> ?_,fun c i j=> ?_,fun c i a j=> ?_,fun c i j=> .inl (R.z0 c i j),R.zp,R.gh.keep L (fun c wr K H a=> ?_) rfl (fun c id T O=>V T (fun e=>P c id (e▸O))) (by omega) (fun c id T i O j=> ?_) (fun c id T o O t a=> ?_)⟩,L⟩
 ·by_cases d:o=new
  ·subst d;rw[Q];trivial
  ·rw[D o d];exact p2.mono L (.inr (r o d)) (fun t c a=>M o t c a) (R.ob o)
 ·have d:o≠new:=fun e=>E (.inr e);rw[D o d];exact R.dead o fun h=>E (.inl h)
 ·by_cases d:o=new
  ·subst d;rw[I]at a;cases a;exact⟨W,by omega⟩
  ·rw[D o d]at t;rw[r o d]at a;have:=R.home o c t a;omega
 ·by_cases u:o=new
  ·by_cases N:p=new
   ·rw[u,N]
   ·subst u;rw[I]at a;cases a;rw[D p N]at J;rw[r p N]at x;exact absurd x (l p J)
  ·by_cases N:p=new
   ·subst N;rw[I]at x;cases x;rw[D o u]at t;rw[r o u]at a;exact absurd a (l o t)
   ·rw[D o u]at t;rw[r o u]at a;rw[D p N]at J;rw[r p N]at x;exact R.ei o p c t J a x
 ·by_cases u:o=new
  ·subst u;rw[Q]at y;simp[Ob.open?]at y
  ·rw[D o u]at y;rw[r o u]at a;rcases j with j |⟨e,_⟩
   ·exact R.dC o c i y a j
   ·cases e;exact l o (by intro t;rw[t]at y;simp[Ob.open?]at y) a
 ·by_cases u:o=new
  ·subst u;rw[I]at a;cases a;show i<C5 g.lo o k o;rw[fA];rcases j with j |⟨_,j⟩
   ·exact(X i j).1
   ·exact j
  ·rw[D o u]at S;rw[r o u]at a;show i<C5 g.lo new k o;rw[dw _ _ u];rcases j with j |⟨e,_⟩
   ·exact R.oa o c i S a j
   ·cases e;exact absurd a (l o (by rw[S];simp))
 ·rcases j with j |⟨e,_⟩
  ·have:=R.nU c i j;omega
  ·cases e;omega
 ·rcases j with j |⟨e,_⟩
  ·exact R.me c i a j
  ·cases e;omega
 ·by_cases d:c=new
  ·subst d;rw[Q]at a;cases a
  ·rw[D c d]at a;exact a
 ·rcases j with j |⟨e,_⟩
  ·exact R.gh.dC c id T i O j
  ·cases e;exact P c id O
 ·by_cases d:o=new
  ·subst d;rw[I]at a;cases a;exact P c id O
  ·rw[D o d]at t;rw[r o d]at a;exact R.gh.loc c id T o O t a
theorem HR.drop(R:HR w0 Z0 Zp h g w)(o:Nat):HR w0 Z0 Zp ((o,.dead)::h) g w∧Le Zp h g w ((o,.dead)::h) g w:=by
 have j:∀p,p≠o→look .dead p ((o,Ob.dead)::h)=look .dead p h:=fun p E=>by rw[ax,if_neg (Ne.symm E)]
 have r:look .dead o ((o,Ob.dead)::h)= .dead:=by rw[ax,if_pos rfl]
 have d:∀p,look .dead p ((o,Ob.dead)::h)≠.dead→p≠o:=fun p a e=>a (by rw[e,r]);have L:Le Zp h g w ((o,.dead)::h) g w:=by
  refine⟨fun o x=>x,bc.refl _ _,bc.refl _ _,fun p _=> ?_,fun _ _ _=>rfl,fun _ _ _=>⟨rfl,fun _ _=>rfl⟩,fun _ _ _ h=>h⟩
  by_cases a:p=o
  ·subst a;rw[r];exact .inl rfl
  ·rw[j p a];exact Ob.to.refl _
 refine⟨⟨R.ext,fun p=> ?_,fun p x=> ?_,fun p b t hb=> ?_,fun p q b t u hb y=> ?_,fun p b i l hb J=> ?_,fun p b i I hb J=> ?_,R.nU,R.me,R.z0,R.zp,R.gh.keep L (fun c wr K H D=> ?_) rfl (fun c id b M=>rfl) (aq _) R.gh.dC (fun c id b p M t=>R.gh.loc c id b p M (by rw[←j p (d p t)];exact t))⟩,L⟩
 ·by_cases a:p=o
  ·subst a;rw[r];trivial
  ·rw[j p a];exact p2.mono L (.inr rfl) (fun _ _ _=>rfl) (R.ob p)
 ·by_cases a:p=o
  ·subst a;exact r
  ·rw[j p a];exact R.dead p x
 ·exact R.home p b (by rw[←j p (d p t)];exact t) hb
 ·exact R.ei p q b (by rw[←j p (d p t)];exact t) (by rw[←j q (d q u)];exact u) hb y
 ·have a:=d p (by intro e;rw[e]at l;simp[Ob.open?]at l);rw[j p a]at l;exact R.dC p b i l hb J
 ·have a:=d p (by rw[I];simp);rw[j p a]at I;exact R.oa p b i I hb J
 ·have a:=d c (by rw[D];simp);rw[j c a]at D;exact D
theorem HR.write(R:HR w0 Z0 Zp h g w){o b:Nat}{x:Ob}(hb:g.hm o=some b)(u:(look .dead o h).open? =true)(T:(look .dead o h).to x)(r:x.open? =true)
  (I:∀c,c≠b→w'.heap[c]? =w.heap[c]?) (Y:w'.heap.size=w.heap.size) (V:w0.Extends w')
  (W:Le Zp h g w ((o,x)::h) g w'→p2 w' w0.heap.size Zp ((o,x)::h) g o x):
  HR w0 Z0 Zp ((o,x)::h) g w'∧Le Zp h g w ((o,x)::h) g w':=by
 have E:∀p,p≠o→look .dead p ((o,x)::h)=look .dead p h:=fun p S=>by rw[ax,if_neg (Ne.symm S)]
 have t:look .dead o ((o,x)::h)=x:=by rw[ax,if_pos rfl]
 have j:look .dead o h≠.dead:=by intro l;rw[l]at u;simp[Ob.open?]at u
 have X:x≠.dead:=by intro l;rw[l]at r;simp[Ob.open?]at r
 have J:x≠.tok:=by intro l;rw[l]at r;simp[Ob.open?]at r
 have U:=R.home o b j hb;have alive:∀p,look .dead p ((o,x)::h)≠.dead→look .dead p h≠.dead:=fun p d=>by
  by_cases e:p=o
  ·subst e;exact j
  ·rw[←E p e];exact d
 have L:Le Zp h g w ((o,x)::h) g w':=by
  refine⟨fun o N=>N,fun c i D=>⟨D,az (I c (fun e=>R.dC o b i u hb (e▸D)))⟩,R.IM (fun c a _=>I c (by omega)) R.zp,fun p _=> ?_,fun _ _ _=>rfl,fun p _ y=>⟨rfl,fun c a=> ?_⟩,fun _ _ _ h=>h⟩
  ·by_cases d:p=o
   ·subst d;rw[t];exact T
   ·rw[E p d];exact Ob.to.refl _
  ·by_cases d:p=o
   ·subst d;rw[t]at y;exact absurd y J
   ·rw[E p d]at y;exact I c (fun e=>d (R.ei p o b (by rw[y];simp) j (e▸a) hb))
 refine⟨⟨V,fun p=> ?_,fun p N=> ?_,fun p c l a=> ?_,fun p q c l Q a P=> ?_,fun p c i d a D=> ?_,fun p c i y a D=> ?_,fun c i D=> ?_,R.me,R.z0,R.zp,R.gh.keep L (fun c wr K H a=> ?_) rfl (fun c id M O=>I M (fun e=>R.gh.loc c id M o O j (e▸hb))) (by omega) R.gh.dC (fun c id M p O l=>R.gh.loc c id M p O (alive p l))⟩,L⟩
 ·by_cases d:p=o
  ·subst d;rw[t];exact W L
  ·rw[E p d];exact p2.mono L (.inr rfl) (fun l c a=>I c (fun e=>d (R.ei p o b l j (e▸a) hb))) (R.ob p)
 ·have d:p≠o:=fun e=>N (e▸R.alive j);rw[E p d];exact R.dead p N
 ·have:=R.home p c (alive p l) a;omega
 ·exact R.ei p q c (alive p l) (alive q Q) a P
 ·by_cases e:p=o
  ·subst e;rw[hb]at a;cases a;exact R.dC p b i u hb D
  ·rw[E p e]at d;exact R.dC p c i d a D
 ·by_cases e:p=o
  ·subst e;rw[t]at y;exact absurd y J
  ·rw[E p e]at y;exact R.oa p c i y a D
 ·have:=R.nU c i D;omega
 ·by_cases e:c=o
  ·subst e;rw[t]at a;rw[a]at r;cases r
  ·rw[E c e]at a;exact a
structure Fz (h:aD) (g:G) (h1:aD) (g1:G):Prop where
 al:g1.al=g.al
 gl:∀c id b,GL h1 g1 c id b→GL h g c id b
theorem Fz.refl(h:aD)(g:G):Fz h g h g:=⟨rfl,fun _ _ _ h=>h⟩
theorem Fz.trans{d i:aD}{g1 g2:G}(a:Fz h g d g1)(b:Fz d g1 i g2):Fz h g i g2:=⟨b.al.trans a.al,fun c id x j=>a.gl c id x (b.gl c id x j)⟩
theorem HR.freeze(R:HR w0 Z0 Zp h g w){o:Nat}{e:Ty}{l:List e.den}(Y:look .dead o h= .row e l):
  ∃g',HR w0 Z0 Zp ((o,.iA e l)::h) g' w∧Le Zp h g w ((o,.iA e l)::h) g' w∧Fz h g ((o,.iA e l)::h) g':=by
 have O:=R.ob o;rw[Y]at O;obtain⟨h0,T,b,J,e0,hb,N,C6⟩:=O;have t:look .dead o h≠.dead:=by rw[Y];simp
 have U:=R.home o b t hb;have y:∀p,p≠o→look .dead p ((o,Ob.iA e l)::h)=look .dead p h:=fun p X=>by rw[ax,if_neg (Ne.symm X)]
 have u:look .dead o ((o,Ob.iA e l)::h)= .iA e l:=by rw[ax,if_pos rfl]
 have alive:∀p,look .dead p ((o,Ob.iA e l)::h)≠.dead→look .dead p h≠.dead:=fun p r=>by
  by_cases e:p=o
  ·subst e;exact t
  ·rw[←y p e];exact r
 let g':G:={ g with Z:=fun c i=>g.Z c i∨(c=b∧i<J.size) }
 have L:Le Zp h g w ((o,.iA e l)::h) g' w:=by
  refine⟨fun o S=>S,fun c i a=>⟨.inl a,rfl⟩,bc.refl _ _,fun p _=> ?_,fun _ _ _=>rfl,fun _ _ _=>⟨rfl,fun _ _=>rfl⟩,fun _ _ _ h=>h⟩
  by_cases r:p=o
  ·subst r;rw[u,Y];exact .inr (.inr (.inr (.inl ⟨_,rfl,rfl⟩)))
  ·rw[y p r];exact Ob.to.refl _
 refine⟨g',⟨R.ext,fun p=> ?_,fun p S=> ?_,fun p c E j=>R.home p c (alive p E) j,fun p q c E W j V=>R.ei p q c (alive p E) (alive q W) j V,fun p c i r j a=> ?_,fun p c i P j a=> ?_,fun c i a=> ?_,fun c i j a=> ?_,fun c i a=> .inl (R.z0 c i a),R.zp,R.gh.keep L (fun c wr K H j=> ?_) rfl (fun c id b M=>rfl) (aq _) (fun c id I i M a=> ?_) (fun c id I p M E=>R.gh.loc c id I p M (alive p E))⟩,L,rfl,fun c id I ⟨wr,K,H,x,e',Q,h2,h3,h4⟩=>⟨wr,K,H,x,e',?_,h2,h3,h4⟩⟩
 ·by_cases r:p=o
  ·subst r;rw[u];exact⟨h0,T,b,J,e0,(0,0),hb,N,bm.mono (fun x es hx=>PR.mono L.z L.zp _ _ _ hx) _ _ C6,fun i hi=> .inr ⟨rfl,hi⟩⟩
  ·rw[y p r];exact p2.mono L (.inr rfl) (fun _ _ _=>rfl) (R.ob p)
 ·have r:p≠o:=fun e=>S (e▸R.alive t);rw[y p r];exact R.dead p S
 ·by_cases D:p=o
  ·subst D;rw[u]at r;simp[Ob.open?]at r
  ·rw[y p D]at r;rcases a with a |⟨d,_⟩
   ·exact R.dC p c i r j a
   ·exact D (R.ei p o b (by intro E;rw[E]at r;simp[Ob.open?]at r) t (d▸j) hb)
 ·by_cases D:p=o
  ·subst D;rw[u]at P;cases P
  ·rw[y p D]at P;rcases a with a |⟨d,_⟩
   ·exact R.oa p c i P j a
   ·exact absurd (R.ei p o b (by rw[P];simp) t (d▸j) hb) D
 ·rcases a with a |⟨d,_⟩
  ·exact R.nU c i a
  ·rw[d];exact U.2
 ·rcases a with a |⟨d,_⟩
  ·exact R.me c i j a
  ·rw[d]at j;omega
 ·by_cases e:c=o
  ·subst e;rw[u]at j;cases j
  ·rw[y c e]at j;exact j
 ·rcases a with a |⟨d,_⟩
  ·exact R.gh.dC c id I i M a
  ·exact R.gh.loc c id I o M t (d▸hb)
 ·by_cases ec:c=o
  ·subst ec;rw[u]at Q;cases Q
  ·rw[y c ec]at Q;exact Q
theorem HR.called(R:HR w0 Z0 Zp h g w)(j:w.Extends w'):
  let g':G:={ g with Z:=fun b i=>g.Z b i∨(w.heap.size≤b∧b<w'.heap.size) }
  HR w0 Z0 Zp h g' w'∧Le Zp h g w h g' w':=by
 intro g';have L:Le Zp h g w h g' w':=by
  refine⟨fun o E=>E,fun c i a=>⟨.inl a,j.cell _ (R.nU c i a)⟩,R.IM (fun c d _=>j.block c (aK d R.cT)) R.zp,fun p _=>Ob.to.refl _,fun _ _ _=>rfl,fun p _ t=>⟨rfl,fun c d=>j.block c (R.home p c (by rw[t];simp) d).2⟩,fun _ _ _ h=>h⟩
 have y:=j.size;refine⟨⟨R.ext.trans j,fun p=>p2.mono L (.inr rfl) (fun l c d=>j.block c (R.home p c l d).2) (R.ob p),R.dead,fun p c l d=> ?_,R.ei,fun p c i x d a=> ?_,fun p c i t d a=> ?_,fun c i a=> ?_,fun c i d a=> ?_,fun c i a=> .inl (R.z0 c i a),R.zp,R.gh.keep L (fun _ _ _ _ d=>d) rfl (fun c id b r=>j.block b (R.gh.lt c id b r)) y (fun c id b i r a=> ?_) R.gh.loc⟩,L⟩
 ·have:=R.home p c l d;exact⟨this.1,by omega⟩
 ·rcases a with a |⟨u,_⟩
  ·exact R.dC p c i x d a
  ·have:=R.home p c (by intro l;rw[l]at x;simp[Ob.open?]at x) d;omega
 ·rcases a with a |⟨u,_⟩
  ·exact R.oa p c i t d a
  ·have:=R.home p c (by rw[t];simp) d;omega
 ·rcases a with a |⟨_,D⟩
  ·have:=R.nU c i a;omega
  ·exact D
 ·rcases a with a |⟨u,_⟩
  ·exact R.me c i d a
  ·have:=R.cT;omega
 ·rcases a with a |⟨u,_⟩
  ·exact R.gh.dC c id b i r a
  ·have:=R.gh.lt c id b r;omega
end
def p3{α:Type}(f:Nat→Nat→Option α)(c id:Nat)(e:α)(b a:Nat):Option α:=if b=c∧a=id then some e else f b a
theorem fm{α:Type}(f:Nat→Nat→Option α)(c id:Nat)(e:α):p3 f c id e c id=some e:=by simp[p3]
theorem gW{α:Type}(f:Nat→Nat→Option α){c id b a:Nat}(e:α)(h:¬ (b=c∧a=id)):p3 f c id e b a=f b a:=by simp[p3,h]
section
variable {w0:W0} {w w':World} {Z0 Zp:aL} {h h':aD} {g g':G}
theorem HR.Bc(R:HR w0 Z0 Zp h g w){c:Nat}{K:GK}{H I:List (Option K.ga)}(Y:look .dead c h= .gh true K H)(Z':aL)(E:Nat→Nat→Option (Nat×Nat×Nat×Nat))
  (hZ:∀b i,g.Z b i→Z' b i) (X:∀b i,Z' b i→g.Z b i∨∃id,GL h g c id b)
  (Ki:∀d r e,g.pm d r=some e→E d r=some e) (P:∀d r e,E d r=some e→g.pm d r=some e∨(d=c∧r=H.length∧I.length=H.length+1∧(w.heap.size≤e.1∧e.1<w'.heap.size∨∃id,GL h g c id e.1∧∀x,I[id]? ≠some (some x))∧(∀V,K= .bf V→e.2.2.2=V.size)))
  (hlen:H.length≤I.length) (OC:I.length≤H.length+1)
  (Kj:∀(id:Nat) x,id<H.length→I[id]? =some (some x)→∃y,H[id]? =some (some y))
  (Kk:∀id b i,GL h g c id b→Z' b i→(∃x,I[id]? =some (some x))→False)
  (IU:∀id b e x,GL h g c id b→E c H.length=some e→e.1=b→I[H.length]? =some (some x)→∀i,¬ Z' b i)
  (hw:∀b,b<w.heap.size→(∀id,¬ GL h g c id b)→w'.heap[b]? =w.heap[b]?) (hcell:∀b i,g.Z b i→w'.cell? ⟨b,i,none⟩=w.cell? ⟨b,i,none⟩) (hs:w.heap.size≤w'.heap.size) (he:w0.Extends w')
  (MC:Le Zp h g w ((c,.gh true K I)::h) { g with Z:=Z',pm:=E } w'→∀(id:Nat) x,I[id]? =some (some x)→gi w' w0.heap.size Zp ((c,.gh true K I)::h) { g with Z:=Z',pm:=E } c id K x):
  HR w0 Z0 Zp ((c,.gh true K I)::h) { g with Z:=Z',pm:=E } w'∧Le Zp h g w ((c,.gh true K I)::h) { g with Z:=Z',pm:=E } w':=by
 have U:∀p,p≠c→look .dead p ((c,Ob.gh true K I)::h)=look .dead p h:=fun p hne=>by rw[ax,if_neg (Ne.symm hne)]
 have u:look .dead c ((c,Ob.gh true K I)::h)= .gh true K I:=by rw[ax,if_pos rfl]
 have zB:look .dead c h≠.dead:=by rw[Y];simp
 have PJ:g.hm c=none:=by have:=R.ob c;rw[Y]at this;exact this
 have alive:∀p,look .dead p ((c,Ob.gh true K I)::h)≠.dead→look .dead p h≠.dead:=fun p D=>by
  by_cases e:p=c
  ·subst e;exact zB
  ·rw[←U p e];exact D
 have W:∀id b,GL h g c id b→w0.heap.size≤b∨w0.B b:=fun id b ⟨wr,T,H1,x,e,a,j,Q,N⟩=>by
  rw[Y]at a;cases a;subst N;exact R.gh.own c K H id x e Y j Q
 have Kl:∀o b,look .dead o h≠.dead→g.hm o=some b→w'.heap[b]? =w.heap[b]? :=fun o b S hb=>hw b (R.home o b S hb).2 fun id hG=>R.gh.loc c id b o hG S hb
 have IV:∀d r b,d≠c→GL h g d r b→w'.heap[b]? =w.heap[b]? :=fun d r b hne hG=>hw b (R.gh.lt _ _ _ hG) fun id MD=>hne (R.gh.ei _ _ _ _ _ hG MD).1
 have L:Le Zp h g w ((c,.gh true K I)::h) { g with Z:=Z',pm:=E } w':=by
  refine⟨fun o ha=>ha,fun b i J=>⟨hZ b i J,hcell b i J⟩,R.IM (fun b hb hB=>hw b (aK hb R.cT) fun id hG=> ?_) R.zp,fun p _=> ?_,fun _ _ _=>rfl,fun p _ ht=>⟨rfl,fun b hb=> ?_⟩,Ki⟩
  ·rcases W id b hG with a |a
   ·omega
   ·exact hB a
  ·by_cases D:p=c
   ·subst D;rw[u,Y];exact .inr (.inr (.inr (.inr (.inr (.inl ⟨_,_,_,rfl,rfl⟩)))))
   ·rw[U p D];exact Ob.to.refl _
  ·have D:p≠c:=by intro D;subst D;rw[u]at ht;cases ht
   rw[U p D]at ht;exact Kl p b (by rw[ht];simp) hb
 have O:∀d r b,GL ((c,.gh true K I)::h) { g with Z:=Z',pm:=E } d r b→(GL h g d r b∧(d=c→∃x,I[r]? =some (some x)))∨
   (d=c∧r=H.length∧(∃x,I[r]? =some (some x))∧(∃e,E c H.length=some e∧e.1=b)∧((w.heap.size≤b∧b<w'.heap.size)∨∃id,GL h g c id b∧∀x,I[id]? ≠some (some x))):=by
  rintro d r b ⟨wr,T,H1,x,e,a,j,Q,N⟩
  by_cases t:d=c
  ·subst t;rw[u]at a;cases a;rcases P _ _ _ Q with l |⟨_,l,h6,h7,_⟩
   ·have hlt:r<H.length:=by
     rcases cx r H.length with h |h
     ·exact h
     ·rw[R.gh.fresh d true K H r Y h]at l;cases l
    obtain⟨y,hy⟩:=Kj r x hlt j;exact .inl ⟨⟨true,K,H,y,e,Y,hy,l,N⟩,fun _=>⟨x,j⟩⟩
   ·subst l;subst N;exact .inr ⟨rfl,rfl,⟨x,j⟩,⟨e,Q,rfl⟩,h7⟩
  ·rw[U d t]at a;rcases P _ _ _ Q with l |⟨l,_⟩
   ·exact .inl ⟨⟨wr,T,H1,x,e,a,j,l,N⟩,fun h=>absurd h t⟩
   ·exact absurd l t
 refine⟨⟨he,fun p=> ?_,fun p ha=> ?_,fun p b S hb=> ?_,fun p q b S hd' hb hb'=>R.ei p q b (alive p S) (alive q hd') hb hb',fun p b i D hb J=> ?_,fun p b i ht hb J=> ?_,fun b i J=> ?_,fun b i hb J=> ?_,fun b i J=>hZ b i (R.z0 b i J),R.zp,?_⟩,L⟩
 ·by_cases D:p=c
  ·subst D;rw[u];exact PJ
  ·rw[U p D];exact p2.mono L (.inr rfl) (fun S b hb=>Kl p b S hb) (R.ob p)
 ·have D:p≠c:=fun e=>ha (e▸R.alive zB);rw[U p D];exact R.dead p ha
 ·have:=R.home p b (alive p S) hb;exact⟨this.1,by omega⟩
 ·by_cases e:p=c
  ·subst e;rw[u]at D;cases D
  ·rw[U p e]at D;rcases X b i J with a |⟨id,a⟩
   ·exact R.dC p b i D hb a
   ·exact R.gh.loc c id b p a (by intro S;rw[S]at D;cases D) hb
 ·by_cases e:p=c
  ·subst e;rw[u]at ht;cases ht
  ·rw[U p e]at ht;rcases X b i J with a |⟨id,a⟩
   ·exact R.oa p b i ht hb a
   ·exact(R.gh.loc c id b p a (by rw[ht];simp) hb).elim
 ·rcases X b i J with a |⟨id,a⟩
  ·have:=R.nU b i a;omega
  ·have:=R.gh.lt _ _ _ a;omega
 ·rcases X b i J with a |⟨id,a⟩
  ·exact R.me b i hb a
  ·rcases W id b a with j |j
   ·omega
   ·exact .inr j
 ·refine⟨fun d wr T H1 id x a j=> ?_,fun d wr T H1 id a j=> ?_,fun d id b a=> ?_,fun d T H1 id x e a j Q=> ?_,fun c1 ME c2 M b a j=> ?_,fun d id b i a J=> ?_,fun d id b o a S hb=> ?_,fun d wr V H1 id e a j=> ?_,fun d id e a=>Ki _ _ _ (R.gh.old d id e a),fun d T H1 a=> ?_,fun d id b i a J=> ?_,fun d wr T H1 a=> ?_,fun d T H1 a=> ?_,fun d id e a=> ?_⟩
  ·by_cases t:d=c
   ·subst t;rw[u]at a;cases a;exact MC L id x j
   ·rw[U d t]at a;exact gi.mono L (fun e he=>IV d id e.1 t ⟨wr,T,H1,x,e,a,j,he,rfl⟩) _ _ (R.gh.ga d wr T H1 id x a j)
  ·cases D:E d id with
   |none=>exact D
   |some e=>
    exfalso
    by_cases t:d=c
    ·subst t;rw[u]at a;cases a;rcases P _ _ _ D with l |⟨_,l,h6,_⟩
     ·rw[R.gh.fresh d true K H id Y (by omega)]at l;cases l
     ·omega
    ·rw[U d t]at a;rcases P _ _ _ D with l |⟨l,_⟩
     ·rw[R.gh.fresh d wr T H1 id a j]at l;cases l
     ·exact t l
  ·rcases O d id b a with⟨j,_⟩|⟨_,_,_,_,j⟩
   ·have:=R.gh.lt _ _ _ j;omega
   ·rcases j with j |⟨M,j,_⟩
    ·exact j.2
    ·have:=R.gh.lt _ _ _ j;omega
  ·by_cases t:d=c
   ·subst t;rw[u]at a;cases a;rcases O d id e.1 ⟨true,K,I,x,e,u,j,Q,rfl⟩with⟨N,_⟩|⟨_,_,_,_,N⟩
    ·exact W id _ N
    ·rcases N with N |⟨M,N,_⟩
     ·have:=R.cT;exact .inl (by omega)
     ·exact W M _ N
   ·rw[U d t]at a;rcases P _ _ _ Q with l |⟨l,_⟩
    ·exact R.gh.own d T H1 id x e a j l
    ·exact absurd l t
  ·rcases O c1 ME b a with⟨Q,PK⟩|⟨Q,N,Se,_,l⟩
   ·rcases O c2 M b j with⟨k3,OD⟩|⟨k3,k4,PL,_,k5⟩
    ·exact R.gh.ei _ _ _ _ _ Q k3
    ·exfalso;rcases k5 with k5 |⟨id,k5,k6⟩
     ·have:=R.gh.lt _ _ _ Q;omega
     ·obtain⟨e1,e2⟩:=R.gh.ei _ _ _ _ _ Q k5;obtain⟨x,hx⟩:=PK e1;exact k6 x (e2▸hx)
   ·rcases O c2 M b j with⟨k3,OD⟩|⟨k3,k4,PL,_,k5⟩
    ·exfalso;rcases l with l |⟨id,l,h6⟩
     ·have:=R.gh.lt _ _ _ k3;omega
     ·obtain⟨e1,e2⟩:=R.gh.ei _ _ _ _ _ k3 l;obtain⟨x,hx⟩:=OD e1;exact h6 x (e2▸hx)
    ·exact⟨Q.trans k3.symm,N.trans k4.symm⟩
  ·rcases O d id b a with⟨j,Km⟩|⟨j,Q,⟨x,hx⟩,⟨e,MF,PM⟩,N⟩
   ·by_cases t:d=c
    ·subst t;exact Kk id b i j J (Km rfl)
    ·rcases X b i J with l |⟨M,l⟩
     ·exact R.gh.dC _ _ _ _ j l
     ·exact t (R.gh.ei _ _ _ _ _ j l).1
   ·rcases N with N |⟨M,N,_⟩
    ·rcases X b i J with l |⟨Kn,l⟩
     ·have:=R.nU b i l;omega
     ·have:=R.gh.lt _ _ _ l;omega
    ·subst Q;exact IU M b e x N MF PM hx i J
  ·have S:=alive o S;rcases O d id b a with⟨j,_⟩|⟨_,_,_,_,j⟩
   ·exact R.gh.loc _ _ _ o j S hb
   ·rcases j with j |⟨M,j,_⟩
    ·have:=(R.home o b S hb).2;omega
    ·exact R.gh.loc _ _ _ o j S hb
  ·by_cases t:d=c
   ·subst t;rw[u]at a;cases a;rcases P _ _ _ j with l |⟨_,_,_,_,l⟩
    ·exact R.gh.Gp d true V H id e Y l
    ·exact l V rfl
   ·rw[U d t]at a;rcases P _ _ _ j with l |⟨l,_⟩
    ·exact R.gh.Gp d wr V H1 id e a l
    ·exact absurd l t
  ·by_cases t:d=c
   ·subst t;rw[u]at a;cases a
   ·rw[U d t]at a;exact R.gh.ro d T H1 a
  ·rcases O d id b a with⟨j,_⟩|⟨_,_,_,_,j⟩
   ·exact R.gh.Ie _ _ _ _ j J
   ·rcases j with j |⟨M,j,_⟩
    ·have:=(R.zp b i J).1;have:=R.cT;omega
    ·exact R.gh.Ie _ _ _ _ j J
  ·by_cases t:d=c
   ·subst t;rw[u]at a;cases a;exact R.gh.Ff _ _ _ _ Y
   ·rw[U d t]at a;exact R.gh.Ff d wr T H1 a
  ·by_cases t:d=c
   ·subst t;exact R.gh.GD _ _ _ Y
   ·rw[U d t]at a;exact R.gh.GD d T H1 a
  ·rcases P _ _ _ a with l |⟨l,_⟩
   ·exact R.gh.new d id e l
   ·exact .inr (l▸R.gh.GD _ _ _ Y)
theorem Le.same(a:∀o,look .dead o h=look .dead o h'):Le Zp h g w h' g w:=
 ⟨fun _ h=>h,bc.refl _ _,bc.refl _ _,fun o _=>by rw[a o];exact Ob.to.refl _,fun _ _ _=>rfl,fun _ _ _=>⟨rfl,fun _ _=>rfl⟩,fun _ _ _ h=>h⟩
theorem IL.Ig(R:IL w0 Zp h g w)(j:∀c wr K H,look .dead c h'= .gh wr K H→look .dead c h= .gh wr K H)(p:g'.pm=g.pm)
  (I:∀c id b i,GL h g c id b→¬ g'.Z b i) (E:∀c id b o,GL h g c id b→look .dead o h'≠.dead→g'.hm o=some b→False) (t:∀c id K x,K.ok=true→gi w w0.heap.size Zp h g c id K x→gi w w0.heap.size Zp h' g' c id K x):
  IL w0 Zp h' g' w:=by
 have l:∀c id b,GL h' g' c id b→GL h g c id b:=fun c id b ⟨wr,K,H,x,e,a,d,r,D⟩=>⟨wr,K,H,x,e,j _ _ _ _ a,d,p▸r,D⟩;exact⟨fun c wr K H id x a d=>t c id K x (R.Ff c wr K H (j _ _ _ _ a)) (R.ga c wr K H id x (j _ _ _ _ a) d),fun c wr K H id a d=>by rw[p];exact R.fresh c wr K H id (j _ _ _ _ a) d,fun c id b a=>R.lt c id b (l _ _ _ a),fun c K H id x e a d r=>R.own c K H id x e (j _ _ _ _ a) d (p▸r),
  fun c id y u b a d=>R.ei c id y u b (l _ _ _ a) (l _ _ _ d),fun c id b i a=>I c id b i (l _ _ _ a),fun c id b o a=>E c id b o (l _ _ _ a),fun c wr V H id e a d=>R.Gp c wr V H id e (j _ _ _ _ a) (p▸d),fun c id e a=>by rw[p];exact R.old c id e a,
  fun c K H a=>R.ro c K H (j _ _ _ _ a),fun c id b i a=>R.Ie c id b i (l _ _ _ a),fun c wr K H a=>R.Ff c wr K H (j _ _ _ _ a),fun c K H a=>R.GD c K H (j _ _ _ _ a),fun c id e a=>R.new c id e (p▸a)⟩
theorem HR.same(R:HR w0 Z0 Zp h g w)(a:∀o,look .dead o h=look .dead o h'):HR w0 Z0 Zp h' g w:=by
 refine⟨R.ext,fun o=> ?_,fun o j=>by rw[←a o];exact R.dead o j,fun o b d hb=>R.home o b (by rw[a o];exact d) hb,fun o p b d r hb l=>R.ei o p b (by rw[a o];exact d) (by rw[a p];exact r) hb l,
  fun o b i j hb=>R.dC o b i (by rw[a o];exact j) hb,fun o b i j hb=>R.oa o b i (by rw[a o];exact j) hb,R.nU,R.me,R.z0,R.zp,
  R.gh.keep (Le.same a) (fun c wr K H u=>by rw[a c];exact u) rfl (fun _ _ _ _=>rfl) (aq _) R.gh.dC (fun c id b o t d=>R.gh.loc c id b o t (by rw[a o];exact d))⟩
 rw[←a o];exact p2.mono (Le.same a) (.inr rfl) (fun _ _ _=>rfl) (R.ob o)
theorem HR.n5(R:HR w0 Z0 Zp h g w){c id b:Nat}{K:GK}{H:List (Option K.ga)}{y x:K.ga}{e:Nat×Nat×Nat×Nat}(p:look .dead c h= .gh true K H)(I:H[id]? =some (some y))(P:g.pm c id=some e)(hb:e.1=b)
  (E:∀c,c≠b→w'.heap[c]? =w.heap[c]?) (V:w'.heap.size=w.heap.size) (N:w0.Extends w')
  (Q:Le Zp h g w ((c,.gh true K (H.set id (some x)))::h) g w'→gi w' w0.heap.size Zp ((c,.gh true K (H.set id (some x)))::h) g c id K x):
  HR w0 Z0 Zp ((c,.gh true K (H.set id (some x)))::h) g w'∧Le Zp h g w ((c,.gh true K (H.set id (some x)))::h) g w':=by
 have t:GL h g c id b:=⟨true,K,H,y,e,p,I,P,hb⟩;have D:id<H.length:=(List.getElem?_eq_some_iff.1 I).1;refine R.Bc p g.Z g.pm (fun _ _ h=>h) (fun _ _ h=> .inl h) (fun _ _ _ h=>h) (fun _ _ _ h=> .inl h) (by simp) (by simp) (fun i z U a=> ?_) (fun i l j d r _=>R.gh.dC _ _ _ _ d r) (fun i l J W d r S T=> ?_) (fun l M O=>E l fun h=>O id (h▸t))
  (fun l i a=>az (E l fun h=>R.gh.dC _ _ _ i t (h▸a))) (by omega) N fun L i z a=> ?_
 ·by_cases d:id=i
  ·subst d;exact⟨y,I⟩
  ·rw[bI d]at a;exact⟨z,a⟩
 ·rw[R.gh.fresh c true K H H.length p (aq _)]at r;cases r
 ·by_cases d:id=i
  ·subst d;rw[bJ D]at a
   cases a;exact Q L
  ·rw[bI d]at a;exact gi.mono L (fun J u=>E _ fun h=>d ((R.gh.ei _ _ _ _ _ t ⟨true,K,H,z,J,p,a,u,h⟩).2)) _ _ (R.gh.ga c true K H i z p a)
theorem HR.dl(R:HR w0 Z0 Zp h g w){c k cap sz:Nat}{K:GK}{H:List (Option K.ga)}{x:K.ga}(E:look .dead c h= .gh true K H){y:Obj}(S:w'.heap=w.heap.push y)(T:w0.Extends w')(P:∀V,K= .bf V→sz=V.size){g':G}(U:g'={ g with pm:=p3 g.pm c H.length (w.heap.size,k,cap,sz) })
  (X:Le Zp h g w ((c,.gh true K (dl H x))::h) g' w'→gi w' w0.heap.size Zp ((c,.gh true K (dl H x))::h) g' c H.length K x):
  HR w0 Z0 Zp ((c,.gh true K (dl H x))::h) g' w'∧Le Zp h g w ((c,.gh true K (dl H x))::h) g' w':=by
 subst U;have l:∀b:Nat,b<w.heap.size→w'.heap[b]? =w.heap[b]? :=fun b hb=>by rw[S,Array.getElem?_push,if_neg (Nat.ne_of_lt hb)]
 have W:w'.heap.size=w.heap.size+1:=by rw[S];simp
 have N:=R.gh.fresh c true K H H.length E (aq _);have O:∀r d e,g.pm r d=some e→¬ (r=c∧d=H.length):=fun r d e p ⟨t,I⟩=>by subst t;subst I;rw[N]at p;cases p
 refine R.Bc E g.Z (p3 g.pm c H.length (w.heap.size,k,cap,sz)) (fun _ _ h=>h) (fun _ _ h=> .inl h) (fun r d e h=>by rw[gW _ _ (O _ _ _ h)];exact h) (fun r d e h=> ?_) (by simp[Go.Am.dl]) (by simp[Go.Am.dl]) (fun i z D a=> ?_) (fun i u j p t _=>R.gh.dC _ _ _ _ p t) (fun i u Q x' p t I Y=> ?_) (fun u J _=>l u J)
  (fun u i a=>az (l u (R.nU _ _ a))) (by omega) T fun L i z a=> ?_
 ·by_cases p:r=c∧d=H.length
  ·obtain⟨rfl,rfl⟩:=p;rw[fm]at h
   cases h;exact .inr ⟨rfl,rfl,by simp[Go.Am.dl],.inl ⟨aq _,by simp only;omega⟩,P⟩
  ·rw[gW _ _ p]at h;exact .inl h
 ·simp only[Go.Am.dl]at a;rw[aH D]at a;exact⟨z,a⟩
 ·rw[fm]at t
  cases t;have:=R.gh.lt _ _ _ p;simp only at I;omega
 ·simp only[Go.Am.dl]at a;rcases cx i H.length with D |D
  ·rw[aH D]at a;exact gi.mono L (fun Q M=>l _ (R.gh.lt c i _ ⟨true,K,H,z,Q,E,a,M,rfl⟩)) _ _ (R.gh.ga c true K H i z E a)
  ·rw[aY D]at a;have:i=H.length:=by
    rcases cx (i -H.length) 1 with h |h
    ·omega
    ·rw[bM (by simpa using h)]at a;cases a
   subst this;simp at a;subst a;exact X L
theorem HR.Ih(R:HR w0 Z0 Zp h g w){c id b k cap sz:Nat}{K:GK}{H:List (Option K.ga)}{y x:K.ga}{e:Nat×Nat×Nat×Nat}(J:look .dead c h= .gh true K H)(W:H[id]? =some (some y))(hp:g.pm c id=some e)(hb:e.1=b)
  (S:∀c,c≠b→w'.heap[c]? =w.heap[c]?) (hs:w'.heap.size=w.heap.size) (Y:w0.Extends w') (Q:∀V,K= .bf V→sz=V.size) {g':G} (hg:g'={ g with pm:=p3 g.pm c H.length (b,k,cap,sz) })
  (hx:Le Zp h g w ((c,.gh true K (Go.Am.dl (H.set id none) x))::h) g' w'→gi w' w0.heap.size Zp ((c,.gh true K (Go.Am.dl (H.set id none) x))::h) g' c H.length K x):
  HR w0 Z0 Zp ((c,.gh true K (Go.Am.dl (H.set id none) x))::h) g' w'∧Le Zp h g w ((c,.gh true K (Go.Am.dl (H.set id none) x))::h) g' w':=by
 subst hg;have M:GL h g c id b:=⟨true,K,H,y,e,J,W,hp,hb⟩;have I:id<H.length:=(List.getElem?_eq_some_iff.1 W).1;have O:=R.gh.fresh c true K H H.length J (aq _);have P:∀D l e,g.pm D l=some e→¬ (D=c∧l=H.length):=fun D l e d ⟨t,U⟩=>by subst t;subst U;rw[O]at d;cases d
 have p:∀z:K.ga,(Go.Am.dl (H.set id none) x)[id]? ≠some (some z):=fun z a=>by
  simp only[Go.Am.dl]at a;rw[aH (by simpa using I),bJ I]at a
  cases a
 have r:∀(i:Nat) (z:K.ga),i<H.length→(Go.Am.dl (H.set id none) x)[i]? =some (some z)→i≠id∧H[i]? =some (some z):=fun i z u a=>by
  have d:i≠id:=by intro h;subst h;exact p z a
  simp only[Go.Am.dl]at a;rw[aH (by simpa using u),bI (Ne.symm d)]at a;exact⟨d,a⟩
 refine R.Bc J g.Z (p3 g.pm c H.length (b,k,cap,sz)) (fun _ _ h=>h) (fun _ _ h=> .inl h) (fun D l e h=>by rw[gW _ _ (P _ _ _ h)];exact h) (fun D l e h=> ?_) (by simp[Go.Am.dl]) (by simp[Go.Am.dl]) (fun i z u a=>⟨z,(r i z u a).2⟩) (fun i E j d t _=>R.gh.dC _ _ _ _ d t) (fun i E T x' d t U h4 j=> ?_) (fun E X hn=>S E fun h=>hn id (h▸M))
  (fun E i a=>az (S E fun h=>R.gh.dC _ _ _ i M (h▸a))) (by omega) Y fun L i z a=> ?_
 ·by_cases d:D=c∧l=H.length
  ·obtain⟨rfl,rfl⟩:=d;rw[fm]at h
   cases h;exact .inr ⟨rfl,rfl,by simp[Go.Am.dl],.inr ⟨id,M,p⟩,Q⟩
  ·rw[gW _ _ d]at h;exact .inl h
 ·exact R.gh.dC _ _ _ _ d
 ·rcases cx i H.length with u |u
  ·obtain⟨d,t⟩:=r i z u a;exact gi.mono L (fun T N=>S _ fun h=>d ((R.gh.ei _ _ _ _ _ ⟨true,K,H,z,T,J,t,N,h⟩ M).2)) _ _ (R.gh.ga c true K H i z J t)
  ·simp only[Go.Am.dl]at a;rw[aY (by simpa using u)]at a;have:i=H.length:=by
    rcases cx (i -H.length) 1 with h |h
    ·omega
    ·rw[bM (by simpa using h)]at a;cases a
   subst this;simp at a;subst a;exact hx L
theorem HR.Ko(R:HR w0 Z0 Zp h g w){c id b:Nat}{K:GK}{H:List (Option K.ga)}{y:K.ga}{e:Nat×Nat×Nat×Nat}(t:look .dead c h= .gh true K H)(E:H[id]? =some (some y))(J:g.pm c id=some e)(hb:e.1=b)(x:Bool){g':G}(I:g'={ g with Z:=fun l i=>g.Z l i∨(x=true∧l=b) }):
  HR w0 Z0 Zp ((c,.gh true K (H.set id none))::h) g' w∧Le Zp h g w ((c,.gh true K (H.set id none))::h) g' w:=by
 subst I;have D:GL h g c id b:=⟨true,K,H,y,e,t,E,J,hb⟩;have u:id<H.length:=(List.getElem?_eq_some_iff.1 E).1;have a:∀(i:Nat) (z:K.ga),(H.set id none)[i]? =some (some z)→i≠id∧H[i]? =some (some z):=fun i z d=>by
  have r:i≠id:=by intro h;subst h;rw[bJ u]at d;cases d
  rw[bI (Ne.symm r)]at d;exact⟨r,d⟩
 refine R.Bc t (fun l i=>g.Z l i∨(x=true∧l=b)) g.pm (fun _ _ h=> .inl h) (fun l i h=> ?_) (fun _ _ _ h=>h) (fun _ _ _ h=> .inl h) (by simp) (by simp) (fun i z P d=>⟨z,(a i z d).2⟩) (fun i l j r p ⟨z,d⟩=> ?_) (fun i l M Q r p N O=> ?_) (fun _ _ _=>rfl)
  (fun _ _ _=>rfl) (aq _) R.ext fun L i z d=>gi.mono L (fun _ _=>rfl) _ _ (R.gh.ga c true K H i z t (a i z d).2)
 ·rcases h with h |⟨_,h⟩
  ·exact .inl h
  ·exact .inr ⟨id,h▸D⟩
 ·rcases p with p |⟨_,p⟩
  ·exact R.gh.dC _ _ _ _ r p
  ·exact(a i z d).1 (R.gh.ei _ _ _ _ _ r (p▸D)).2
 ·rw[R.gh.fresh c true K H H.length t (aq _)]at p;cases p
end
def HM.eval(next:Nat):HM→aD→Log→Option (A×aD×Log)
 |.ret a,h,L=>some (a,h,L)
 |.fail,_,_=>none
 |.get o k,h,L=>(k (look .dead o h)).eval next h ((o,false)::L)
 |.set o x k,h,L=>match Nat.blt o next with
  |true=>k.eval next ((o,x)::h) ((o,true)::L)
  |false=>none
 |.opt x k,h,L=>x.bind fun b=>(k b).eval next h L
 |.br b x y,h,L=>match b with
  |true=>x.eval next h L
  |false=>y.eval next h L
theorem HM.run_eq{R:Type}(next:Nat)(K:A→aD→Log→Option R):∀(m:HM) (h:aD) (L:Log),m.run next h L K=(m.eval next h L).bind fun r=>K r.1 r.2.1 r.2.2
 |.ret a,h,L=>rfl
 |.fail,_,_=>rfl
 |.get o k,h,L=>by simp only[HM.run,HM.eval];exact HM.run_eq next K _ _ _
 |.set o x k,h,L=>by
  simp only[HM.run,HM.eval]
  cases Nat.blt o next with
  |true=>exact HM.run_eq next K _ _ _
  |false=>rfl
 |.opt x k,h,L=>by
  simp only[HM.run,HM.eval]
  cases x with
  |none=>rfl
  |some b=>exact HM.run_eq next K _ _ _
 |.br b x y,h,L=>by
  simp only[HM.run,HM.eval]
  cases b with
  |true=>exact HM.run_eq next K _ _ _
  |false=>exact HM.run_eq next K _ _ _
section
variable {next:Nat} {h:aD} {L:Log} {res:A×aD×Log}
theorem cm{a:A}(e:(HM.ret a).eval next h L=some res):res=(a,h,L):=by simp[HM.eval]at e;exact e.symm
theorem ac(e:(HM.fail).eval next h L=some res):False:=by simp[HM.eval]at e
theorem aR{o:Nat}{k:Ob→HM}(e:(HM.get o k).eval next h L=some res):(k (look .dead o h)).eval next h ((o,false)::L)=some res:=e
theorem bx{o:Nat}{x:Ob}{k:HM}(e:(HM.set o x k).eval next h L=some res):k.eval next ((o,x)::h) ((o,true)::L)=some res:=by
 simp only[HM.eval]at e;split at e
 ·exact e
 ·cases e
theorem aC{β:Type}{x:Option β}{k:β→HM}(e:(HM.opt x k).eval next h L=some res):∃b,x=some b∧(k b).eval next h L=some res:=by
 cases x with
 |none=>simp[HM.eval]at e
 |some b=>exact⟨b,rfl,e⟩
end
def Ty.dJ:Ty→List Value
 |.bool=>[.bool false]
 |.int k=>[.int k 0]
 |.str=>[.string ⟨#[]⟩]
 |.sl _=>[.slice none 0 0]
 |.pair a b=>a.dJ++b.dJ
 |.unit=>[]
 |.ref _=>[.pointer none]
 |.fn _=>[.nilFunc]
 |.cl _ _=>[.nilFunc]
def Ty.mu:Ty→Bool
 |.fn _=>false
 |.cl _ _=>false
 |.pair a b=>a.mu&&b.mu
 |_=>true
def xp:Value→Bool
 |.agg _=>true
 |_=>false
def Fg(d:TD):Bool:=
 match d.ty with
 |some τ=>aJ τ.size d.size&&(τ.isAgg==d.agg)&&τ.aX&&τ.mu
 |none=>true
def zC(P:Program):Nat→List Field→List Ty→Bool
 |_,[],[]=>true
 |i,f::a,τ::τs=>(f.name != "_")&&aJ f.offset i&&(match P.underlying f.type,τ with
  |some (.int k),.int q=>decide (k=q)
  |some .bool,.bool=>true
  |some .string,.str=>true
  |_,_=>false)&&zC P (i+1) a τs
 |_,_,_=>false
def yz(P:Program)(t:TypeId)(τs:List Ty):Bool:=
 match P.underlying t with
 |some (.struct a)=> !P.stoodInHeld t&& !P.eqGuardType P.depth t&&zC P 0 a.toList τs
 |_=>false
structure cn (P:Program) (t:TypeId) (d:TD):Prop where
 PN:(P.underlying t).map jb=some d.desc
 agg:D6 d.desc=d.agg
 info:(P.info? t).map (fun i=>(i.size,i.bytes))=some (d.size,d.bytes)
 ty:Fg d=true
 eq:d.eq=[]∨yz P t d.eq=true
 zero:match d.zero,d.ty with
  |true,some τ=>(P.info? t).map (fun i=>i.zero.map fun z=>(z.cells.toList,xp z))=some (some (τ.dJ,d.agg))
  |true,none=>False
  |false,_=>True
def pR(P:Program)(tt:List (TypeId×TD)):Prop:=∀p∈tt,cn P p.1 p.2
theorem kK{α:Type}{t:Nat}{x:α}:∀{l:List (Nat×α)},ba t l=some x→(t,x)∈l
 |[],h=>by simp[ba]at h
 |(u,y)::r,h=>by
  simp only[ba]at h
  split at h
  ·rename_i a;cases h;rw[af a];simp
  ·exact bz _ (kK h)
theorem pR.get{P:Program}{tt:List (TypeId×TD)}(H:pR P tt){t:TypeId}{d:TD}(h:ba t tt=some d):cn P t d:=H _ (kK h)
section
variable {P:Program} {t:TypeId} {d:TD} (T:cn P t d)
theorem cn.under(T:cn P t d):∃y,P.underlying t=some y∧jb y=d.desc:=by
 have:=T.PN
 cases a:P.underlying t with
 |none=>simp[a]at this
 |some y=>exact⟨y,rfl,by simpa[a]using this⟩
theorem cn.slice(T:cn P t d){e:TypeId}(i:d.desc= .slice e):P.underlying t=some (.slice e):=by
 obtain⟨y,b,a⟩:=T.under;rw[i]at a
 cases y<;>simp[jb]at a;rw[b,a]
theorem cn.int(T:cn P t d){k:IntKind}(i:d.desc= .int k):P.underlying t=some (.int k):=by
 obtain⟨y,b,a⟩:=T.under;rw[i]at a
 cases y<;>simp[jb]at a;rw[b,a]
theorem cn.string(T:cn P t d)(i:d.desc= .str):P.underlying t=some .string:=by
 obtain⟨y,b,a⟩:=T.under;rw[i]at a
 cases y<;>simp[jb]at a;exact b
theorem cn.array(T:cn P t d){n:Nat}{e:TypeId}(i:d.desc= .array n e):P.underlying t=some (.array n e):=by
 obtain⟨y,b,a⟩:=T.under;rw[i]at a
 cases y<;>simp[jb]at a;rw[b,a.1,a.2]
theorem cn.struct(T:cn P t d){b:List (TypeId×Nat)}(j:d.desc= .struct b):∃f:Array Field,P.underlying t=some (.struct f)∧f.toList.map (fun x=>(x.type,x.offset))=b:=by
 obtain⟨y,i,a⟩:=T.under;rw[j]at a
 cases y<;>simp[jb]at a;exact⟨_,i,a⟩
theorem cn.inf(T:cn P t d):∃i,P.info? t=some i∧i.size=d.size∧i.bytes=d.bytes:=by
 have:=T.info
 cases a:P.info? t with
 |none=>simp[a]at this
 |some i=>exact⟨i,rfl,by simpa[a]using this⟩
theorem cn.sizeOf(T:cn P t d)(w:World):(sizeOf t).run P w= .ok d.size w:=by
 obtain⟨i,a,b,_⟩:=T.inf;simp[Go.sizeOf,typeInfo,a,b]
theorem cn.isAgg(T:cn P t d)(w:World):(isAgg t).run P w= .ok d.agg w:=by
 obtain⟨y,b,i⟩:=T.under;have a:=T.agg;rw[←i]at a;simp only[Go.isAgg,Sem.run_bind,run_underlying b,Result.andThen_ok]
 cases y<;>simp[jb,D6]at a<;>simp[←a]
theorem cn.rZ(T:cn P t d){τ:Ty}(h:d.ty=some τ):τ.size=d.size∧τ.isAgg=d.agg∧τ.aX=true∧τ.mu=true:=by
 have:=T.ty;simp only[Fg,h,ae]at this;exact⟨af this.1.1.1,by simpa using this.1.1.2,this.1.2,this.2⟩
theorem cn.zeroV(T:cn P t d){τ:Ty}(u:d.zero=true)(h:d.ty=some τ):∃i z,P.info? t=some i∧i.size=d.size∧i.bytes=d.bytes∧i.zero=some z∧z.cells.toList=τ.dJ∧xp z=d.agg:=by
 have b:=T.zero;rw[u,h]at b;obtain⟨i,j,l,p⟩:=T.inf;simp only[j,Option.map_some,Option.some.injEq]at b
 cases a:i.zero with
 |none=>simp[a]at b
 |some z=>simp[a]at b;exact⟨i,z,j,l,p,a,b.1,b.2⟩
end
section
variable {P:Program} {w0:W0} {w:World} {Z0 Zp:aL} {h h':aD} {g:G} {new:Nat} {r:A}
def aM(P:Program)(w0:W0)(Z0 Zp:aL)(h:aD)(g:G)(w:World)(new:Nat)(res:Sem Next)(r:A)(h':aD):Prop:=
 ∃n v b a,res.run P w= .ok n b∧(n= .value v∨(n= .skip∧v=undef))∧HR w0 Z0 Zp h' a b∧Le Zp h g w h' a b∧AR b w0.heap.size Zp h' a r v∧∀o,a.al o→g.al o∨o=new
theorem aM.pure(R:HR w0 Z0 Zp h g w){res:Sem Next}{v:Value}(hr:res.run P w= .ok (.value v) w)(a:AR w w0.heap.size Zp h g r v):aM P w0 Z0 Zp h g w new res r h:=
 ⟨_,v,w,g,hr,.inl rfl,R,Le.refl _ _ _ _,a,fun _ h=> .inl h⟩
theorem Le.trans{w1 Q:World}{j x:aD}{g1 g2:G}(a:Le Zp h g w j g1 w1)(b:Le Zp j g1 w1 x g2 Q):Le Zp h g w x g2 Q:=by
 refine⟨fun o u=>b.al o (a.al o u),a.z.trans b.z,a.zp.trans b.zp,fun o u=> ?_,fun o u I=> ?_,fun o u J=> ?_,fun c id e U=>b.pm c id e (a.pm c id e U)⟩
 ·have j:=a.ob o u;have x:=b.ob o (a.al o u);rcases x with x |⟨i,p⟩|⟨c,S,i,p⟩|⟨q,i,p⟩|⟨k,v,l,V,i,p⟩|⟨K,H,W,i,p⟩|⟨K,H,i,p⟩
  ·exact .inl x
  ·exact .inr (.inl ⟨j.tok i,p⟩)
  ·rcases j with j |⟨_,j⟩|⟨d,D,f1,f2⟩|⟨q,_,j⟩|⟨_,_,_,_,_,j⟩|⟨_,_,_,_,j⟩|⟨_,_,_,j⟩
   ·rw[j]at i;cases i
   ·rw[j]at i;cases i
   ·exact .inr (.inr (.inl ⟨d,S,f1,p⟩))
   ·rw[i]at j;simp[dn]at j
   ·rw[j]at i;cases i
   ·rw[j]at i;cases i
   ·rw[j]at i;cases i
  ·exact .inr (.inr (.inr (.inl ⟨q,j.row i,p⟩)))
  ·rcases j with j |⟨_,j⟩|⟨d,D,f1,f2⟩|⟨q,_,j⟩|⟨M,O,m,N,f1,f2⟩|⟨_,_,_,_,j⟩|⟨_,_,_,j⟩
   ·rw[j]at i;cases i
   ·rw[j]at i;cases i
   ·rw[f2]at i;cases i
   ·rw[i]at j;simp[dn]at j
   ·rw[f2]at i
    cases i;exact .inr (.inr (.inr (.inr (.inl ⟨_,_,m,V,f1,p⟩))))
   ·rw[j]at i;cases i
   ·rw[j]at i;cases i
  ·rcases j with j |⟨_,j⟩|⟨d,D,f1,f2⟩|⟨q,_,j⟩|⟨M,O,m,N,f1,f2⟩|⟨R,H1,H2,f1,f2⟩|⟨_,_,_,j⟩
   ·rw[j]at i;cases i
   ·rw[j]at i;cases i
   ·rw[f2]at i;cases i
   ·rw[i]at j;simp[dn]at j
   ·rw[f2]at i;cases i
   ·rw[f2]at i
    cases i;exact .inr (.inr (.inr (.inr (.inr (.inl ⟨_,_,_,f1,p⟩)))))
   ·rw[j]at i;cases i
  ·rcases j with j |⟨_,j⟩|⟨d,D,f1,f2⟩|⟨q,_,j⟩|⟨M,O,m,N,f1,f2⟩|⟨R,H1,H2,f1,f2⟩|⟨_,_,f1,f2⟩
   ·rw[j]at i;cases i
   ·rw[j]at i;cases i
   ·rw[f2]at i;cases i
   ·rw[i]at j;simp[dn]at j
   ·rw[f2]at i;cases i
   ·rw[f2]at i;cases i
   ·rw[f2]at i
    cases i;exact .inr (.inr (.inr (.inr (.inr (.inr ⟨_,_,f1,p⟩)))))
 ·exact(b.hm o (a.al o u) I).trans (a.hm o u ((b.ob o (a.al o u)).alive I))
 ·have y:=(b.ob o (a.al o u)).tok J;have i:=b.tok o (a.al o u) J;have p:=a.tok o u y;exact⟨i.1.trans p.1,fun c E=>(i.2 c ((a.hm o u (by rw[y];simp)).trans E)).trans (p.2 c E)⟩
theorem aM.behind{j:aD}{g1:G}{res:Sem Next}(p:Le Zp h g w j g1 w)(i:∀o,g1.al o→g.al o)(H:aM P w0 Z0 Zp j g1 w new res r h'):aM P w0 Z0 Zp h g w new res r h':=by
 obtain⟨n,v,x,l,a,b,c,d,e,f⟩:=H;exact⟨n,v,x,l,a,b,c,p.trans d,e,fun o u=>(f o u).imp (i o) id⟩
theorem AR.c{base:Nat}{c:C}{v:Value}(i:AR w base Zp h g (.v false [c]) v):CR w base Zp h g c v:=by
 obtain⟨u,a,e,b,_⟩:=i
 cases e;exact b
theorem AR.eU{base:Nat}{c:C}{v:Value}(a:CR w base Zp h g c v):AR w base Zp h g (.v false [c]) v:=⟨v,[],rfl,a,rfl⟩
theorem AR.agg{base:Nat}{cs:List C}{v:Value}(a:AR w base Zp h g (.v true cs) v):∃vs:List Value,v= .agg vs.toArray∧bG w base Zp h g cs vs:=a
theorem Fh{base:Nat}(v:Value):AR w base Zp h g (E7 v) v:=by
 unfold E7
 split<;>first
  |exact AR.eU trivial
  |(refine AR.eU ?_;simp[CR])
theorem bo{base:Nat}{env:Env}{a:Act}(b:∀t,AR w base Zp h g (look ar t env) (a.tmps.getD t undef))(x:Operand):AR w base Zp h g (jJ env x) (a.eval x):=by
 cases x with
 |tmp t=>exact b t
 |const v=>exact Fh v
 |global _=>exact AR.eU trivial
 |func f=>exact AR.eU ⟨#[],rfl,by simp[bm]⟩
end
section
variable {P:Program} {w0:W0} {w:World} {Z0 Zp:aL} {h h':aD} {g:G} {new next base:Nat} {r:A} {L L':Log} {X:Cx}
theorem aS{c:C}(e:(eC c).eval next h L=some (r,h',L')):r= .v false [c]∧h'=h∧L'=L:=by
 simp[eC,HM.eval]at e;exact⟨e.1.symm,e.2.1.symm,e.2.2.symm⟩
theorem cu{k:IntKind}{n:Int}(e:(iY k n).eval next h L=some (r,h',L')):r= .v false [.int k n]∧h'=h∧L'=L:=aS e
theorem dk{b:Bool}(e:(hA b).eval next h L=some (r,h',L')):r= .v false [.bool b]∧h'=h∧L'=L:=aS e
theorem GF{k:IntKind}{a b n:Int}(h:qt k a b=some n):b≠0∧n=k.wrap (a.tdiv b):=by
 unfold qt at h;split at h
 ·cases h
 ·rename_i c;cases h;exact⟨c,rfl⟩
theorem DR{a b n:Int}(h:rm a b=some n):b≠0∧n=a.tmod b:=by
 unfold rm at h;split at h
 ·cases h
 ·rename_i c;cases h;exact⟨c,rfl⟩
theorem Ec{k:IntKind}{a b n:Int}(h:Ix k a b=some n):¬ b<0∧n=k.wrap (a*2^(min b.toNat k.bits)):=by
 unfold Ix at h;split at h
 ·cases h
 ·rename_i c;cases h;exact⟨c,rfl⟩
theorem Ed{k:IntKind}{a b n:Int}(h:Iy k a b=some n):¬ b<0∧n=a.fdiv (2^(min b.toNat k.bits)):=by
 unfold Iy at h;split at h
 ·cases h
 ·rename_i c;cases h;exact⟨c,rfl⟩
theorem Fi {op : BinOp} {t : TypeId} {x y : Operand} {k o : IntKind} {a b : Int} (e : (tQ op (.v false [.int k a]) (.v false [.int o b])).eval next h L = some (r, h', L')) :
    h' = h ∧ ∃ c v, r = .v false [c] ∧ (do eqGuard op t x y (.int k a) (.int o b); binOp op t (.int k a) (.int o b) : Sem Value).run P w = .ok v w ∧ CR w base Zp h g c v := by
  have p : (eqGuard op t x y (.int k a) (.int o b)).run P w = .ok () w := by
    cases op <;> simp [eqGuard]
  simp only [Sem.run_bind, p, Result.andThen_ok]
  cases op
  case shl =>
    obtain ⟨n, j, e⟩ := aC e
    obtain ⟨d, i⟩ := Ec j
    obtain ⟨rfl, rfl, _⟩ := cu e
    exact ⟨rfl, _, .int k n, rfl, by simp [binOp, Op.shift, d, i], rfl⟩
  case shr =>
    obtain ⟨n, j, e⟩ := aC e
    obtain ⟨d, i⟩ := Ed j
    obtain ⟨rfl, rfl, _⟩ := cu e
    exact ⟨rfl, _, .int k n, rfl, by simp [binOp, Op.shift, d, i], rfl⟩
  case quo =>
    simp only [tQ] at e
    split at e
    · exact (ac e).elim
    rename_i l _
    subst l
    obtain ⟨n, j, e⟩ := aC e
    obtain ⟨d, i⟩ := GF j
    obtain ⟨rfl, rfl, _⟩ := cu e
    exact ⟨rfl, _, .int k n, rfl, by simp [binOp, Op.intDiv, d, i], rfl⟩
  case rem =>
    simp only [tQ] at e
    split at e
    · exact (ac e).elim
    rename_i l _
    subst l
    obtain ⟨n, j, e⟩ := aC e
    obtain ⟨d, i⟩ := DR j
    obtain ⟨rfl, rfl, _⟩ := cu e
    exact ⟨rfl, _, .int k n, rfl, by simp [binOp, Op.intDiv, d, i], rfl⟩
  all_goals
    simp only [tQ] at e
    split at e
    · exact (ac e).elim
    rename_i l _
    subst l
    first
      | (obtain ⟨rfl, rfl, _⟩ := cu e
         refine ⟨rfl, _, _, rfl, ?_, rfl⟩
         simp [binOp, Op.intArith, Op.intBits, Gt]; done)
      | (obtain ⟨rfl, rfl, _⟩ := dk e
         refine ⟨rfl, _, _, rfl, ?_, rfl⟩
         simp [binOp, Op.intCmp]; done)
theorem Bd(a:List UInt8):(⟨a.toArray⟩:ByteArray).toList=a:=by rw[ByteArray.toList_eq]
theorem mv(a:List UInt8):(⟨a.toArray⟩:ByteArray).size=a.length:=by simp[ByteArray.size]
theorem C7(a b:List UInt8):(⟨a.toArray⟩:ByteArray)++⟨b.toArray⟩=⟨(a++b).toArray⟩:=by
 apply ByteArray.ext;simp
theorem Fj{a b c:List UInt8}(h:cat a b=some c):a.length+b.length≤2^62∧c=a++b:=by
 unfold cat at h;split at h
 ·rename_i d;cases h;exact⟨d,rfl⟩
 ·cases h
theorem Fk {op : BinOp} {t : TypeId} {x y : Operand} {a b : List UInt8} (e : (tQ op (.v false [.str a]) (.v false [.str b])).eval next h L = some (r, h', L')) :
    h' = h ∧ ∃ c v, r = .v false [c] ∧ (do eqGuard op t x y (.string ⟨a.toArray⟩) (.string ⟨b.toArray⟩); binOp op t (.string ⟨a.toArray⟩) (.string ⟨b.toArray⟩) : Sem Value).run P w = .ok v w ∧ CR w base Zp h g c v := by
  have i : (eqGuard op t x y (.string ⟨a.toArray⟩) (.string ⟨b.toArray⟩)).run P w = .ok () w := by
    cases op <;> simp [eqGuard]
  simp only [Sem.run_bind, i, Result.andThen_ok]
  cases op <;> simp only [tQ] at e <;> first
    | exact (ac e).elim
    | (obtain ⟨rfl, rfl, _⟩ := dk e
       refine ⟨rfl, _, _, rfl, ?_, rfl⟩
       simp [binOp, Op.stringOp, pV]; done)
    | (obtain ⟨s, k, e⟩ := aC e
       obtain ⟨l, j⟩ := Fj k
       subst j
       obtain ⟨rfl, rfl, _⟩ := aS e
       refine ⟨rfl, _, _, rfl, ?_, rfl⟩
       have d := run_string_add_sum (P := P) (w := w) ⟨a.toArray⟩ ⟨b.toArray⟩ (by rw [mv, mv]; omega)
       rw [C7] at d
       simpa [binOp] using d)
theorem run_equalIn_bool{t:TypeId}(c:P.underlying t=some .bool)(a b:Bool)(d:Nat):(Op.equalIn (d+1) t (.bool a) (.bool b)).run P w= .ok (a==b) w:=by
 unfold Op.equalIn;simp only[Sem.run_bind,run_underlying c,Result.andThen_ok,Sem.run_pure]
theorem run_equal_bool{t:TypeId}(c:P.underlying t=some .bool)(a b:Bool):(Op.equal t (.bool a) (.bool b)).run P w= .ok (a==b) w:=run_equalIn_bool c a b 9999
theorem Ee {op : BinOp} {t : TypeId} {x y : Operand} {a b : Bool} (d : P.underlying t = some .bool) (e : (tQ op (.v false [.bool a]) (.v false [.bool b])).eval next h L = some (r, h', L')) :
    h' = h ∧ ∃ c v, r = .v false [c] ∧ (do eqGuard op t x y (.bool a) (.bool b); binOp op t (.bool a) (.bool b) : Sem Value).run P w = .ok v w ∧ CR w base Zp h g c v := by
  have i : (eqGuard op t x y (.bool a) (.bool b)).run P w = .ok () w := by
    cases op <;> simp [eqGuard]
  simp only [Sem.run_bind, i, Result.andThen_ok]
  cases op <;> simp only [tQ] at e <;> first
    | exact (ac e).elim
    | (obtain ⟨rfl, rfl, _⟩ := dk e
       refine ⟨rfl, _, _, rfl, ?_, rfl⟩
       first
         | (show ((do pure (.bool (← Op.equal t (.bool a) (.bool b))) : Sem Value)).run P w = _
            simp only [Sem.run_bind, run_equal_bool d, Result.andThen_ok, Sem.run_pure]; done)
         | (show ((do pure (.bool (!(← Op.equal t (.bool a) (.bool b)))) : Sem Value)).run P w = _
            simp only [Sem.run_bind, run_equal_bool d, Result.andThen_ok, Sem.run_pure]; done))
theorem Be{op:BinOp}{t:TypeId}{x y:Operand}{X Y:A}{l n:Value}(o:∀a b,X= .v false [.bool a]→Y= .v false [.bool b]→P.underlying t=some .bool)(j:AR w base Zp h g X l)(k:AR w base Zp h g Y n)
  (e:(tQ op X Y).eval next h L=some (r,h',L')):
  h'=h∧∃c v,r= .v false [c]∧(do eqGuard op t x y l n;binOp op t l n:Sem Value).run P w= .ok v w∧CR w base Zp h g c v:=by
 unfold tQ at e
 split at e
 ·have d:=j.c;have i:=k.c;simp only[CR]at d i;subst d;subst i;exact Fi e
 ·have d:=j.c;have i:=k.c;simp only[CR]at d i;subst d;subst i;exact Fk e
 ·have d:=j.c;have i:=k.c;simp only[CR]at d i;subst d;subst i;exact Ee (o _ _ rfl rfl) e
 ·exact(ac e).elim
theorem GG {op : UnOp} {X : A} {b : Value} (d : AR w base Zp h g X b) (e : (My op X).eval next h L = some (r, h', L')) :
    h' = h ∧ ∃ c v, r = .v false [c] ∧ (Op.unary op b).run P w = .ok v w ∧ CR w base Zp h g c v := by
  unfold My at e
  split at e <;> first
    | exact (ac e).elim
    | (have a := d.c
       simp only [CR] at a
       subst a
       first
         | (obtain ⟨rfl, rfl, _⟩ := cu e
            refine ⟨rfl, _, _, rfl, ?_, rfl⟩
            simp [Op.unary, Op.intArith, Op.intBits, Gt]; done)
         | (obtain ⟨rfl, rfl, _⟩ := dk e
            refine ⟨rfl, _, _, rfl, ?_, rfl⟩
            simp [Op.unary]; done))
end
end Go.Am
