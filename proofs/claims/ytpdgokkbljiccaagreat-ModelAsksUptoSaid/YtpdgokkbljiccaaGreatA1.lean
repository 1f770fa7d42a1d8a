import Derived.WalkKit
import Derived.Deep.AppendSrc
set_option linter.unusedVariables false
set_option linter.unusedSimpArgs false
open Bool renaming and_eq_true→ah
open List renaming getElem?_append_left→aU,getElem?_append_right→bc,getElem?_eq_none→bv,getElem?_set_ne→cA,getElem?_set_self→cB,length→ac,mem_cons_of_mem→bK,range→abY,replicate→aY
open Nat renaming add_mul→bw,beq→bh,eq_of_beq_eq_true→aj,le_refl→av,lt_of_lt_of_le→bi,lt_or_ge→dz
open Go.World renaming cell?_of_block→aL
namespace Go.Am
inductive Ty where
 |bool |int (k:IntKind)|str |sl (e:Ty)|pair (a b:Ty)|unit |ref (a:Ty)|fn (f:FuncId)|cl (f:FuncId) (a:Ty)
 deriving DecidableEq
def Ty.den:Ty→Type
 |.bool=>Bool
 |.int _=>Int
 |.str=>List UInt8
 |.sl e=>List e.den
 |.pair a b=>a.den×b.den
 |.unit=>Unit
 |.ref a=>a.den
 |.fn _=>Unit
 |.cl _ a=>a.den
def Ty.size:Ty→Nat
 |.pair a b=>a.size+b.size
 |.unit=>0
 |_=>1
def Ty.isAgg:Ty→Bool
 |.pair _ _ |.unit=>true
 |_=>false
def Ty.zero:(τ:Ty)→τ.den
 |.bool=>false
 |.int _=>(0:Int)
 |.str=>([]:List UInt8)
 |.sl _=>[]
 |.pair a b=>(a.zero,b.zero)
 |.unit=>()
 |.ref a=>a.zero
 |.fn _=>()
 |.cl _ a=>a.zero
def g6:List Ty→Ty
 |[]=> .unit
 |[a]=>a
 |a::b::r=> .pair a (g6 (b::r))
def aeA:List Ty→Ty
 |[]=> .unit
 |[a]=> .pair a .unit
 |a::b::r=> .pair a (g6 (b::r))
inductive VT where
 |data (τ:Ty)|gp (c off:Nat)|gs (c:Nat)|gm (c:Nat)|cl (f:FuncId) (l m:List (Nat×Nat))|pair (a b:VT)|unit
 deriving DecidableEq
def VT.den:VT→Type
 |.data τ=>τ.den
 |.gp _ _=>Option Nat
 |.gs _=>Option (Nat×Nat×Nat)
 |.gm _=>Option Nat
 |.cl _ _ _=>Option (List Nat×List Nat)
 |.pair a b=>a.den×b.den
 |.unit=>Unit
def VT.size:VT→Nat
 |.data τ=>τ.size
 |.pair a b=>a.size+b.size
 |.unit=>0
 |_=>1
def VT.isAgg:VT→Bool
 |.data τ=>τ.isAgg
 |.pair _ _ |.unit=>true
 |_=>false
def VT.zero:(V:VT)→V.den
 |.data τ=>τ.zero
 |.gp _ _=>(none:Option Nat)
 |.gs _=>(none:Option (Nat×Nat×Nat))
 |.gm _=>(none:Option Nat)
 |.cl _ _ _=>(none:Option (List Nat×List Nat))
 |.pair a b=>(a.zero,b.zero)
 |.unit=>()
def pR:List VT→VT
 |[]=> .unit
 |[a]=>a
 |a::b::r=> .pair a (pR (b::r))
inductive GK where
 |st (V:VT)|bf (V:VT)|mp (k:Ty) (V:VT)
 deriving DecidableEq
def GK.me:GK→Type
 |.st V=>V.den
 |.bf V=>List V.den
 |.mp k V=>List (k.den×V.den)
inductive Tok where
 |no |nn |nl |own (o:Nat)
inductive C where
 |undef
 |bool (b:Bool)
 |int (k:IntKind) (n:Int)
 |str (s:List UInt8)
 |sl (e:Ty) (l:List e.den) (t:Tok)
 |nils
 |vec (o:Nat)
 |ptr (o off:Nat)
 |OZ (o i c:Nat)
 |YG (o off len i:Nat)
 |zD (a:Ty) (x:a.den) (c:Nat)
 |clos (f:FuncId) (caps:List Nat)
 |nilfn
 |nilp
 |mp (o:Nat)
 |vE (f:FuncId) (a:Ty) (x:a.den)
 |gp (c off:Nat) (x:Option Nat)
 |gs (c:Nat) (x:Option (Nat×Nat×Nat))
 |ge (c id ix off:Nat)
 |gm (c:Nat) (x:Option Nat)
 |gcl (f:FuncId) (l m:List (Nat×Nat)) (x:Option (List Nat×List Nat))
inductive A where
 |v (agg:Bool) (cs:List C)
 |g6 (ps:List (Bool×List C))
def aA:A:=.v false [.undef]
def nP:A:=.g6 []
inductive Ob where
 |dead
 |tok
 |cells (cs:List C)
 |row (e:Ty) (l:List e.den)
 |pS (e:Ty) (l:List e.den)
 |map (k v:Ty) (l:List (k.den×v.den))
 |gh (wr:Bool) (K:GK) (H:List (Option K.me))
def Ty.cells:(τ:Ty)→τ.den→List C
 |.bool,b=>[.bool b]
 |.int k,n=>[.int k n]
 |.str,s=>[.str s]
 |.sl e,l=>[.sl e l .no]
 |.pair a b,x=>a.cells x.1++b.cells x.2
 |.unit,_=>[]
 |.ref a,x=>[.zD a x 0]
 |.fn f,_=>[.clos f []]
 |.cl f a,x=>[.vE f a x]
def Ty.i6:Ty→List C
 |.bool=>[.bool false]
 |.int k=>[.int k 0]
 |.str=>[.str []]
 |.sl _=>[.nils]
 |.pair a b=>a.i6++b.i6
 |.unit=>[]
 |.ref _=>[.nilp]
 |.fn _=>[.nilfn]
 |.cl _ _=>[.nilfn]
def lM(a b:Ty)(l:List a.den):Option (List b.den):=
 match decEq a b with
 |.isTrue h=>some (h▸l)
 |.isFalse _=>none
def mf(a b:Ty)(x:a.den):Option b.den:=
 match decEq a b with
 |.isTrue h=>some (h▸x)
 |.isFalse _=>none
def Ty.take:(τ:Ty)→List C→Option (τ.den×List C)
 |.bool,.bool b::r=>some (b,r)
 |.int k,.int w n::r=>match decEq k w with |.isTrue _=>some (n,r)|.isFalse _=>none
 |.str,.str s::r=>some (s,r)
 |.sl e,.sl p l _::r=>match lM p e l with |some l=>some (l,r)|none=>none
 |.sl _,.nils::r=>some ([],r)
 |.pair a b,j=>match a.take j with
  |some (x,r)=>match b.take r with
   |some (y,D)=>some ((x,y),D)
   |none=>none
  |none=>none
 |.unit,j=>some ((),j)
 |.ref a,.zD i x 0::r=>match mf i a x with |some x=>some (x,r)|none=>none
 |.fn f,.clos g []::r=>match decEq f g with |.isTrue _=>some ((),r)|.isFalse _=>none
 |.cl f a,.vE g i x::r=>match decEq f g with |.isTrue _=>(match mf i a x with |some x=>some (x,r)|none=>none)|.isFalse _=>none
 |_,_=>none
def Ty.cf(τ:Ty)(cs:List C):Option τ.den:=
 match τ.take cs with
 |some (x,[])=>some x
 |_=>none
def VT.cells:(V:VT)→V.den→List C
 |.data τ,x=>τ.cells x
 |.gp c i,x=>[.gp c i x]
 |.gs c,x=>[.gs c x]
 |.gm c,x=>[.gm c x]
 |.cl f l m,x=>[.gcl f l m x]
 |.pair a b,x=>a.cells x.1++b.cells x.2
 |.unit,_=>[]
def VT.i6:VT→List C
 |.data τ=>τ.i6
 |.gp _ _=>[.nilp]
 |.gs _=>[.nils]
 |.gm c=>[.gm c none]
 |.cl f l m=>[.gcl f l m none]
 |.pair a b=>a.i6++b.i6
 |.unit=>[]
def VT.take:(V:VT)→List C→Option (V.den×List C)
 |.data τ,j=>τ.take j
 |.gp c w,.gp i p x::r=>match bh c i&&bh w p with |true=>some (x,r)|false=>none
 |.gp _ _,.nilp::r=>some (none,r)
 |.gs c,.gs i x::r=>match bh c i with |true=>some (x,r)|false=>none
 |.gs _,.nils::r=>some (none,r)
 |.gm c,.gm i x::r=>match bh c i with |true=>some (x,r)|false=>none
 |.cl f l m,.gcl D E H x::r=>match decEq f D,decEq l E,decEq m H with |.isTrue _,.isTrue _,.isTrue _=>some (x,r)|_,_,_=>none
 |.pair a b,j=>match a.take j with
  |some (x,r)=>match b.take r with
   |some (y,I)=>some ((x,y),I)
   |none=>none
  |none=>none
 |.unit,j=>some ((),j)
 |_,_=>none
def VT.cf(V:VT)(cs:List C):Option V.den:=
 match V.take cs with
 |some (x,[])=>some x
 |_=>none
def gu(K a:GK)(H:List (Option K.me)):Option (List (Option a.me)):=
 match decEq K a with
 |.isTrue h=>some (h▸H)
 |.isFalse _=>none
def aw{R:Type}(b:Bool)(x y:Option R):Option R:=match b with |true=>x |false=>y
def idx{α:Type}(l:List α)(i:Int):Option α:=if 0≤i then l[i.toNat]? else none
def ck(i:Int)(n:Nat):Option Nat:=if 0≤i∧i<n then some i.toNat else none
def qt(k:IntKind)(a b:Int):Option Int:=if b=0 then none else some (k.wrap (a.tdiv b))
def rm(a b:Int):Option Int:=if b=0 then none else some (a.tmod b)
def Dx(k:IntKind)(a b:Int):Option Int:=if b<0 then none else some (k.wrap (a*2^(min b.toNat k.bits)))
def Rb(k:IntKind)(a b:Int):Option Int:=if b<0 then none else some (a.fdiv (2^(min b.toNat k.bits)))
def EC(op:BinOp)(k:IntKind)(x y:Int):Int:=
 let a:=BitVec.ofInt k.bits x
 let b:=BitVec.ofInt k.bits y
 k.wrap (match op with |.and=>(a &&& b).toNat |.or=>(a ||| b).toNat |.xor=>(a ^^^ b).toNat |_=>(a &&& ~~~b).toNat)
def room:Nat:=140737488355328
def ED(bytes:Nat)(n:Int):Option Nat:=if 0≤n∧n.toNat*bytes≤room∧n≤140737488355328 then some n.toNat else none
def app{α:Type}(bytes:Nat)(l m:List α):Option (List α):=if(l.length+m.length)*bytes≤room∧l.length+m.length≤room then some (l++m)else none
def slc{α:Type}(l:List α)(lo a:Int):Option (List α):=if 0≤lo∧lo≤a∧a≤l.length then some ((l.take a.toNat).drop lo.toNat)else none
def cat(s t:List UInt8):Option (List UInt8):=if s.length+t.length≤2^62 then some (s++t)else none
def acI(s:List UInt8)(i:Int):Option Int:=if 0≤i then(s[i.toNat]?).map (fun b=>(b.toNat:Int))else none
def bytesOf(l:List Int):List UInt8:=l.map fun n=>UInt8.ofNat n.toNat
def imax(x y:Int):Int:=if y>x then y else x
def pT(x y:Int):Int:=if y<x then y else x
def qJ{α β:Type}(a:α→α→Bool):List (α×β)→α→Option β
 |[],_=>none
 |p::r,k=>match a k p.1 with
  |true=>some p.2
  |false=>qJ a r k
def oV{α β:Type}(a:α→α→Bool):List (α×β)→α→β→List (α×β)
 |[],k,v=>[(k,v)]
 |p::r,k,v=>match a k p.1 with
  |true=>(k,v)::r
  |false=>p::oV a r k v
def J5{α β:Type}(a:α→α→Bool):List (α×β)→α→List (α×β)
 |[],_=>[]
 |p::r,k=>match a k p.1 with
  |true=>r
  |false=>p::J5 a r k
def nth{α:Type}(l:List α)(i:Nat):Option α:=l[i]?
def fH{α:Type}(H:List (Option α))(x:α):List (Option α):=H++[some x]
def EE{α:Type}(H:List (Option α))(i:Nat):Option α:=match H[i]? with |some (some x)=>some x |_=>none
def J6{α:Type}(H:List (Option α))(i:Nat)(x:α):Option (List (Option α)):=match H[i]? with |some (some _)=>some (H.set i (some x))|_=>none
def gsL{α:Type}(H:List (Option (List α)))(x:Option (Nat×Nat×Nat)):Option (List α):=
 match x with
 |none=>some []
 |some (i,a,n)=>match EE H i with
  |some l=>if a+n≤l.length then some ((l.drop a).take n)else none
  |none=>none
def gsF{α:Type}(H:List (Option (List α)))(x:Option (Nat×Nat×Nat)):Option (List α×List (Option (List α))):=
 match x with
 |none=>some ([],H)
 |some (i,a,n)=>match gsL H (some (i,a,n))with
  |some l=>some (l,H.set i none)
  |none=>none
def gad{α:Type}(H:List (Option (List α)))(l:List α):Option (List (Option (List α))×Option (Nat×Nat×Nat)):=
 match l with
 |[]=>none
 |y::m=>some (fH H (y::m),some (H.length,0,(y::m).length))
def gsN(x:Option (Nat×Nat×Nat)):Int:=match x with |none=>0 |some (_,_,n)=>n
def gsS(x:Option (Nat×Nat×Nat))(lo b:Int):Option (Option (Nat×Nat×Nat)):=
 match x with
 |none=>if lo=0∧b=0 then some none else none
 |some (i,a,n)=>if 0≤lo∧lo≤b∧b≤n then some (some (i,a+lo.toNat,(b -lo).toNat))else none
def gsA{α:Type}(bytes:Nat)(H:List (Option (List α)))(x:Option (Nat×Nat×Nat))(m:List α):Option (List (Option (List α))×Option (Nat×Nat×Nat)):=
 match x with
 |none=>match m with
  |[]=>some (H,none)
  |y::m=>match app bytes [] (y::m)with
   |some l=>some (fH H l,some (H.length,0,l.length))
   |none=>none
 |some (i,a,n)=>match gsL H (some (i,a,n))with
  |some l=>match app bytes l m with
   |some l=>some (fH (H.set i none) l,some (H.length,0,l.length))
   |none=>none
  |none=>none
def zE{α:Type}(l:List α)(a:Nat)(m:List α):List α:=l.take a++m++l.drop (a+m.length)
def gsC{α:Type}(H:List (Option (List α)))(y:Option (Nat×Nat×Nat))(m:List α):Option (List (Option (List α))×Int):=
 match y with
 |none=>some (H,0)
 |some (i,a,n)=>match EE H i with
  |some l=>if a+n≤l.length then some (H.set i (some (zE l a (m.take n))),((min m.length n:Nat):Int))else none
  |none=>none
def YH{α:Type}(H:List (Option α))(x y:Option Nat):Option Bool:=
 match x,y with
 |some i,some j=>match EE H i,EE H j with
  |some _,some _=>some (bh i j)
  |_,_=>none
 |none,none=>some true
 |_,_=>some false
inductive HM:Type 1 where
 |ret (a:A)
 |fail
 |get (o:Nat) (k:Ob→HM)
 |set (o:Nat) (x:Ob) (k:HM)
 |opt {β:Type} (x:Option β) (k:β→HM)
 |br (b:Bool) (x y:HM)
abbrev Log:=List (Nat×Bool)
abbrev aP:=List (Nat×Ob)
abbrev Env:=List (Nat×A)
def look{α:Type}(d:α)(t:Nat):List (Nat×α)→α
 |[]=>d
 |(u,x)::r=>match bh u t with |true=>x |false=>look d t r
def HM.run{R:Type}(next:Nat):HM→aP→Log→(A→aP→Log→Option R)→Option R
 |.ret a,h,L,K=>K a h L
 |.fail,_,_,_=>none
 |.get o k,h,L,K=>(k (look .dead o h)).run next h ((o,false)::L) K
 |.set o x k,h,L,K=>match Nat.blt o next with
  |true=>k.run next ((o,x)::h) ((o,true)::L) K
  |false=>none
 |.opt x k,h,L,K=>x.bind fun b=>(k b).run next h L K
 |.br b x y,h,L,K=>aw b (x.run next h L K) (y.run next h L K)
inductive TK where
 |bool |int (k:IntKind)|str |slice (e:TypeId)|struct (fs:List (TypeId×Nat))|array (n:Nat) (e:TypeId)|map (k v:TypeId)|ptr (e:TypeId)|other
def ry:TypeDesc→TK
 |.bool=> .bool
 |.int k=> .int k
 |.string=> .str
 |.slice e=> .slice e
 |.struct a=> .struct (a.toList.map fun f=>(f.type,f.offset))
 |.array n e=> .array n e
 |.map k v=> .map k v
 |.pointer e=> .ptr e
 |_=> .other
def Xv:TK→Bool
 |.struct _ |.array _ _=>true
 |_=>false
structure TD where
 desc:TK
 size:Nat
 bytes:Nat
 agg:Bool
 ty:Option Ty
 zero:Bool
 eq:List Ty
structure Entry where
 ps:List Ty
 rs:List Ty
 F:(g6 ps).den→Option (g6 rs).den
structure uJ where
 ps:List Ty
 e:Ty
 F:(g6 ps).den→Option (List e.den)
def ej:List (Nat×GK)→Type
 |[]=>Unit
 |k::r=>List (Option k.2.me)×ej r
structure cT where
 ps:List VT
 rs:List VT
 ws:List (Nat×GK)
 os:List (Nat×GK)
 F:(pR ps).den→ej ws→ej os→Option ((pR rs).den×ej ws)
inductive CK where
 |data (τ:Ty)|own (e:Ty)|fix (c:C)
inductive SK where
 |data (τ:Ty)|own (e:Ty)|fix (a:A)|box (l:List CK)|ref (a:Ty)|vt (V:VT)|cl (f:FuncId) (a:Ty)
inductive OK where
 |row (e:Ty)|pS (e:Ty)|cells (l:List CK)|map (k v:Ty)|gh (wr:Bool) (K:GK)|obj (τ:Ty)
structure NS where
 slots:List (Nat×SK)
 obs:List (Nat×OK)
 next:Nat
inductive Ex where
 |normal |ret |exit (id:Nat)
structure LS where
 vin:NS
 outs:List (Ex×NS)
structure Cx where
 tt:List (TypeId×TD)
 calls:List (FuncId×Entry)
 owns:List (FuncId×uJ)
 stats:List (FuncId×cT):=[]
 zF:List (TypeId×VT):=[]
 YI:List (TypeId×Nat):=[]
 aks:List (TypeId×Nat):=[]
 acK:List (FuncId×Nat):=[]
 loc:List (Nat×GK):=[]
 nc:Nat:=0
 tail:Bool:=false
 loops:List (Nat×LS)
 cN:List (Nat×NS)
 acL:List (Nat×NS):=[]
 Vt:List (Nat×List (Nat×Ty)):=[]
 lcs:List (Nat×List (Nat×Ty)×Nat):=[]
 nt:Nat
 fuel:Nat
def bP{α:Type}(t:Nat):List (Nat×α)→Option α
 |[]=>none
 |(u,x)::r=>match bh u t with |true=>some x |false=>bP t r
def kr(mark:Bool)(c:C)(k:C→HM):HM:=
 match c with
 |.vec o=> .get o fun
  |.row e l=>match mark with
   |true=> .set o (.pS e l) (k (.sl e l .no))
   |false=>k (.sl e l .no)
  |.pS e l=>k (.sl e l .no)
  |_=> .fail
 |.sl e l _=>k (.sl e l .no)
 |c=>k c
def fh(mark:Bool):List C→(List C→HM)→HM
 |[],k=>k []
 |c::r,k=>kr mark c fun a=>fh mark r fun b=>k (a::b)
def Ty.flat:Ty→Bool
 |.bool |.int _ |.str |.unit |.fn _=>true
 |.pair a b=>a.flat&&b.flat
 |_=>false
def Ty.isKey:Ty→Bool
 |.bool |.int _ |.str |.unit=>true
 |.pair a b=>a.isKey&&b.isKey
 |_=>false
def Ty.Ho(k:IntKind):Ty→Bool
 |.int q=>match decEq k q with
  |.isTrue _=>true
  |.isFalse _=>false
 |.unit=>true
 |.pair a b=>a.Ho k&&b.Ho k
 |_=>false
def Ty.kP:(τ:Ty)→τ.den→τ.den→Bool
 |.bool,a,b=>(show Bool from a)==(show Bool from b)
 |.int _,a,b=>(show Int from a)==(show Int from b)
 |.str,a,b=>(show List UInt8 from a)==(show List UInt8 from b)
 |.pair a b,x,y=>a.kP x.1 y.1&&b.kP x.2 y.2
 |_,_,_=>true
def Ty.bH:Ty→Bool
 |.ref _=>false
 |.cl _ _=>false
 |.pair a b=>a.bH&&b.bH
 |.sl e=>e.bH
 |_=>true
def A.cellsOf:A→Option (List C)
 |.v _ a=>some a
 |.g6 _=>none
def aaN(mark:Bool):(a:Ty)→List Nat→(a.den→HM)→HM
 |.unit,[],k=>k ()
 |.pair (.ref σ) r,o::c,k=>match σ.bH with
  |true=> .get o fun
   |.cells b=>fh mark (b.take σ.size) fun b=>match σ.cf b with
    |some x=>aaN mark r c fun y=>k (x,y)
    |none=> .fail
   |_=> .fail
  |false=> .fail
 |_,_,_=> .fail
def atM(a:C)(k:List C→HM):HM:=
 match a with
 |.gp c b x=> .opt x fun id=> .get c fun
  |.gh _ (.st V) H=> .opt (EE (α:=V.den) H id) fun y=>k ((V.cells y).drop b)
  |_=> .fail
 |.ge c id d b=> .get c fun
  |.gh _ (.bf V) H=> .opt (EE (α:=List V.den) H id) fun l=> .opt (nth (α:=V.den) l d) fun y=>k ((V.cells y).drop b)
  |_=> .fail
 |_=> .fail
def EF(σ:Ty)(c:Nat)(x:Option (Nat×Nat×Nat))(k:List σ.den→HM):HM:=
 .get c fun
  |.gh _ K H=>match gu K (.bf (.data σ)) H,σ.bH with
   |some H,true=> .opt (gsL H x) k
   |_,_=> .fail
  |_=> .fail
def WS(σ:Ty)(c:Nat)(x:Option (Nat×Nat×Nat))(k:List σ.den→HM):HM:=
 .get c fun
  |.gh true K H=>match gu K (.bf (.data σ)) H,σ.bH with
   |some H,true=> .opt (gsF H x) fun r=> .set c (.gh true (.bf (.data σ)) r.2) (k r.1)
   |_,_=> .fail
  |_=> .fail
def Xw(mark:Bool)(τ:Ty)(a:A)(k:τ.den→HM):HM:=
 match τ,a with
 |.ref σ,.v false [.ptr o d]=>match σ.bH with
  |true=> .get o fun
   |.cells b=>fh mark ((b.drop d).take σ.size) fun b=>match σ.cf b with
    |some x=>k x
    |none=> .fail
   |_=> .fail
  |false=> .fail
 |.ref σ,.v false [.zD h x c]=>match σ.bH with
  |true=>match σ.cf (((h.cells x).drop c).take σ.size)with
   |some x=>k x
   |none=> .fail
  |false=> .fail
 |.ref σ,.v false [.gp c d x]=>match σ.bH&& !mark with
  |true=>atM (.gp c d x) fun b=>match σ.cf (b.take σ.size)with
   |some x=>k x
   |none=> .fail
  |false=> .fail
 |.ref σ,.v false [.ge c id l d]=>match σ.bH&& !mark with
  |true=>atM (.ge c id l d) fun b=>match σ.cf (b.take σ.size)with
   |some x=>k x
   |none=> .fail
  |false=> .fail
 |.sl σ,.v false [.gs c x]=>match mark with
  |false=>EF σ c x k
  |true=>WS σ c x k
 |.cl f a,.v false [.clos i j]=>match decEq f i with
  |.isTrue _=>aaN mark a j k
  |.isFalse _=> .fail
 |.cl f a,.v false [.vE i h x]=>match decEq f i with
  |.isTrue _=>(match mf h a x with
   |some x=>k x
   |none=> .fail)
  |.isFalse _=> .fail
 |τ,.v g b=>match g==τ.isAgg&&τ.bH with
  |true=>fh mark b fun b=>match τ.cf b with
   |some x=>k x
   |none=> .fail
  |false=> .fail
 |_,.g6 _=> .fail
def S1(mark:Bool):(ps:List Ty)→List A→((g6 ps).den→HM)→HM
 |[],[],k=>k ()
 |[τ],[a],k=>Xw mark τ a k
 |τ::σ::r,a::as,k=>Xw mark τ a fun x=>S1 mark (σ::r) as fun y=>k (x,y)
 |_,_,_=> .fail
def J7(τ:Ty)(x:τ.den):A:=.v τ.isAgg (τ.cells x)
def wT:(ps:List Ty)→(g6 ps).den→List A
 |[],_=>[]
 |[τ],x=>[J7 τ x]
 |τ::σ::r,x=>J7 τ x.1::wT (σ::r) x.2
def aeB(τ:Ty)(x:τ.den):Bool×List C:=(τ.isAgg,τ.cells x)
def YJ:(ps:List Ty)→(g6 ps).den→List (Bool×List C)
 |[],_=>[]
 |[τ],x=>[aeB τ x]
 |τ::σ::r,x=>aeB τ x.1::YJ (σ::r) x.2
def YK(rs:List Ty)(x:(g6 rs).den):A:=
 match rs,x with
 |[τ],x=>J7 τ x
 |rs,x=> .g6 (YJ rs x)
def acj(a:List Nat):List A:=a.map fun o=> .v false [.ptr o 0]
def Vu:Ty→Bool
 |.unit=>true
 |.pair (.ref _) r=>Vu r
 |_=>false
def YL:(a:Ty)→a.den→List A
 |.pair (.ref σ) r,x=> .v false [.zD σ x.1 0]::YL r x.2
 |_,_=>[]
def VT.ok:VT→Bool
 |.data τ=>τ.bH
 |.pair a b=>a.ok&&b.ok
 |_=>true
def GK.ok:GK→Bool
 |.st V=>V.ok
 |.bf V=>V.ok
 |.mp _ V=>V.ok
def WT(mark:Bool)(V:VT)(a:A)(k:V.den→HM):HM:=
 match V,a with
 |.data τ,a=>Xw mark τ a k
 |V,.v g b=>match g==V.isAgg&&V.ok with
  |true=>fh mark b fun b=>match V.cf b with
   |some x=>k x
   |none=> .fail
  |false=> .fail
 |_,.g6 _=> .fail
def Vv(mark:Bool):(ps:List VT)→List A→((pR ps).den→HM)→HM
 |[],[],k=>k ()
 |[τ],[a],k=>WT mark τ a k
 |τ::σ::r,a::as,k=>WT mark τ a fun x=>Vv mark (σ::r) as fun y=>k (x,y)
 |_,_,_=> .fail
def vF(V:VT)(x:V.den):A:=.v V.isAgg (V.cells x)
def rz:(ps:List VT)→(pR ps).den→List A
 |[],_=>[]
 |[τ],x=>[vF τ x]
 |τ::σ::r,x=>vF τ x.1::rz (σ::r) x.2
def Dy:(ps:List VT)→(pR ps).den→List (Bool×List C)
 |[],_=>[]
 |[τ],x=>[(τ.isAgg,τ.cells x)]
 |τ::σ::r,x=>(τ.isAgg,τ.cells x.1)::Dy (σ::r) x.2
def tm(rs:List VT)(x:(pR rs).den):A:=
 match rs,x with
 |[τ],x=>vF τ x
 |rs,x=> .g6 (Dy rs x)
def aaO(wr:Bool):(l:List (Nat×GK))→(ej l→HM)→HM
 |[],k=>k ()
 |(c,K)::r,k=> .get c fun
  |.gh a b H=>match gu b K H,(!wr||a)with
   |some H,true=>aaO wr r fun y=>k (H,y)
   |_,_=> .fail
  |_=> .fail
def Vw:(l:List (Nat×GK))→ej l→HM→HM
 |[],_,k=>k
 |(c,K)::r,x,k=> .set c (.gh true K x.1) (Vw r x.2 k)
def EG(l:List Nat):Bool:=match l with
 |[]=>true
 |c::r=> !(r.contains c)&&EG r
def ack(E:cT)(as:List A):HM:=
 match EG ((E.ws++E.os).map (·.1))with
 |true=>Vv true E.ps as fun x=>aaO true E.ws fun a=>aaO false E.os fun os=>
  .opt (E.F x a os) fun r=>Vw E.ws r.2 (.ret (tm E.rs r.1))
 |false=> .fail
def Qc(X:Cx)(new:Nat)(f:FuncId)(as:List A):HM:=
 match bP f X.owns with
 |some E=>match bP f X.acK with
  |none=>S1 (!E.e.flat) E.ps as fun x=> .opt (E.F x) fun l=> .set new .tok (.ret (.v false [.sl E.e l (.own new)]))
  |some c=>match E.e.flat&&Nat.blt 0 E.e.size with
   |true=>S1 false E.ps as fun x=> .opt (E.F x) fun l=> .get c fun
    |.gh true K H=>match gu K (.bf (.data E.e)) H with
     |some H=> .opt (gad (α:=E.e.den) H l) fun r=> .set c (.gh true (.bf (.data E.e)) r.1) (.ret (.v false [.gs c r.2]))
     |none=> .fail
    |_=> .fail
   |false=> .fail
 |none=>match bP f X.calls with
  |some E=>S1 (!(E.rs.all Ty.flat)) E.ps as fun x=> .opt (E.F x) fun r=> .ret (YK E.rs r)
  |none=>match bP f X.stats with
   |some E=>ack E as
   |none=> .fail
def YM:Value→A
 |.bool b=> .v false [.bool b]
 |.int k n=> .v false [.int k n]
 |.string s=> .v false [.str s.data.toList]
 |.slice none 0 0=> .v false [.nils]
 |.nilFunc=> .v false [.nilfn]
 |.pointer none=> .v false [.nilp]
 |_=>aA
def sV(env:Env):Operand→A
 |.tmp t=>look aA t env
 |.const v=>YM v
 |.global _=>aA
 |.func f=> .v false [.clos f []]
def qK(k:IntKind)(n:Int):HM:=.ret (.v false [.int k n])
def oW(b:Bool):HM:=.ret (.v false [.bool b])
def jq(c:C):HM:=.ret (.v false [c])
def EH:List UInt8→List UInt8→Bool:=Op.bytesLess
def J8(op:BinOp)(x y:A):HM:=
 match x,y with
 |.v false [.int k a],.v false [.int c b]=>
  match op with
  |.shl=> .opt (Dx k a b) (qK k)
  |.shr=> .opt (Rb k a b) (qK k)
  |op=>match decEq k c with
   |.isFalse _=> .fail
   |.isTrue _=>match op with
    |.add=>qK k (k.wrap (a+b))
    |.sub=>qK k (k.wrap (a -b))
    |.mul=>qK k (k.wrap (a*b))
    |.quo=> .opt (qt k a b) (qK k)
    |.rem=> .opt (rm a b) (qK k)
    |.eql=>oW (a==b)
    |.neq=>oW (a !=b)
    |.lss=>oW (decide (a<b))
    |.leq=>oW (decide (a≤b))
    |.gtr=>oW (decide (a>b))
    |.geq=>oW (decide (a≥b))
    |op=>qK k (EC op k a b)
 |.v false [.str a],.v false [.str b]=>
  match op with
  |.add=> .opt (cat a b) fun s=>jq (.str s)
  |.eql=>oW (a==b)
  |.neq=>oW (!(a==b))
  |.lss=>oW (EH a b)
  |.leq=>oW (EH a b||a==b)
  |.gtr=>oW (!(EH a b||a==b))
  |.geq=>oW (!(EH a b))
  |_=> .fail
 |.v false [.bool a],.v false [.bool b]=>
  match op with
  |.eql=>oW (a==b)
  |.neq=>oW (!(a==b))
  |_=> .fail
 |_,_=> .fail
def unA(op:UnOp)(x:A):HM:=
 match op,x with
 |.neg,.v false [.int k a]=>qK k (k.wrap (0 -a))
 |.xor,.v false [.int k a]=>qK k (EC .xor k (if k.signed then -1 else k.max) a)
 |.not,.v false [.bool b]=>oW (!b)
 |_,_=> .fail
def eqC(τ:Ty):C→C→Option Bool
 |.int k a,.int c b=>match τ with
  |.int q=>match decEq k q,decEq c q with
   |.isTrue _,.isTrue _=>some (a==b)
   |_,_=>none
  |_=>none
 |.bool a,.bool b=>match τ with
  |.bool=>some (a==b)
  |_=>none
 |.str a,.str b=>match τ with
  |.str=>some (a==b)
  |_=>none
 |_,_=>none
def aaP:List Ty→List C→List C→Option Bool
 |[],[],[]=>some true
 |τ::τs,c::g,d::h=>match eqC τ c d,aaP τs g h with
  |some a,some b=>some (a&&b)
  |_,_=>none
 |_,_,_=>none
def eqA(op:BinOp)(d:TD)(cs:List C)(y:A):HM:=
 match d.eq,y with
 |τ::τs,.v true a=>match aaP (τ::τs) cs a with
  |some b=>match op with
   |.eql=>oW b
   |.neq=>oW (!b)
   |_=> .fail
  |none=> .fail
 |_,_=> .fail
def acM(op:BinOp)(d:TD)(t:Tok)(y:A):HM:=
 match d.desc,y with
 |.slice _,.v false [.nils]=>match t,op with
  |.nn,.eql=>oW false
  |.nn,.neq=>oW true
  |.nl,.eql=>oW true
  |.nl,.neq=>oW false
  |_,_=> .fail
 |_,_=> .fail
def Hp(sl:Bool)(op:BinOp)(d:TD)(nil:Bool)(y:A):HM:=
 match sl,d.desc,y with
 |true,.slice _,.v false [.nils]=>go
 |false,.ptr _,.v false [.nilp]=>go
 |_,_,_=> .fail
 where go:HM:=match op with
 |.eql=>oW nil
 |.neq=>oW (!nil)
 |_=> .fail
def C.known:C→Bool
 |.undef=>false
 |_=>true
def oX(cs:List C)(off:Nat)(new:List C):List C:=cs.take off++new++cs.drop (off+new.length)
def EI(a:Nat→Option (Nat×Nat)):List C→List (Nat×A)→Option (List C)
 |cs,[]=>some cs
 |cs,(i,.v _ b)::r=>match a i with
  |some (c,size)=>match bh b.length size&&Nat.ble (c+size) cs.length&&b.all C.known with
   |true=>EI a (oX cs c b) r
   |false=>none
  |none=>none
 |_,(_,.g6 _)::_=>none
def nZ{α β:Type}(f:α→Option β):List α→Option (List β)
 |[]=>some []
 |a::r=>match f a with
  |some b=>match nZ f r with
   |some c=>some (b::c)
   |none=>none
  |none=>none
def Mh(τ:Ty):Nat→List (Nat×A)→(List τ.den→HM)→HM
 |_,[],k=>k []
 |n,(i,.v g a)::r,k=>match bh i n&&(g==τ.isAgg)&&a.all C.known with
  |true=>fh true a fun a=>match τ.cf a with
   |some x=>Mh τ (n+1) r fun l=>k (x::l)
   |none=> .fail
  |false=> .fail
 |_,(_,.g6 _)::_,_=> .fail
def sub(off size:Nat)(cs:List C):Option (List C):=
 match Nat.ble (off+size) cs.length with
 |true=>some ((cs.drop off).take size)
 |false=>none
def partOf(agg:Bool)(size off:Nat)(cs:List C)(k:A→HM):HM:=
 match sub off size cs with
 |some cs=>match agg,cs with
  |true,cs=>k (.v true cs)
  |false,[c]=>k (.v false [c])
  |_,_=> .fail
 |none=> .fail
def Mi(k:IntKind):List C→Option (List Int)
 |[]=>some []
 |.int a n::r=>match decEq k a with
  |.isTrue _=>match Mi k r with
   |some l=>some (n::l)
   |none=>none
  |.isFalse _=>none
 |_=>none
def Mj(d:TD)(a:A):HM:=
 match a with
 |.v false [.ptr o b]=> .get o fun
  |.cells g=>partOf d.agg d.size b g .ret
  |_=> .fail
 |.v false [.zD τ x c]=>partOf d.agg d.size c (τ.cells x) .ret
 |.v false [.OZ o i c]=> .get o fun
  |.row e l=> .opt (l[i]?) fun x=>partOf d.agg d.size c (e.cells x) .ret
  |.pS e l=> .opt (l[i]?) fun x=>partOf d.agg d.size c (e.cells x) .ret
  |_=> .fail
 |.v false [.YG o b len i]=>match d.desc with
  |.int k=> .get o fun
   |.cells g=>match sub b len g with
    |some g=>match Mi k g with
     |some l=> .opt (l[i]?) (qK k)
     |none=> .fail
    |none=> .fail
   |_=> .fail
  |_=> .fail
 |.v false [.gp c b x]=>atM (.gp c b x) fun g=>partOf d.agg d.size 0 g .ret
 |.v false [.ge c id h b]=>atM (.ge c id h b) fun g=>partOf d.agg d.size 0 g .ret
 |_=> .fail
def Vx(d:TD)(a x:A):HM:=
 match a,x with
 |.v false [.ptr o h],.v g b=>match bh b.length d.size&&b.all C.known&&(g==d.agg)with
  |true=> .get o fun
   |.cells j=>match Nat.ble (h+b.length) j.length with
    |true=> .set o (.cells (oX j h b)) (.ret nP)
    |false=> .fail
   |_=> .fail
  |false=> .fail
 |.v false [.OZ o i c],.v g b=>match bh b.length d.size&&b.all C.known&&(g==d.agg)with
  |true=>fh true b fun b=> .get o fun
   |.row e l=> .opt (l[i]?) fun x=>match Nat.ble (c+b.length) e.size with
    |true=>match e.cf (oX (e.cells x) c b)with
     |some y=> .set o (.row e (l.set i y)) (.ret nP)
     |none=> .fail
    |false=> .fail
   |_=> .fail
  |false=> .fail
 |.v false [.gp c h x],.v g b=>match bh b.length d.size&&b.all C.known&&(g==d.agg)with
  |true=>fh true b fun b=> .opt x fun id=> .get c fun
   |.gh true (.st V) H=> .opt (EE (α:=V.den) H id) fun y=>match Nat.ble (h+b.length) V.size&&V.ok with
    |true=>match V.cf (oX (V.cells y) h b)with
     |some z=> .opt (J6 (α:=V.den) H id z) fun H=> .set c (.gh true (.st V) H) (.ret nP)
     |none=> .fail
    |false=> .fail
   |_=> .fail
  |false=> .fail
 |.v false [.ge c id k h],.v g b=>match bh b.length d.size&&b.all C.known&&(g==d.agg)with
  |true=>fh true b fun b=> .get c fun
   |.gh true (.bf V) H=> .opt (EE (α:=List V.den) H id) fun l=> .opt (nth (α:=V.den) l k) fun y=>match Nat.ble (h+b.length) V.size&&V.ok with
    |true=>match V.cf (oX (V.cells y) h b)with
     |some z=> .opt (J6 (α:=List V.den) H id (l.set k z)) fun H=> .set c (.gh true (.bf V) H) (.ret nP)
     |none=> .fail
    |false=> .fail
   |_=> .fail
  |false=> .fail
 |_,_=> .fail
def Rc:Operand→Operand→Bool
 |.tmp a,.tmp b=>bh a b
 |_,_=>false
def acN(x:A):HM:=
 match x with
 |.v false [.sl _ l _]=>qK .i64 l.length
 |.v false [.nils]=>qK .i64 0
 |.v false [.gs _ x]=>qK .i64 (gsN x)
 |.v false [.vec o]=> .get o fun
  |.row _ l=>qK .i64 l.length
  |.pS _ l=>qK .i64 l.length
  |_=> .fail
 |_=> .fail
def Xx(mark:Bool)(e:Ty)(x:A)(k:List e.den→HM):HM:=
 match x with
 |.v false [.gs c y]=>match mark with
  |false=>EF e c y k
  |true=> .fail
 |.v false [c]=>kr mark c fun
  |.sl a m _=>match lM a e m with
   |some m=>k m
   |none=> .fail
  |.nils=>k []
  |_=> .fail
 |_=> .fail
def Rd(new:Nat)(e:Ty)(bytes:Nat)(s x:A):HM:=
 Xx false e x fun m=>
  match s with
  |.v false [.nils]=> .opt (app bytes [] m) fun l=> .set new .tok (jq (.sl e l (.own new)))
  |.v false [.sl a l (.own o)]=>match lM a e l with
   |some l=> .get o fun
    |.tok=> .opt (app bytes l m) fun l=> .set o .dead (.set new .tok (jq (.sl e l (.own new))))
    |_=> .fail
   |none=> .fail
  |.v false [.vec o]=> .get o fun
   |.row a l=>match lM a e l with
    |some l=> .opt (app bytes l m) fun l=> .set o .dead (.set new .tok (jq (.sl e l (.own new))))
    |none=> .fail
   |_=> .fail
  |_=> .fail
def aaQ(V:VT)(x:A)(k:List V.den→HM):HM:=
 match V,x with
 |.data e,x=>Xx false e x k
 |V,.v false [.gs c y]=> .get c fun
  |.gh _ K H=>match gu K (.bf V) H with
   |some H=> .opt (gsL H y) k
   |none=> .fail
  |_=> .fail
 |V,.v false [.nils]=>k []
 |_,_=> .fail
def Re(V:VT)(c bytes:Nat)(y:Option (Nat×Nat×Nat))(x:A):HM:=
 aaQ V x fun m=> .get c fun
  |.gh true K H=>match gu K (.bf V) H with
   |some H=> .opt (gsA bytes H y m) fun r=> .set c (.gh true (.bf V) r.1) (jq (.gs c r.2))
   |none=> .fail
  |_=> .fail
def aaR:A→Bool
 |.v false [.sl _ _ _]=>true
 |.v false [.nils]=>true
 |.v false [.gs _ _]=>true
 |.v false [.vec _]=>true
 |_=>false
def YN(V:VT)(c:Nat)(y:Option (Nat×Nat×Nat))(x:A):HM:=
 match aaR x with
 |true=>aaQ V x fun m=> .get c fun
  |.gh true K H=>match gu K (.bf V) H with
   |some H=> .opt (gsC (α:=V.den) H y m) fun r=> .set c (.gh true (.bf V) r.1) (qK .i64 r.2)
   |none=> .fail
  |_=> .fail
 |false=> .fail
def aaS(X:Cx)(t:TypeId)(s:A):Option (Nat×Option (Nat×Nat×Nat)):=
 match s with
 |.v false [.gs c y]=>some (c,y)
 |.v false [.nils]=>match bP t X.aks with
  |some c=>some (c,none)
  |none=>none
 |_=>none
def zG(f:Int→Int→Int)(k:IntKind):Int→List A→HM
 |n,[]=>qK k n
 |n,.v false [.int a m]::r=>match decEq k a with
  |.isTrue _=>zG f k (f n m) r
  |.isFalse _=> .fail
 |_,_=> .fail
def wU(X:Cx)(t:TypeId)(n:Nat):Bool:=
 match bP t X.tt with
 |some d=>bh n d.size&&Nat.blt 0 n
 |none=>false
def YO(X:Cx)(a:TypeId)(o:Nat)(x:A):HM:=
 match aaR x with
 |true=> .get o fun
  |.row e l=>match wU X a e.size with
   |true=>Xx false e x fun m=> .set o (.row e (zE l 0 (m.take l.length))) (qK .i64 ((min m.length l.length:Nat):Int))
   |false=> .fail
  |_=> .fail
 |false=> .fail
def Mk(X:Cx)(new:Nat)(b:Builtin)(ts:List TypeId)(as:List A):HM:=
 match b,ts,as with
 |.len,[t],[x]=>match bP t X.tt with
  |some d=>match d.desc,x with
   |.slice _,x=>acN x
   |.str,.v false [.str s]=>qK .i64 s.length
   |.array n _,_=>qK .i64 n
   |_,_=> .fail
  |none=> .fail
 |.append,[t,u],[s,x]=>match bP t X.tt,bP u X.tt with
  |some d,some g=>match d.desc,g.desc with
   |.slice e,.slice _=>match bP e X.tt with
    |some a=>match aaS X t s with
     |some (c,y)=>match bP e X.zF,Nat.blt 0 a.size with
       |some V,true=>Re V c a.bytes y x
       |_,_=> .fail
     |none=>match a.ty with
      |some τ=>match Nat.blt 0 a.size&&a.zero with
        |true=>Rd new τ a.bytes s x
        |false=> .fail
      |none=> .fail
    |none=> .fail
   |_,_=> .fail
  |_,_=> .fail
 |.copy,[t,u],[s,x]=>match bP t X.tt,bP u X.tt with
  |some d,some g=>match d.desc,g.desc with
   |.slice e,.slice _=>match aaS X t s with
    |some (c,y)=>match bP e X.zF with
      |some V=>YN V c y x
      |none=> .fail
    |none=>match s with
      |.v false [.vec o]=>YO X e o x
      |_=> .fail
   |_,_=> .fail
  |_,_=> .fail
 |.max,_,.v false [.int k n]::r=>zG imax k n r
 |.min,_,.v false [.int k n]::r=>zG pT k n r
 |_,_,_=> .fail
def YP(x:Option A)(d:Int):Option Int:=
 match x with
 |none=>some d
 |some (.v false [.int _ n])=>some n
 |_=>none
def WU(V a:VT):Bool:=match decEq V a with
 |.isTrue _=>true
 |.isFalse _=>false
def Vy(X:Cx)(d:TD)(x:A)(lo g mx:Option A):HM:=
 match d.desc,mx with
 |.str,none=>match x with
  |.v false [.str s]=>match YP lo 0,YP g s.length with
   |some a,some b=> .opt (slc s a b) fun s=>jq (.str s)
   |_,_=> .fail
  |_=> .fail
 |.slice h,none=>match x with
  |.v false [.gs c y]=>match bP h X.zF,YP lo 0,YP g (gsN y)with
   |some i,some a,some b=> .get c fun
    |.gh _ (.bf V) _=>match WU V i,Nat.blt 0 V.size with
     |true,true=> .opt (gsS y a b) fun z=>jq (.gs c z)
     |_,_=> .fail
    |_=> .fail
   |_,_,_=> .fail
  |.v false [c]=>kr true c fun
   |.sl e l _=>match wU X h e.size with
    |true=>match YP lo 0,YP g l.length with
     |some a,some b=> .opt (slc l a b) fun l=>jq (.sl e l .no)
     |_,_=> .fail
    |false=> .fail
   |_=> .fail
  |_=> .fail
 |.slice h,some m=>match x with
  |.v false [c]=>kr true c fun
   |.sl e l _=>match wU X h e.size with
    |true=>match YP lo 0,(match g with |some b=>YP (some b) 0 |none=>none),YP (some m) 0 with
     |some a,some b,some m=> .opt (slc l b m) fun _=> .opt (slc l a b) fun l=>jq (.sl e l .no)
     |_,_,_=> .fail
    |false=> .fail
   |_=> .fail
  |_=> .fail
 |_,_=> .fail
def EJ(d:TD)(j:Nat):Option (TypeId×Nat):=
 match d.desc with
 |.struct a=>a[j]?
 |_=>none
def Rf(a:A)(n:Nat):HM:=
 match a with
 |.v false [.ptr o b]=> .get o fun
  |.dead=> .fail
  |_=>jq (.ptr o (b+n))
 |.v false [.zD τ x c]=>jq (.zD τ x (c+n))
 |.v false [.OZ o i c]=> .get o fun
  |.row _ _=>jq (.OZ o i (c+n))
  |.pS _ _=>jq (.OZ o i (c+n))
  |_=> .fail
 |.v false [.gp c b x]=> .opt x fun id=>jq (.gp c (b+n) (some id))
 |.v false [.ge c id d b]=>jq (.ge c id d (b+n))
 |_=> .fail
def Dz(X:Cx)(d:TD)(x j:A):HM:=
 match j with
 |.v false [.int _ i]=>
  match d.desc,x with
  |.slice a,.v false [.sl e l _]=>match wU X a e.size with
   |true=> .opt (idx l i) fun y=>jq (.zD e y 0)
   |false=> .fail
  |.slice a,.v false [.gs c y]=> .get c fun
   |.gh _ (.bf V) _=>match bP a X.zF with
    |some g=>match WU V g,Nat.blt 0 V.size with
     |true,true=> .opt y fun p=> .opt (ck i p.2.2) fun n=>jq (.ge c p.1 (p.2.1+n) 0)
     |_,_=> .fail
    |none=> .fail
   |_=> .fail
  |.slice a,.v false [.vec o]=> .get o fun
   |.row e l=>match wU X a e.size with
    |true=> .opt (ck i l.length) fun n=>jq (.OZ o n 0)
    |false=> .fail
   |.pS e l=>match wU X a e.size with
    |true=> .opt (ck i l.length) fun n=>jq (.OZ o n 0)
    |false=> .fail
   |_=> .fail
  |.array len e,.v false [.ptr o b]=>match bP e X.tt with
   |some h=>match bh h.size 1&&Nat.blt 1 len with
    |true=> .get o fun
     |.cells _=> .opt (ck i len) fun n=>jq (.YG o b len n)
     |_=> .fail
    |false=> .fail
   |none=> .fail
  |_,_=> .fail
 |_=> .fail
def YQ(d:TD)(x a:A):HM:=
 match d.desc,x,a with
 |.str,.v false [.str s],.v false [.int _ i]=> .opt (acI s i) (qK .u8)
 |_,_,_=> .fail
def Ml(x:A)(j:Nat):HM:=
 match x with
 |.g6 ps=>match ps[j]? with
  |some (g,a)=> .ret (.v g a)
  |none=> .fail
 |_=> .fail
def Rg(cap:List A):Option (List Nat):=
 nZ (fun |.v false [.ptr o 0]=>some o |_=>none) cap
def Mm:List A→(List (Nat×Nat)→List Nat→HM)→HM
 |[],k=>k [] []
 |.v false [.gp c b z]::r,k=> .opt z fun id=>Mm r fun l a=>k ((c,b)::l) (id::a)
 |_,_=> .fail
def Rh:List (Nat×Nat)→List Nat→List A
 |(c,b)::l,id::a=> .v false [.gp c b (some id)]::Rh l a
 |_,_=>[]
def Mn:List (Nat×Nat)→Nat→List Nat→(List A→HM)→HM
 |[],_,_,k=>k []
 |(c,b)::l,i,a,k=> .opt (nth a i) fun id=>Mn l (i+1) a fun r=>k (.v false [.gp c b (some id)]::r)
def fU(X:Cx)(t:TypeId)(k:TD→HM):HM:=
 match bP t X.tt with
 |some d=>k d
 |none=> .fail
def DA(d:TD)(k:Ty→HM):HM:=
 match d.ty with
 |some τ=>k τ
 |none=> .fail
def EK(X:Cx)(tk:TypeId):Option Ty:=
 match bP tk X.tt with
 |some d=>match d.desc,d.ty with
  |.int k,some (.int q)=>match decEq k q with
   |.isTrue _=>some (.int q)
   |.isFalse _=>none
  |.str,some .str=>some .str
  |.array n e,some τ=>match bP e X.tt with
   |some a=>match a.desc with
    |.int k=>match bh a.size 1&&bh τ.size n&&τ.isAgg&&τ.Ho k with
     |true=>some τ
     |false=>none
    |_=>none
   |none=>none
  |_,_=>none
 |none=>none
def zH(X:Cx)(tk a:TypeId):Option (Ty×Ty):=
 match EK X tk,bP a X.tt with
 |some k,some d=>match d.zero,d.ty with
  |true,some v=>match v.isKey with
   |true=>some (k,v)
   |false=>none
  |_,_=>none
 |_,_=>none
def wV(k v a b:Ty)(l:List (k.den×v.den)):Option (List (a.den×b.den)):=
 match decEq k a,decEq v b with
 |.isTrue h,.isTrue c=>some (h▸c▸l)
 |_,_=>none
def Ri(k v:Ty)(x b:A)(ok:Bool):HM:=
 match x,b with
 |.v false [.mp o],.v g a=>match g==k.isAgg,k.cf a with
  |true,some y=> .get o fun
   |.map c d l=>match wV c d k v l with
    |some l=>match ok with
     |true=> .ret (.g6 [(v.isAgg,v.cells ((qJ k.kP l y).getD v.zero)),(false,[.bool (qJ k.kP l y).isSome])])
     |false=> .ret (.v v.isAgg (v.cells ((qJ k.kP l y).getD v.zero)))
    |none=> .fail
   |_=> .fail
  |_,_=> .fail
 |_,_=> .fail
def Rj(k v:Ty)(x h a:A):HM:=
 match x,h,a with
 |.v false [.mp o],.v g b,.v d c=>match g==k.isAgg&&d==v.isAgg,k.cf b,v.cf c with
  |true,some y,some z=> .get o fun
   |.map i j l=>match wV i j k v l with
    |some l=> .set o (.map k v (oV k.kP l y z)) (.ret nP)
    |none=> .fail
   |_=> .fail
  |_,_,_=> .fail
 |_,_,_=> .fail
def YR(V:VT)(q:Option V.den)(ok:Bool):HM:=
 match ok with
 |true=> .ret (.g6 [(V.isAgg,V.cells (q.getD V.zero)),(false,[.bool q.isSome])])
 |false=> .ret (.v V.isAgg (V.cells (q.getD V.zero)))
def Mo(k:Ty)(V:VT)(x d:A)(ok:Bool):HM:=
 match x,d with
 |.v false [.gm c z],.v b a=>match b==k.isAgg,k.cf a with
  |true,some y=> .opt z fun id=> .get c fun
   |.gh _ K H=>match gu K (.mp k V) H with
    |some H=> .opt (EE (α:=List (k.den×V.den)) H id) fun l=>YR V (qJ k.kP l y) ok
    |none=> .fail
   |_=> .fail
  |_,_=> .fail
 |_,_=> .fail
def Vz(c:Nat)(k:Ty)(V:VT):HM:=
 .get c fun
  |.gh true K H=>match gu K (.mp k V) H with
   |some H=> .set c (.gh true (.mp k V) (fH (α:=List (k.den×V.den)) H [])) (jq (.gm c (some H.length)))
   |none=> .fail
  |_=> .fail
def Mp(k:Ty)(V:VT)(x i a:A):HM:=
 match x,i,a with
 |.v false [.gm c j],.v h d,.v g b=>match h==k.isAgg&&b.all C.known&&(g==V.isAgg)&&V.ok,k.cf d with
  |true,some y=>fh true b fun b=> .opt j fun id=> .get c fun
   |.gh true K H=>match gu K (.mp k V) H,V.cf b with
    |some H,some z=> .opt (EE (α:=List (k.den×V.den)) H id) fun l=> .opt (J6 (α:=List (k.den×V.den)) H id (oV k.kP l y z)) fun H=> .set c (.gh true (.mp k V) H) (.ret nP)
    |_,_=> .fail
   |_=> .fail
  |_,_=> .fail
 |_,_,_=> .fail
def Mq(k:Ty)(V:VT)(x d:A):HM:=
 match x,d with
 |.v false [.gm c g],.v b a=>match b==k.isAgg,k.cf a with
  |true,some y=> .opt g fun id=> .get c fun
   |.gh true K H=>match gu K (.mp k V) H with
    |some H=> .opt (EE (α:=List (k.den×V.den)) H id) fun l=> .opt (J6 (α:=List (k.den×V.den)) H id (J5 k.kP l y)) fun H=> .set c (.gh true (.mp k V) H) (.ret nP)
    |none=> .fail
   |_=> .fail
  |_,_=> .fail
 |_,_=> .fail
def aeC:A→Bool
 |.v false [.gm _ _]=>true
 |_=>false
def BB(X:Cx)(tk a:TypeId):Option (Ty×VT):=
 match EK X tk,bP a X.zF with
 |some k,some V=>some (k,V)
 |_,_=>none
def acO:A→Option (Nat×Nat×Option Nat)
 |.v false [.gp c o z]=>some (c,o,z)
 |_=>none
def YS(X:Cx)(op:BinOp)(d:TD)(c o:Nat)(x:Option Nat)(q:Nat×Nat×Option Nat):HM:=
 match d.desc,bh c q.1&&bh o q.2.1 with
 |.ptr g,true=>fU X g fun a=>match Nat.blt 0 a.size with
  |true=> .get c fun
   |.gh _ (.st V) H=> .opt (YH (α:=V.den) H x q.2.2) fun b=>match op with
    |.eql=>oW b
    |.neq=>oW (!b)
    |_=> .fail
   |_=> .fail
  |false=> .fail
 |_,_=> .fail
def vA:A→HM
 |.v g a=> .ret (.v g a)
 |.g6 ps=> .ret (.g6 ps)
theorem WV(a:A):vA a= .ret a:=by cases a<;>rfl
def YC(X:Cx)(new:Nat)(ρ:Operand→A)(o:Op):HM:=
 match o with
 |.move x |.assign x=>vA (ρ x)
 |.pick c a b=>match ρ c with
   |.v false [.bool t]=> .br t (vA (ρ a)) (vA (ρ b))
   |_=> .fail
 |.alloc t=>fU X t fun d=>match bP t X.YI,bP t X.zF with
  |some c,some V=> .get c fun
   |.gh true K H=>match gu K (.st V) H with
     |some H=> .set c (.gh true (.st V) (fH (α:=V.den) H V.zero)) (jq (.gp c 0 (some H.length)))
     |none=> .fail
   |_=> .fail
  |some _,none=> .fail
  |none,_=>match d.zero with
   |true=>DA d fun τ=> .set new (.cells τ.i6) (jq (.ptr new 0))
   |false=> .fail
 |.box t x=>fU X t fun d=>match ρ x with
   |.v g p=>match bh p.length d.size&&p.all C.known&&(g==d.agg)with
    |true=>match bP t X.YI,bP t X.zF with
     |some c,some V=>fh true p fun p=> .get c fun
      |.gh true K H=>match gu K (.st V) H,V.cf p,V.ok with
       |some H,some z,true=> .set c (.gh true (.st V) (fH (α:=V.den) H z)) (jq (.gp c 0 (some H.length)))
       |_,_,_=> .fail
      |_=> .fail
     |some _,none=> .fail
     |none,_=> .set new (.cells p) (jq (.ptr new 0))
    |false=> .fail
   |_=> .fail
 |.build t parts=>fU X t fun d=>match d.desc,d.zero with
   |.struct L,false=>match bP t X.zF with
     |some V=>match nZ (fun f=>match bP f.1 X.tt with |some E=>some (f.2,E.size)|none=>none) L with
      |some h=>match EI (fun i=>h[i]?) V.i6 (parts.toList.map fun(i,x)=>(i,ρ x))with
       |some p=> .ret (.v true p)
       |none=> .fail
      |none=> .fail
     |none=> .fail
   |.struct L,true=>DA d fun τ=>
     match nZ (fun f=>match bP f.1 X.tt with |some E=>some (f.2,E.size)|none=>none) L with
     |some h=>match EI (fun i=>h[i]?) τ.i6 (parts.toList.map fun(i,x)=>(i,ρ x))with
      |some p=> .ret (.v true p)
      |none=> .fail
     |none=> .fail
   |.array n e,true=>DA d fun τ=>fU X e fun r=>
     match EI (fun i=>match Nat.blt i n with |true=>some (i*r.size,r.size)|false=>none) τ.i6 (parts.toList.map fun(i,x)=>(i,ρ x))with
     |some p=> .ret (.v true p)
     |none=> .fail
   |_,_=> .fail
 |.buildSlice t len parts=>fU X t fun d=>match d.desc with
   |.slice e=>fU X e fun r=>match bP t X.aks,len,parts.toList with
    |some F,0,[]=>match bP e X.zF with
     |some V=> .get F fun
      |.gh true K H=>match gu K (.bf V) H with
       |some H=> .set F (.gh true (.bf V) (fH (α:=List V.den) H [])) (jq (.gs F (some (H.length,0,0))))
       |none=> .fail
      |_=> .fail
     |none=> .fail
    |_,_,_=>DA r fun τ=>match bh parts.size len&&Nat.ble (len*r.size) 16777216&&Nat.blt 0 r.size&&(len==0||r.zero)with
     |true=>Mh τ 0 (parts.toList.map fun(i,x)=>(i,ρ x)) fun l=> .set new .tok (jq (.sl τ l (.own new)))
     |false=> .fail
   |_=> .fail
 |.load t a=>fU X t fun d=>Mj d (ρ a)
 |.store t a x=>fU X t fun d=>Vx d (ρ a) (ρ x)
 |.nilCheck x=>Rf (ρ x) 0
 |.binOp D t x y _=>match ρ x with
   |.v false [.bool b]=>fU X t fun d=>match d.desc with
     |.bool=>J8 D (.v false [.bool b]) (ρ y)
     |_=> .fail
   |.v true p=>fU X t fun d=>eqA D d p (ρ y)
   |.v false [.sl _ _ u]=>fU X t fun d=>acM D d u (ρ y)
   |.v false [.gp c o z]=>fU X t fun d=>match acO (ρ y)with
     |some q=>YS X D d c o z q
     |none=>Hp false D d z.isNone (ρ y)
   |.v false [.gs _ z]=>fU X t fun d=>Hp true D d z.isNone (ρ y)
   |a=>J8 D a (ρ y)
 |.unOp D _ x=>unA D (ρ x)
 |.convert src J x=>fU X src fun O=>fU X J fun d=>match d.desc,ρ x with
   |.int k,.v false [.int _ n]=>qK k (k.wrap n)
   |.str,.v false [c]=>match O.desc with
     |.slice e=>fU X e fun r=>match r.desc with
      |.int .u8=>kr false c fun
       |.sl (.int .u8) l _=>jq (.str (bytesOf l))
       |.nils=>jq (.str [])
       |_=> .fail
      |_=> .fail
     |_=> .fail
   |_,_=> .fail
 |.makeFunc (.func f) first captured=>match first.size,Rg (captured.toList.map ρ)with
   |0,some I=>jq (.clos f I)
   |_,_=>Mm (first.toList.map ρ) fun l a=>Mm (captured.toList.map ρ) fun m b=>jq (.gcl f l m (some (a,b)))
 |.makeSlice t l c=>fU X t fun d=>match d.desc with
   |.slice e=>fU X e fun r=>match bP t X.YI,bP e X.zF with
    |some F,some V=>match Rc l c,ρ l,Nat.blt 0 V.size with
     |true,.v false [.int _ n],true=> .get F fun
      |.gh true K H=>match gu K (.bf V) H with
       |some H=> .opt (ED r.bytes n) fun n=> .set F (.gh true (.bf V) (fH (α:=List V.den) H (aY n V.zero))) (jq (.gs F (some (H.length,0,n))))
       |none=> .fail
      |_=> .fail
     |_,_,_=> .fail
    |some _,none=> .fail
    |none,_=>match r.zero&&Nat.blt 0 r.size with
     |true=>DA r fun τ=>match Rc l c,ρ l,ρ c with
      |true,.v false [.int _ n],_=> .opt (ED r.bytes n) fun n=> .set new (.row τ (aY n τ.zero)) (jq (.vec new))
      |false,.v false [.int _ 0],.v false [.int _ n]=> .opt (ED r.bytes n) fun _=> .set new .tok (jq (.sl τ [] (.own new)))
      |_,_,_=> .fail
     |false=> .fail
   |_=> .fail
 |.slice t x Q P mx=>fU X t fun d=>Vy X d (ρ x) (Q.map ρ) (P.map ρ) (mx.map ρ)
 |.fieldAddr s x j=>fU X s fun d=>match EJ d j with
   |some f=>fU X f.1 fun E=>match Nat.blt 0 E.size with
     |true=>Rf (ρ x) f.2
     |false=> .fail
   |none=> .fail
 |.field s x j=>fU X s fun d=>match EJ d j with
   |some f=>fU X f.1 fun E=>match ρ x with
     |.v true p=>partOf E.agg E.size f.2 p .ret
     |_=> .fail
   |none=> .fail
 |.indexAddr t x w=>fU X t fun d=>Dz X d (ρ x) (ρ w)
 |.index t x w=>fU X t fun d=>YQ d (ρ x) (ρ w)
 |.makeMap t none=>fU X t fun d=>match d.desc with
   |.map u B=>match bP t X.YI with
    |some c=>match BB X u B with
     |some (k,V)=>Vz c k V
     |none=> .fail
    |none=>match zH X u B with
     |some (k,v)=> .set new (.map k v []) (jq (.mp new))
     |none=> .fail
   |_=> .fail
 |.lookup t x w ok=>fU X t fun d=>match d.desc with
   |.map u B=>match aeC (ρ x)with
    |true=>match BB X u B with
     |some (k,V)=>Mo k V (ρ x) (ρ w) ok
     |none=> .fail
    |false=>match zH X u B with
     |some (k,v)=>Ri k v (ρ x) (ρ w) ok
     |none=> .fail
   |_=> .fail
 |.mapUpdate t m w x=>fU X t fun d=>match d.desc with
   |.map u B=>match aeC (ρ m)with
    |true=>match BB X u B with
     |some (k,V)=>Mp k V (ρ m) (ρ w) (ρ x)
     |none=> .fail
    |false=>match zH X u B with
     |some (k,v)=>Rj k v (ρ m) (ρ w) (ρ x)
     |none=> .fail
   |_=> .fail
 |.extract x j=>Ml (ρ x) j
 |.call c=>match c.callee with
   |.builtin .delete=>match c.argTypes.toList,c.args.toList.map ρ with
     |t::_,[x,w]=>fU X t fun d=>match d.desc with
      |.map u B=>match BB X u B with
       |some (k,V)=>Mq k V x w
       |none=> .fail
      |_=> .fail
     |_,_=> .fail
   |.builtin b=>Mk X new b c.argTypes.toList (c.args.toList.map ρ)
   |.value f=>match ρ f with
     |.v false [.clos f I]=>Qc X new f (c.args.toList.map ρ++acj I)
     |.v false [.vE f a x]=>match Vu a with
      |true=>Qc X new f (c.args.toList.map ρ++YL a x)
      |false=> .fail
     |.v false [.gcl f l m x]=> .opt x fun x=>Mn l 0 x.1 fun M=>Mn m 0 x.2 fun N=>Qc X new f (M++c.args.toList.map ρ++N)
     |_=> .fail
   |.invoke _ _=> .fail
 |_=> .fail
structure St where
 env:Env
 next:Nat
 heap:aP
def DB(env:Env)(b:Option Tmp)(a:A):Env:=
 match b with
 |some d=>(d,a)::env
 |none=>env
def Qd(X:Cx)(a:Option Tmp):Bool:=
 match a with
 |some d=>Nat.blt d X.nt
 |none=>true
def opK{R:Type}(X:Cx)(new:Nat)(o:Oper)(s:St)(K:St→Log→Option R):Option R:=
 (YC X new (sV s.env) o.op).run s.next s.heap [] fun a h L=>K { s with env:=DB s.env o.dst a,heap:=h } L
def Mr(a:List Oper)(j:Nat):Option Tmp:=
 match a[j]? with
 |some o=>o.dst
 |none=>none
def O0{R:Type}(X:Cx)(a:List Oper)(K:St→List Log→Option R):Nat→List Oper→St→List Log→Option R
 |_,[],s,c=>K s c
 |new,o::r,s,c=>match Qd X o.dst with
  |false=>none
  |true=>match o.guard with
   |none=>opK X new o s fun s L=>O0 X a K (new+1) r s (L::c)
   |some (j,d)=>match Mr a j with
    |some g=>match look aA g s.env with
     |.v false [.bool b]=>match d with
      |true=>aw b (opK X new o { s with env:=(g,.v false [.bool true])::s.env } fun s L=>O0 X a K (new+1) r s (L::c))
       (O0 X a K (new+1) r { s with env:=DB ((g,.v false [.bool false])::s.env) o.dst nP } ([]::c))
      |false=>aw b (O0 X a K (new+1) r { s with env:=DB ((g,.v false [.bool true])::s.env) o.dst nP } ([]::c))
       (opK X new o { s with env:=(g,.v false [.bool false])::s.env } fun s L=>O0 X a K (new+1) r s (L::c))
     |.g6 []=>O0 X a K (new+1) r { s with env:=DB s.env o.dst nP } ([]::c)
     |_=>none
    |none=>none
def BC(a b:Log):Bool:=a.all fun(o,w)=>b.all fun(p,c)=> !(bh o p&&(w||c))
def uses(a:List Oper)(o:Oper):List Tmp:=
 (o.op.operands.toList.filterMap fun |.tmp t=>some t |_=>none)++
 (match o.guard with
  |some (g,_)=>(Mr a g).toList
  |none=>[])
def lU(a:List Oper)(x y:Oper):Bool:=
 (match x.dst with
  |some d=>(uses a y).all (fun t=> !bh t d)&&(match y.dst with |some e=> !bh e d |none=>true)
  |none=>true)&&
 (match y.dst with
  |some d=>(uses a x).all fun t=> !bh t d
  |none=>true)
def VA(c:Array Oper)(a:List Log):Bool:=
 let b:=Region.before c
 let l:=c.toList
 (abY c.size).all fun j=>match l[j]?,a[j]? with
  |some y,some g=>y.after.all (fun e=> !Region.binds .any e||Nat.blt e.on j)&&
   (abY j).all fun i=>(b.getD j 0).testBit i||(match l[i]?,a[i]? with
    |some x,some d=>lU l x y&&BC d g
    |_,_=>false)
  |_,_=>false
def wW{R:Type}(X:Cx)(b:Array Oper)(a:Bool)(K:St→Option R)(s:St):Option R:=
 let l:=b.toList
 O0 X l (fun s c=>match a with
  |false=>K s
  |true=>match VA b c.reverse with
   |true=>K s
   |false=>none) s.next l { s with next:=s.next+l.length } []
def clean(a:List Log):Bool:=a.all fun L=>L.all fun q=> !q.2
def EL{R:Type}(X:Cx)(b:Array Oper)(a:Bool)(K:St→Option R)(s:St):Option R:=
 let l:=b.toList
 O0 X l (fun s c=>match clean c with
  |false=>none
  |true=>match a with
   |false=>K s
   |true=>match VA b c.reverse with
    |true=>K s
    |false=>none) s.next l { s with next:=s.next+l.length } []
def WW(env:Env)(t:Nat)(τ:Ty):Option τ.den:=
 match look aA t env with
 |.v g a=>match g==τ.isAgg&&τ.bH with
  |true=>τ.cf a
  |false=>none
 |.g6 _=>none
def Ms(env:Env):(l:List (Nat×Ty))→Option (g6 (l.map Prod.snd)).den
 |[]=>some ()
 |[(t,τ)]=>WW env t τ
 |(t,τ)::q::r=>match WW env t τ with
  |some x=>match Ms env (q::r)with
   |some y=>some (x,y)
   |none=>none
  |none=>none
def Mt:(l:List (Nat×Ty))→(g6 (l.map Prod.snd)).den→Env→Env
 |[],_,env=>env
 |[(t,τ)],x,env=>(t,J7 τ x)::env
 |(t,τ)::q::r,x,env=>(t,J7 τ x.1)::Mt (q::r) x.2 env
def EM(a:Array Oper):List Tmp:=a.toList.filterMap fun o=>o.dst
def mg:Code→List Tmp
 |.seq a b=>mg a++mg b
 |.cond _ a b=>mg a++mg b
 |.region _ c _=>EM c
 |_=>[]
def zI(l:List Tmp):Env:=l.map fun d=>(d,aA)
def Jh(X:Cx):Code→{R:Type}→(St→Option R)→St→Option R
 |.skip,_,K,s=>K s
 |.seq a b,_,K,s=>Jh X a (Jh X b K) s
 |.cond c a b,_,K,s=>match sV s.env c with
  |.v false [.bool t]=>aw t (Jh X a K s) (Jh X b K s)
  |_=>none
 |.region _ g d,_,K,s=>EL X g d K s
 |_,_,_,_=>none
def WX(l:List (Nat×Ty))(n:Nat)(s:St):Option (g6 (l.map Prod.snd)).den:=
 match Nat.ble s.next n with
 |true=>Ms s.env l
 |false=>none
def CK.den:CK→Type
 |.data τ=>τ.den
 |.own e=>List e.den
 |.fix _=>Unit
def Hq:List CK→Type
 |[]=>Unit
 |k::r=>k.den×Hq r
def SK.den:SK→Type
 |.data τ=>τ.den
 |.own e=>List e.den
 |.fix _=>Unit
 |.box l=>Hq l
 |.ref a=>a.den
 |.vt V=>V.den
 |.cl _ a=>a.den
def OK.den:OK→Type
 |.row e=>List e.den
 |.pS e=>List e.den
 |.cells l=>Hq l
 |.map k v=>List (k.den×v.den)
 |.gh _ K=>List (Option K.me)
 |.obj τ=>τ.den
def Mu:List (Nat×OK)→Type
 |[]=>Unit
 |k::r=>k.2.den×Mu r
def zJ:List (Nat×SK)→List (Nat×OK)→Type
 |[],a=>Mu a
 |k::r,a=>k.2.den×zJ r a
def NS.den(N:NS):Type:=zJ N.slots N.obs
def WY:C→C→Bool
 |.vec o,.vec p=>bh o p
 |.ptr o a,.ptr p b=>bh o p&&bh a b
 |.clos f l,.clos g m=>bh f g&&l==m
 |.nilfn,.nilfn=>true
 |.nilp,.nilp=>true
 |.mp o,.mp p=>bh o p
 |_,_=>false
def WZ:A→A→Bool
 |.v false [c],.v false [d]=>WY c d
 |_,_=>false
def Hr(n:Nat):C→Bool
 |.vec o=>Nat.blt o n
 |.ptr o _=>Nat.blt o n
 |.clos _ a=>a.all fun o=>Nat.blt o n
 |.nilfn=>true
 |.nilp=>true
 |.mp o=>Nat.blt o n
 |_=>false
def Rk(n:Nat):A→Bool
 |.v false [c]=>Hr n c
 |_=>false
def S2(e:Ty)(c:C)(h:aP):Option (List e.den×aP):=
 match c with
 |.nils=>some ([],h)
 |.sl a l (.own o)=>match look .dead o h with
  |.tok=>match lM a e l with
   |some l=>some (l,(o,.dead)::h)
   |none=>none
  |_=>none
 |_=>none
def acP(next:Nat)(k:CK)(c:C)(h:aP):Option (k.den×aP):=
 match k with
 |.data τ=>match bh τ.size 1&& !τ.isAgg&&τ.bH with
  |true=>match τ.cf [c]with
   |some x=>some (x,h)
   |none=>none
  |false=>none
 |.own e=>S2 e c h
 |.fix d=>match WY d c&&Hr next d with
  |true=>some ((),h)
  |false=>none
def Ji(next:Nat):(l:List CK)→List C→aP→Option (Hq l×aP)
 |[],[],h=>some ((),h)
 |k::r,c::a,h=>match acP next k c h with
  |some (x,h)=>match Ji next r a h with
   |some (y,h)=>some ((x,y),h)
   |none=>none
  |none=>none
 |_,_,_=>none
def S3(next:Nat)(k:SK)(a:A)(h:aP):Option (k.den×aP):=
 match k,a with
 |.data τ,.v g d=>match g==τ.isAgg&&τ.bH with
  |true=>match τ.cf d with
   |some x=>some (x,h)
   |none=>none
  |false=>none
 |.own e,.v false [c]=>S2 e c h
 |.fix a,b=>match WZ a b&&Rk next a with
  |true=>some ((),h)
  |false=>none
 |.box n,.v false [.ptr o j]=>match bh j 0,look .dead o h with
  |true,.cells d=>Ji next n d ((o,.dead)::h)
  |_,_=>none
 |.ref a,.v false [.zD i x c]=>match bh c 0,mf i a x with
  |true,some x=>some (x,h)
  |_,_=>none
 |.vt V,.v g d=>match g==V.isAgg&&V.ok with
  |true=>match V.cf d with
   |some x=>some (x,h)
   |none=>none
  |false=>none
 |.cl f a,.v false [.vE l i x]=>match bh f l,mf i a x with
  |true,some x=>some (x,h)
  |_,_=>none
 |_,_=>none
def acQ(next:Nat)(k:OK)(x:Ob)(h:aP):Option (k.den×aP):=
 match k,x with
 |.row e,.row b l=>match lM b e l with
  |some l=>some (l,h)
  |none=>none
 |.pS e,.pS b l=>match lM b e l with
  |some l=>some (l,h)
  |none=>none
 |.cells i,.cells a=>Ji next i a h
 |.map k v,.map g j l=>match wV g j k v l with
  |some l=>some (l,h)
  |none=>none
 |.gh wr K,.gh c d H=>match wr==c,gu d K H with
  |true,some H=>some (H,h)
  |_,_=>none
 |.obj τ,.cells a=>match τ.bH with
  |true=>match τ.cf a with
   |some x=>some (x,h)
   |none=>none
  |false=>none
 |_,_=>none
def Rl(next:Nat):(l:List (Nat×OK))→aP→Option (Mu l×aP)
 |[],h=>some ((),h)
 |(o,k)::r,h=>match Nat.blt o next with
  |false=>none
  |true=>match acQ next k (look .dead o h) h with
   |some (x,h)=>match Rl next r h with
    |some (y,h)=>some ((x,y),h)
    |none=>none
   |none=>none
def EN(next:Nat)(env:Env):(l:List (Nat×SK))→(a:List (Nat×OK))→aP→Option (zJ l a×aP)
 |[],a,h=>Rl next a h
 |(t,k)::r,a,h=>match S3 next k (look aA t env) h with
  |some (x,h)=>match EN next env r a h with
   |some (y,h)=>some ((x,y),h)
   |none=>none
  |none=>none
def dec(N:NS)(s:St):Option N.den:=
 match Nat.ble N.next s.next with
 |false=>none
 |true=>match EN N.next s.env N.slots N.obs s.heap with
  |some (x,_)=>some x
  |none=>none
def acR(k:CK)(x:k.den)(new:Nat):List C×Nat:=
 match k,x with
 |.data τ,x=>(τ.cells x,new)
 |.own e,l=>([.sl e l (.own new)],new+1)
 |.fix c,_=>([c],new)
def zK:(l:List CK)→Hq l→Nat→List C×Nat
 |[],_,c=>([],c)
 |k::r,x,c=>
  let a:=acR k x.1 c
  let b:=zK r x.2 a.2
  (a.1++b.1,b.2)
def Xy(k:SK)(x:k.den)(new:Nat):A×Nat:=
 match k,x with
 |.data τ,x=>(.v τ.isAgg (τ.cells x),new)
 |.own e,l=>(.v false [.sl e l (.own new)],new+1)
 |.fix a,_=>(a,new)
 |.box b,x=>(.v false [.ptr new 0],(zK b x (new+1)).2)
 |.ref a,x=>(.v false [.zD a x 0],new)
 |.vt V,x=>(vF V x,new)
 |.cl f a,x=>(.v false [.vE f a x],new)
def rA(k:SK)(x:k.den)(new:Nat):aP:=
 match k,x with
 |.box a,x=>[(new,.cells (zK a x (new+1)).1)]
 |_,_=>[]
def qL(k:OK)(x:k.den)(new:Nat):Ob×Nat:=
 match k,x with
 |.row e,l=>(.row e l,new)
 |.pS e,l=>(.pS e l,new)
 |.map k v,l=>(.map k v l,new)
 |.gh wr K,H=>(.gh wr K H,new)
 |.obj τ,x=>(.cells (τ.cells x),new)
 |.cells b,x=>let a:=zK b x new;(.cells a.1,a.2)
def rB:(l:List (Nat×OK))→Mu l→Nat→aP×Nat
 |[],_,c=>([],c)
 |(o,k)::r,x,c=>
  let a:=qL k x.1 c
  let b:=rB r x.2 a.2
  ((o,a.1)::b.1,b.2)
def er:(l:List (Nat×SK))→(c:List (Nat×OK))→zJ l c→Nat→Env×aP×Nat
 |[],c,x,d=>([],rB c x d)
 |(t,k)::r,c,x,d=>
  let a:=Xy k x.1 d
  let b:=er r c x.2 a.2
  ((t,a.1)::b.1,rA k x.1 d++b.2.1,b.2.2)
def toks(a:Nat):Nat→aP
 |0=>[]
 |n+1=>(a+n,.tok)::toks a n
def enc(N:NS)(x:N.den):St:=
 let a:=er N.slots N.obs x N.next
 { env:=a.1,next:=a.2.2,heap:=a.2.1++toks N.next (a.2.2 -N.next) }
def zL:List (Ex×NS)→Type
 |[]=>Empty
 |[o]=>o.2.den
 |o::p::r=>o.2.den⊕zL (p::r)
def Rm:Ex→Ex→Bool
 |.normal,.normal=>true
 |.ret,.ret=>true
 |.exit a,.exit b=>bh a b
 |_,_=>false
def Hs:(l:List (Ex×NS))→Ex→St→Option (zL l)
 |[],_,_=>none
 |[o],e,s=>match Rm o.1 e with
  |true=>dec o.2 s
  |false=>none
 |o::p::r,e,s=>match Rm o.1 e with
  |true=>match dec o.2 s with
   |some x=>some (.inl x)
   |none=>none
  |false=>match Hs (p::r) e s with
   |some x=>some (.inr x)
   |none=>none
def ea{α β R:Type}(x:α⊕β)(f:α→Option R)(g:β→Option R):Option R:=
 match x with
 |.inl a=>f a
 |.inr b=>g b
def Ro{R:Type}:(l:List (Ex×NS))→zL l→(Ex→St→Option R)→Option R
 |[],_,_=>none
 |[o],x,K=>K o.1 (enc o.2 x)
 |o::p::r,x,K=>ea x (fun x=>K o.1 (enc o.2 x)) (fun y=>Ro (p::r) y K)
def lV:Code→Nat
 |.region id _ _=>id
 |.seq a _=>lV a
 |.block _ a=>lV a
 |.loop a=>lV a
 |.scope a=>lV a
 |_=>0
def ag5{R:Type}(next:St→Option R)(K:Ex→St→Option R)(e:Ex)(s:St):Option R:=
 match e with
 |.normal=>next s
 |e=>K e s
def acS{R:Type}(id:Nat)(K:Ex→St→Option R)(e:Ex)(s:St):Option R:=
 match e with
 |.exit j=>match bh j id with
  |true=>K .normal s
  |false=>K (.exit j) s
 |e=>K e s
def BD(N:NS)(e:Ex)(s:St):Option N.den:=
 match e with
 |.normal=>dec N s
 |_=>none
def Qe(S:LS)(body:(Ex→St→Option (zL S.outs))→St→Option (zL S.outs)):Nat→S.vin.den→Option (zL S.outs)
 |0,_=>none
 |n+1,v=>body (fun e s=>match e with
  |.normal=>match dec S.vin s with
   |some v=>Qe S body n v
   |none=>none
  |e=>Hs S.outs e s) (enc S.vin v)
def acT(X:Cx):Operand→Option NS
 |.tmp t=>bP t X.cN
 |_=>none
def ag6(X:Cx):Operand→Option (List (Nat×Ty)×Nat)
 |.tmp t=>bP t X.lcs
 |_=>none
def kF(X:Cx):Code→{R:Type}→(Ex→St→Option R)→St→Option R
 |.skip,_,K,s=>K .normal s
 |.seq a b,_,K,s=>kF X a (ag5 (kF X b K) K) s
 |.cond c a b,_,K,s=>match sV s.env c with
  |.v false [.bool t]=>match acT X c with
   |some N=>(aw t (kF X a (BD N) s) (kF X b (BD N) s)).bind fun v=>K .normal (enc N v)
   |none=>match ag6 X c with
    |some (l,k)=>(aw t (Jh X a (WX l (s.next+k)) s) (Jh X b (WX l (s.next+k)) s)).bind fun v=>K .normal { env:=Mt l v (zI (mg a++mg b)++s.env),next:=s.next+k,heap:=s.heap }
    |none=>aw t (kF X a K s) (kF X b K s)
  |_=>none
 |.block id a,_,K,s=>kF X a (acS id K) s
 |.loop a,_,K,s=>match bP (lV a) X.loops with
  |some S=>match dec S.vin s with
   |some v=>(Qe S (fun K s=>kF X a K s) X.fuel v).bind fun h=>Ro S.outs h K
   |none=>none
  |none=>none
 |.exit id,_,K,s=>K (.exit id) s
 |.ret,_,K,s=>K .ret s
 |.region id g d,_,K,s=>match bP id X.acL with
  |some N=>(wW X g d (fun s=>dec N s) s).bind fun v=>K .normal (enc N v)
  |none=>match bP id X.Vt with
   |some l=>(EL X g d (fun i=>Ms i.env l) s).bind fun v=>K .normal { env:=Mt l v (zI (EM g)++s.env),next:=s.next+g.toList.length,heap:=s.heap }
   |none=>wW X g d (K .normal) s
 |.scope a,_,K,s=>kF X a K s
 |.label _,_,K,s=>K .normal s
 |_,_,_,_=>none
def oY(key:Nat):Code→Option Code
 |.seq a b=>match oY key a with
  |some c=>some c
  |none=>oY key b
 |.cond _ a b=>match oY key a with
  |some c=>some c
  |none=>oY key b
 |.block _ a=>oY key a
 |.loop a=>match bh (lV a) key with
  |true=>some a
  |false=>oY key a
 |.scope a=>oY key a
 |_=>none
def az(X:Cx)(fn:Func)(S:LS)(key:Nat)(n:Nat)(v:S.vin.den):Option (zL S.outs):=
 match fn.body with
 |none=>none
 |some c=>match oY key c with
  |some a=>Qe S (fun K s=>kF X a K s) n v
  |none=>none
def i7:Nat→List A→Env
 |_,[]=>[]
 |n,a::r=>(n,a)::i7 (n+1) r
def oZ{R:Type}(X:Cx)(s:St):(rs:List Ty)→List ResultVar→aP→((g6 rs).den→aP→Option R)→Option R
 |[],[],h,k=>k () h
 |[τ],[r],h,k=>resK τ r h k
 |τ::σ::rs,r::i,h,k=>resK τ r h fun x h=>oZ X s (σ::rs) i h fun y h=>k (x,y) h
 |_,_,_,_=>none
 where
 resK (τ:Ty) (r:ResultVar) (h:aP) (k:τ.den→aP→Option R):Option R:=
  match r with
  |.tmp t=>valK τ (look aA t s.env) h k
  |.cell a t=>match bP t X.tt with
   |some d=>(Mj d (look aA a s.env)).run s.next h [] fun a h _=>valK τ a h k
   |none=>none
 valK (τ:Ty) (a:A) (h:aP) (k:τ.den→aP→Option R):Option R:=
  match τ,a with
  |.sl σ,.v false [.gs c x]=>match look .dead c h with
   |.gh true K H=>match gu K (.bf (.data σ)) H,σ.bH with
    |some H,true=>(gsF H x).bind fun r=>k r.1 ((c,.gh true (.bf (.data σ)) r.2)::h)
    |_,_=>none
   |_=>none
  |τ,.v g b=>match g==τ.isAgg&&τ.bH with
   |true=>(fh true b fun b=> .ret (.v g b)).run s.next h [] fun a h _=>match a with
    |.v _ b=>match τ.cf b with
     |some x=>k x h
     |none=>none
    |_=>none
   |false=>none
  |_,_=>none
def kt(l:List (Nat×GK)):aP:=l.map fun k=>(k.1,.gh true k.2 [])
def S4(nc:Nat)(l:List (Nat×GK)):Bool:=EG (l.map (·.1))&&l.all fun k=>Nat.blt k.1 nc&&k.2.ok
def ao(X:Cx)(fn:Func)(ps rs:List Ty)(x:(g6 ps).den):Option (g6 rs).den:=
 match fn.body,Nat.ble X.nt fn.ntmps&&S4 X.nc X.loc with
 |none,_=>none
 |_,false=>none
 |some c,true=>kF X c (fun e s=>match e with
  |.exit _=>none
  |_=>oZ X s rs fn.results.toList s.heap fun r _=>some r) { env:=i7 0 (wT ps x),next:=X.nc,heap:=kt X.loc }
def lW{R:Type}(X:Cx)(s:St):(rs:List VT)→List ResultVar→aP→((pR rs).den→aP→Option R)→Option R
 |[],[],h,k=>k () h
 |[V],[r],h,k=>resK V r h k
 |V::U::rs,r::i,h,k=>resK V r h fun x h=>lW X s (U::rs) i h fun y h=>k (x,y) h
 |_,_,_,_=>none
 where
 resK (V:VT) (r:ResultVar) (h:aP) (k:V.den→aP→Option R):Option R:=
  match r with
  |.tmp t=>valK V (look aA t s.env) h k
  |.cell a t=>match bP t X.tt with
   |some d=>(Mj d (look aA a s.env)).run s.next h [] fun a h _=>valK V a h k
   |none=>none
 valK (V:VT) (a:A) (h:aP) (k:V.den→aP→Option R):Option R:=
  match V,a with
  |.data (.sl σ),.v false [.gs c x]=>match look .dead c h with
   |.gh true K H=>match gu K (.bf (.data σ)) H,σ.bH with
    |some H,true=>(gsF H x).bind fun r=>k r.1 ((c,.gh true (.bf (.data σ)) r.2)::h)
    |_,_=>none
   |_=>none
  |V,.v g b=>match g==V.isAgg&&V.ok with
   |true=>(fh true b fun b=> .ret (.v g b)).run s.next h [] fun a h _=>match a with
    |.v _ b=>match V.cf b with
     |some x=>k x h
     |none=>none
    |_=>none
   |false=>none
  |_,_=>none
def Mv(h:aP):(l:List (Nat×GK))→Option (ej l)
 |[]=>some ()
 |(c,K)::r=>match look .dead c h with
  |.gh true a H=>match gu a K H,Mv h r with
   |some H,some y=>some (H,y)
   |_,_=>none
  |_=>none
def cg(wr:Bool):(l:List (Nat×GK))→ej l→aP
 |[],_=>[]
 |(c,K)::r,x=>(c,.gh wr K x.1)::cg wr r x.2
def VT.J9(l:List Nat):VT→Bool
 |.data _=>true
 |.gp c _=> !(l.contains c)
 |.gs c=> !(l.contains c)
 |.gm c=> !(l.contains c)
 |.cl _ a b=>(a.all fun p=> !(l.contains p.1))&&(b.all fun p=> !(l.contains p.1))
 |.pair a b=>a.J9 l&&b.J9 l
 |.unit=>true
def GK.J9(l:List Nat):GK→Bool
 |.st V=>V.J9 l
 |.bf V=>V.J9 l
 |.mp _ V=>V.J9 l
def W3(l:List Nat)(ps rs:List VT)(a:List (Nat×GK)):Bool:=ps.all (VT.J9 l)&&rs.all (VT.J9 l)&&a.all fun k=>k.2.J9 l&& !(l.contains k.1)
def bV(X:Cx)(fn:Func)(ps rs:List VT)(ws os:List (Nat×GK))(x:(pR ps).den)(b:ej ws)(a:ej os):Option ((pR rs).den×ej ws):=
 match fn.body,Nat.ble X.nt fn.ntmps,S4 X.nc (ws++os)&&S4 X.nc X.loc&&W3 (X.loc.map (·.1)) ps rs (ws++os)with
 |some c,true,true=>kF X c (fun e s=>match e with
  |.exit _=>none
  |_=>lW X s rs fn.results.toList s.heap fun r h=>match Mv h ws with
   |some y=>some (r,y)
   |none=>none) { env:=i7 0 (rz ps x),next:=X.nc,heap:=cg true ws b++(cg false os a++kt X.loc) }
 |_,_,_=>none
def af3(X:Cx)(fn:Func)(e:Ty)(as:List A):Option (List e.den):=
 match fn.body,Nat.ble X.nt fn.ntmps,fn.results.toList with
 |some c,true,[.tmp t]=>kF X c (fun a s=>match a with
  |.exit _=>none
  |_=>match look aA t s.env with
   |.v false [c]=>(S2 e c s.heap).map (·.1)
   |_=>none) { env:=i7 0 as,next:=0,heap:=[] }
 |_,_,_=>none
open Go
abbrev bj:=Nat→Nat→Prop
def bY{α:Type}(R:α→List Value→Prop):List α→List Value→Prop
 |[],b=>b=[]
 |x::l,b=>∃c a,b=c++a∧R x c∧bY R l a
def At(w:World)(Z:bj)(base:Option Addr)(c:List Value):Prop:=
 c≠[]→∃b a,base=some ⟨b,a,none⟩∧∀j u,c[j]? =some u→w.cell? ⟨b,a+j,none⟩=some u∧Z b (a+j)
def PR(w:World)(Z Zp:bj):(τ:Ty)→τ.den→List Value→Prop
 |.bool,b,c=>c=[.bool b]
 |.int k,n,c=>c=[.int k n]
 |.str,s,c=>c=[.string ⟨s.toArray⟩]
 |.sl e,l,c=>∃base p i,c=[.slice base (ac l) p]∧ac l≤p∧bY (PR w Z Zp e) l i∧At w Z base i
 |.pair a b,x,c=>∃i q,c=i++q∧PR w Z Zp a x.1 i∧PR w Z Zp b x.2 q
 |.unit,_,c=>c=[]
 |.ref a,x,c=>∃b o i,c=[.pointer (some ⟨b,o,none⟩)]∧PR w Z Zp a x i∧
  ∀j u,i[j]? =some u→w.cell? ⟨b,o+j,none⟩=some u∧Zp b (o+j)
 |.fn f,_,c=>c=[.func (.func f) #[] #[]]
 |.cl f a,x,c=>∃d:Array Value,c=[.func (.func f) #[] d]∧PR w Z Zp a x d.toList
theorem bY.length{α:Type}{R:α→List Value→Prop}{k:Nat}(i:∀x es,R x es→es.length=k):∀(l:List α) (vs:List Value),bY R l vs→vs.length=l.length*k
 |[],vs,h=>by simp[bY]at h;simp[h]
 |x::l,vs,⟨es,a,e,p,j⟩=>by
  subst e;simp[i x es p,bY.length i l a j,bw,Nat.add_comm]
theorem PR.length{w:World}{Z Zp:bj}:∀(τ:Ty) (x:τ.den) (vs:List Value),PR w Z Zp τ x vs→vs.length=τ.size
 |.bool,_,_,h=>by simp[PR]at h;simp[h,Ty.size]
 |.int _,_,_,h=>by simp[PR]at h;simp[h,Ty.size]
 |.str,_,_,h=>by simp[PR]at h;simp[h,Ty.size]
 |.sl _,_,_,⟨_,_,_,h,_⟩=>by simp[h,Ty.size]
 |.pair a b,x,_,⟨us,rs,h,i,j⟩=>by simp[h,Ty.size,PR.length a _ _ i,PR.length b _ _ j]
 |.unit,_,_,h=>by simp[PR]at h;simp[h,Ty.size]
 |.ref _,_,_,⟨_,_,_,h,_⟩=>by simp[h,Ty.size]
 |.fn _,_,_,h=>by simp[PR]at h;simp[h,Ty.size]
 |.cl _ _,_,_,⟨_,h,_⟩=>by simp[h,Ty.size]
theorem bY.mono{α:Type}{R i:α→List Value→Prop}(h:∀x es,R x es→i x es):∀(l:List α) (vs:List Value),bY R l vs→bY i l vs
 |[],_,hh=>hh
 |_::l,_,⟨es,a,e,p,j⟩=>⟨es,a,e,h _ _ p,bY.mono h l a j⟩
def bQ(w w':World)(Z a:bj):Prop:=∀b i,Z b i→a b i∧w'.cell? ⟨b,i,none⟩=w.cell? ⟨b,i,none⟩
theorem bQ.refl(w:World)(Z:bj):bQ w w Z Z:=fun _ _ h=>⟨h,rfl⟩
theorem bQ.trans{w w1 x:World}{Z j p:bj}(h:bQ w w1 Z j)(k:bQ w1 x j p):bQ w x Z p:=
 fun b i a=>⟨(k b i (h b i a).1).1,(k b i (h b i a).1).2.trans (h b i a).2⟩
theorem At.mono{w w':World}{Z y:bj}(h:bQ w w' Z y){base:Option Addr}{us:List Value}(D:At w Z base us):At w' y base us:=by
 intro p;obtain⟨b,x,hb,a⟩:=D p;exact⟨b,x,hb,fun j u i=>⟨(h _ _ (a j u i).2).2.trans (a j u i).1,(h _ _ (a j u i).2).1⟩⟩
theorem PR.mono{w w':World}{Z J Zp Hm:bj}(h:bQ w w' Z J)(i:bQ w w' Zp Hm):∀(τ:Ty) (x:τ.den) (vs:List Value),PR w Z Zp τ x vs→PR w' J Hm τ x vs
 |.bool,_,_,hh=>hh
 |.int _,_,_,hh=>hh
 |.str,_,_,hh=>hh
 |.sl e,l,_,⟨base,E,us,K,L,M,N⟩=>⟨base,E,us,K,L,bY.mono (fun x es O=>PR.mono h i e x es O) l us M,N.mono h⟩
 |.pair a b,_,_,⟨us,rs,e,y,D⟩=>⟨us,rs,e,PR.mono h i a _ _ y,PR.mono h i b _ _ D⟩
 |.unit,_,_,hh=>hh
 |.ref a,_,_,⟨b,I,us,e,y,D⟩=>⟨b,I,us,e,PR.mono h i a _ _ y,fun j u H=>⟨(i _ _ (D j u H).2).2.trans (D j u H).1,(i _ _ (D j u H).2).1⟩⟩
 |.fn _,_,_,hh=>hh
 |.cl _ a,_,_,⟨p,e,y⟩=>⟨p,e,PR.mono h i a _ _ y⟩
theorem PR.flat{w w':World}{Z j Zp Hm:bj}:∀(τ:Ty) (x:τ.den) (vs:List Value),τ.flat=true→PR w Z Zp τ x vs→PR w' j Hm τ x vs
 |.bool,_,_,_,hh=>hh
 |.int _,_,_,_,hh=>hh
 |.str,_,_,_,hh=>hh
 |.sl _,_,_,i,_=>by simp[Ty.flat]at i
 |.pair a b,_,_,i,⟨us,rs,e,p,y⟩=>by
  simp[Ty.flat]at i;exact⟨us,rs,e,PR.flat a _ _ i.1 p,PR.flat b _ _ i.2 y⟩
 |.unit,_,_,_,hh=>hh
 |.ref _,_,_,i,_=>by simp[Ty.flat]at i
 |.fn _,_,_,_,hh=>hh
 |.cl _ _,_,_,i,_=>by simp[Ty.flat]at i
theorem PR.bH{w:World}{Z Zp Hm:bj}:∀(τ:Ty) (x:τ.den) (vs:List Value),τ.bH=true→PR w Z Zp τ x vs→PR w Z Hm τ x vs
 |.bool,_,_,_,hh=>hh
 |.int _,_,_,_,hh=>hh
 |.str,_,_,_,hh=>hh
 |.sl e,l,_,i,⟨base,j,us,p,y,D,E⟩=>⟨base,j,us,p,y,bY.mono (fun x es J=>PR.bH e x es i J) l us D,E⟩
 |.pair a b,_,_,i,⟨us,rs,e,H,I⟩=>by
  simp[Ty.bH]at i;exact⟨us,rs,e,PR.bH a _ _ i.1 H,PR.bH b _ _ i.2 I⟩
 |.unit,_,_,_,hh=>hh
 |.ref _,_,_,i,_=>by simp[Ty.bH]at i
 |.fn _,_,_,_,hh=>hh
 |.cl _ _,_,_,i,_=>by simp[Ty.bH]at i
def Ty.vals:(τ:Ty)→τ.den→List Value
 |.bool,b=>[.bool b]
 |.int k,n=>[.int k n]
 |.str,s=>[.string ⟨s.toArray⟩]
 |.pair a b,x=>a.vals x.1++b.vals x.2
 |_,_=>[]
theorem PR.vals{w:World}{Z Zp:bj}:∀(τ:Ty) (x:τ.den) (vs:List Value),τ.isKey=true→(PR w Z Zp τ x vs↔vs=τ.vals x)
 |.bool,_,_,_=>Iff.rfl
 |.int _,_,_,_=>Iff.rfl
 |.str,_,_,_=>Iff.rfl
 |.sl _,_,_,i=>by simp[Ty.isKey]at i
 |.pair a b,x,vs,i=>by
  simp[Ty.isKey]at i;constructor
  ·rintro⟨us,rs,e,j,p⟩;rw[e,(PR.vals a _ _ i.1).1 j,(PR.vals b _ _ i.2).1 p];rfl
  ·intro e;exact⟨_,_,e,(PR.vals a _ _ i.1).2 rfl,(PR.vals b _ _ i.2).2 rfl⟩
 |.unit,_,_,_=>Iff.rfl
 |.ref _,_,_,i=>by simp[Ty.isKey]at i
 |.fn _,_,_,i=>by simp[Ty.isKey]at i
 |.cl _ _,_,_,i=>by simp[Ty.isKey]at i
def FV(τ:Ty)(x:τ.den)(v:Value):Prop:=
 match τ.isAgg with
 |true=>v= .agg (τ.vals x).toArray
 |false=>τ.vals x=[v]
def Xz(k v:Ty)(l:List (k.den×v.den))(a:List MapEntry):Prop:=
 l.length=a.length∧∀(j:Nat) (p:k.den×v.den) (e:MapEntry),l[j]? =some p→a[j]? =some e→FV k p.1 e.key∧FV v p.2 e.val
structure G where
 al:Nat→Prop
 Z:bj
 hm:Nat→Option Nat
 lo:Nat→Nat
 pm:Nat→Nat→Option (Nat×Nat×Nat×Nat)
structure W0 extends World where
 B:Nat→Prop
 pm:Nat→Nat→Option (Nat×Nat×Nat×Nat)
 ro:Nat→Option (Σ K:GK,List (Option K.me))
 ws:Nat→Prop
structure W0.Extends (w0:W0) (w:World):Prop where
 os:w.os=w0.os
 tape:w.tape=w0.tape
 output:w.output=w0.output
 size:w0.heap.size≤w.heap.size
 block:∀i:Nat,i<w0.heap.size→¬ w0.B i→w.heap[i]? =w0.heap[i]?
theorem W0.Extends.trans{w0:W0}{w w':World}(h:w0.Extends w)(k:w.Extends w'):w0.Extends w':=
 ⟨k.os.trans h.os,k.tape.trans h.tape,k.output.trans h.output,Nat.le_trans h.size k.size,fun i a hb=>(k.block i (bi a h.size)).trans (h.block i a hb)⟩
theorem W0.Extends.drew{w0:W0}{w:World}(h:w0.Extends w):w0.Extends w.drew:=⟨h.os,h.tape,h.output,h.size,h.block⟩
theorem W0.Extends.alloc{w0:W0}{w:World}(h:w0.Extends w)(o:Obj):w0.Extends (w.alloc o):=h.trans ((World.Extends.refl w).alloc o)
theorem W0.Extends.world{w0:W0}{w:World}(h:w0.Extends w)(hb:∀b,¬ w0.B b):w0.toWorld.Extends w:=by
 have hB:∀i:Nat,i<w0.heap.size→w.heap[i]? =w0.heap[i]? :=fun i p=>h.block i p (hb i)
 refine⟨h.os,h.tape,h.output,h.size,fun a j=> ?_,fun a j=> ?_,hB⟩
 ·simp only[World.cell?,hB a.block j]
 ·simp only[World.frozen?,hB a.block j]
def aeE(w:World)(base:Nat)(g:G)(o:Nat)(size len:Nat)(v:Value):Prop:=
 (g.hm o=none∧v= .slice none 0 0∧len=0)∨
 (∃b a c d,g.hm o=some b∧v= .slice (some ⟨b,0,none⟩) len a∧w.heap[b]? =some (.cells c d (0,0))∧
  len≤a∧a≤maxLen∧c.size=a*size∧base≤b∧g.lo o=len*size)
def fN:Ob→Option (Ty×Nat)
 |.row e l=>some (e,ac l)
 |.pS e l=>some (e,ac l)
 |_=>none
def Cg(v:Value):Prop:=∃a,v= .pointer a
def qe(pm:Nat→Nat→Option (Nat×Nat×Nat×Nat)):List (Nat×Nat)→List Nat→List Value→Prop
 |[],[],j=>j=[]
 |(c,d)::l,i::a,j=>∃e b,j= .pointer (some ⟨e.1,d,none⟩)::b∧(pm c i=some e∧e.2.1=0)∧qe pm l a b
 |_,_,_=>False
theorem qe.mono{pm p:Nat→Nat→Option (Nat×Nat×Nat×Nat)}(y:∀c i e,pm c i=some e→p c i=some e):∀(l:List (Nat×Nat)) (a:List Nat) (vs:List Value),qe pm l a vs→qe p l a vs
 |[],[],_,h=>h
 |_::l,_::a,_,⟨e,j,D,x,E⟩=>⟨e,j,D,⟨y _ _ _ x.1,x.2⟩,qe.mono y l a j E⟩
 |[],_::_,_,h=>h.elim
 |_::_,[],_,h=>h.elim
def CR(w:World)(base:Nat)(Zp:bj)(h:aP)(g:G):C→Value→Prop
 |.undef,_=>True
 |.bool b,v=>v= .bool b
 |.int k n,v=>v= .int k n
 |.str s,v=>v= .string ⟨s.toArray⟩
 |.sl e l t,v=>PR w g.Z Zp (.sl e) l [v]∧match t with
  |.no=>True
  |.nn=>∃a n c,v= .slice (some a) n c
  |.nl=>∃n c,v= .slice none n c
  |.own o=>g.al o∧(look .dead o h= .tok→aeE w base g o e.size (ac l) v)
 |.nils,v=>v= .slice none 0 0
 |.vec o,v=>g.al o∧(∃a n m,v= .slice a n m)∧∀e n,fN (look .dead o h)=some (e,n)→∃b,g.hm o=some b∧v= .slice (some ⟨b,0,none⟩) n n
 |.ptr o d,v=>g.al o∧Cg v∧(look .dead o h≠.dead→∃b,g.hm o=some b∧v= .pointer (some ⟨b,d,none⟩))
 |.OZ o i c,v=>g.al o∧Cg v∧∀e n,fN (look .dead o h)=some (e,n)→∃b,g.hm o=some b∧v= .pointer (some ⟨b,i*e.size+c,none⟩)
 |.YG o d _ i,v=>g.al o∧Cg v∧(look .dead o h≠.dead→∃b,g.hm o=some b∧v= .pointer (some ⟨b,d+i,none⟩))
 |.zD a x c,v=>∃b d D,v= .pointer (some ⟨b,d+c,none⟩)∧PR w g.Z Zp a x D∧
   ∀j u,D[j]? =some u→w.cell? ⟨b,d+j,none⟩=some u∧(g.Z b (d+j)∨Zp b (d+j))
 |.clos f B,v=>∃y,v= .func (.func f) #[] y∧bY (fun o E=>g.al o∧∃u,E=[u]∧Cg u∧(look .dead o h≠.dead→∃b,g.hm o=some b∧u= .pointer (some ⟨b,0,none⟩))) B y.toList
 |.nilfn,v=>v= .nilFunc
 |.nilp,v=>v= .pointer none
 |.mp o,v=>g.al o∧(∃r,v= .map (some r))∧(look .dead o h≠.dead→∃b,g.hm o=some b∧v= .map (some b))
 |.vE f a x,v=>PR w g.Z Zp (.cl f a) x [v]
 |.gp c d x,v=>match x with
  |none=>v= .pointer none
  |some id=>∃e,g.pm c id=some e∧e.2.1=0∧v= .pointer (some ⟨e.1,d,none⟩)
 |.gs c x,v=>match x with
  |none=>v= .slice none 0 0
  |some (id,a,n)=>∃b k p z o,g.pm c id=some (b,k,p,z)∧a+n≤p∧(a<p→o=k+a*z)∧v= .slice (some ⟨b,o,none⟩) n (p -a)
 |.ge c id F d,v=>∃b k p z,g.pm c id=some (b,k,p,z)∧v= .pointer (some ⟨b,k+F*z+d,none⟩)
 |.gm c x,v=>match x with
  |none=>v= .map none
  |some id=>∃e,g.pm c id=some e∧v= .map (some e.1)
 |.gcl f l m x,v=>match x with
  |none=>v= .nilFunc
  |some q=>∃a b:Array Value,v= .func (.func f) a b∧qe g.pm l q.1 a.toList∧qe g.pm m q.2 b.toList
def cw(w:World)(base:Nat)(Zp:bj)(h:aP)(g:G):List C→List Value→Prop
 |[],b=>b=[]
 |c::d,b=>∃v a,b=v::a∧CR w base Zp h g c v∧cw w base Zp h g d a
def VR(w:World)(base:Nat)(Zp:bj)(h:aP)(g:G)(agg:Bool)(cs:List C)(v:Value):Prop:=
 match agg with
 |true=>∃a:List Value,v= .agg a.toArray∧cw w base Zp h g cs a
 |false=>cw w base Zp h g cs [v]
def AR(w:World)(base:Nat)(Zp:bj)(h:aP)(g:G):A→Value→Prop
 |.v agg b,v=>VR w base Zp h g agg b v
 |.g6 ps,v=>∃a:List Value,v= .tuple a.toArray∧bY (fun(p:Bool×List C) c=>∃u,c=[u]∧VR w base Zp h g p.1 p.2 u) ps a
def EO(w:World)(base:Nat)(Zp:bj)(h:aP)(g:G)(o:Nat):Ob→Prop
 |.dead=>True
 |.tok=>True
 |.cells n=>∃b a d,g.hm o=some b∧w.heap[b]? =some (.cells a d (0,0))∧cw w base Zp h g n a.toList
 |.row e l=>0<e.size∧e.bH=true∧∃b a d,g.hm o=some b∧w.heap[b]? =some (.cells a d (0,0))∧bY (PR w g.Z Zp e) l a.toList
 |.pS e l=>0<e.size∧e.bH=true∧∃b a d p,g.hm o=some b∧w.heap[b]? =some (.cells a d p)∧bY (PR w g.Z Zp e) l a.toList∧∀i,i<a.size→g.Z b i
 |.map k v l=>k.isKey=true∧v.isKey=true∧(l.map (·.1)).Nodup∧∃b j c,g.hm o=some b∧w.heap[b]? =some (.map j c)∧Xz k v l j.toList
 |.gh _ _ _=>g.hm o=none
def mh(w:World)(base:Nat)(Zp:bj)(h:aP)(g:G)(c id:Nat):(K:GK)→K.me→Prop
 |.st V,x=>0<V.size∧∃b a d o,g.pm c id=some (b,0,a,V.size)∧w.heap[b]? =some (.cells d o (0,0))∧cw w base Zp h g (V.cells x) d.toList
 |.bf V,l=>0<V.size∧∃b k a d o,g.pm c id=some (b,k,a,V.size)∧w.heap[b]? =some (.cells d o (0,0))∧d.size=k+a*V.size∧ac l≤a∧a≤maxLen∧
  bY (fun y n=>cw w base Zp h g (V.cells y) n) l ((d.toList.drop k).take (ac l*V.size))
 |.mp k V,l=>k.isKey=true∧(List.map (·.1) l).Nodup∧∃b n i,g.pm c id=some (b,0,0,0)∧w.heap[b]? =some (.map n i)∧ac l=n.size∧
  ∀(j:Nat) (p:k.den×V.den) (e:MapEntry),nth (α:=k.den×V.den) l j=some p→n[j]? =some e→FV k p.1 e.key∧VR w base Zp h g V.isAgg (V.cells p.2) e.val
def GL(h:aP)(g:G)(c id b:Nat):Prop:=∃wr K H x e,look .dead c h= .gh wr K H∧H[id]? =some (some x)∧g.pm c id=some e∧e.1=b
structure GHR (w0:W0) (Zp:bj) (h:aP) (g:G) (w:World):Prop where
 me:∀c wr K H id x,look .dead c h= .gh wr K H→H[id]? =some (some x)→mh w w0.heap.size Zp h g c id K x
 fresh:∀c wr K H id,look .dead c h= .gh wr K H→H.length≤id→g.pm c id=none
 lt:∀c id b,GL h g c id b→b<w.heap.size
 own:∀c K H id x e,look .dead c h= .gh true K H→H[id]? =some (some x)→g.pm c id=some e→w0.heap.size≤e.1∨w0.B e.1
 iW:∀c id c' id' b,GL h g c id b→GL h g c' id' b→c=c'∧id=id'
 gI:∀c id b i,GL h g c id b→¬ g.Z b i
 loc:∀c id b o,GL h g c id b→look .dead o h≠.dead→g.hm o=some b→False
 psz:∀c wr V H id e,look .dead c h= .gh wr (.bf V) H→g.pm c id=some e→e.2.2.2=V.size
 old:∀c id e,w0.pm c id=some e→g.pm c id=some e
 ro:∀c K H,look .dead c h= .gh false K H→w0.ro c=some ⟨K,H⟩
 zpx:∀c id b i,GL h g c id b→¬ Zp b i
 YT:∀c wr K H,look .dead c h= .gh wr K H→K.ok=true
 wsr:∀c K H,look .dead c h= .gh true K H→w0.ws c
 new:∀c id e,g.pm c id=some e→w0.pm c id=some e∨w0.ws c
def Ob.open? :Ob→Bool
 |.cells _=>true
 |.row _ _=>true
 |.map _ _ _=>true
 |_=>false
structure HR (w0:W0) (Z0 Zp:bj) (h:aP) (g:G) (w:World):Prop where
 ext:w0.Extends w
 ob:∀o,EO w w0.heap.size Zp h g o (look .dead o h)
 dead:∀o,¬ g.al o→look .dead o h= .dead
 home:∀o b,look .dead o h≠.dead→g.hm o=some b→w0.heap.size≤b∧b<w.heap.size
 iW:∀o p b,look .dead o h≠.dead→look .dead p h≠.dead→g.hm o=some b→g.hm p=some b→o=p
 gI:∀o b i,(look .dead o h).open? =true→g.hm o=some b→¬ g.Z b i
 BZ:∀o b i,look .dead o h= .tok→g.hm o=some b→g.Z b i→i<g.lo o
 BE:∀b i,g.Z b i→b<w.heap.size
 zk:∀b i,b<w0.heap.size→g.Z b i→Z0 b i∨w0.B b
 z0:∀b i,Z0 b i→g.Z b i
 zp:∀b i,Zp b i→b<w0.heap.size∧¬ w0.B b
 gh:GHR w0 Zp h g w
def Ob.to(x y:Ob):Prop:=
 y= .dead∨(x= .tok∧y= .tok)∨(∃j a,x= .cells j∧y= .cells a)∨(∃r,fN x=some r∧fN y=some r)∨(∃k v l p,x= .map k v l∧y= .map k v p)∨(∃K H i,x= .gh true K H∧y= .gh true K i)∨(∃K H,x= .gh false K H∧y= .gh false K H)
theorem Ob.to.refl(x:Ob):x.to x:=by
 cases x
 ·exact .inl rfl
 ·exact .inr (.inl ⟨rfl,rfl⟩)
 ·exact .inr (.inr (.inl ⟨_,_,rfl,rfl⟩))
 ·exact .inr (.inr (.inr (.inl ⟨_,rfl,rfl⟩)))
 ·exact .inr (.inr (.inr (.inl ⟨_,rfl,rfl⟩)))
 ·exact .inr (.inr (.inr (.inr (.inl ⟨_,_,_,_,rfl,rfl⟩))))
 ·rename_i wr K H
  cases wr
  ·exact .inr (.inr (.inr (.inr (.inr (.inr ⟨_,_,rfl,rfl⟩)))))
  ·exact .inr (.inr (.inr (.inr (.inr (.inl ⟨_,_,_,rfl,rfl⟩)))))
structure Le (Zp:bj) (h:aP) (g:G) (w:World) (h':aP) (g':G) (w':World):Prop where
 al:∀o,g.al o→g'.al o
 z:bQ w w' g.Z g'.Z
 zp:bQ w w' Zp Zp
 ob:∀o,g.al o→(look .dead o h).to (look .dead o h')
 hm:∀o,g.al o→look .dead o h'≠.dead→g'.hm o=g.hm o
 tok:∀o,g.al o→look .dead o h'= .tok→g'.lo o=g.lo o∧∀b,g.hm o=some b→w'.heap[b]? =w.heap[b]?
 pm:∀c id e,g.pm c id=some e→g'.pm c id=some e
theorem Le.refl(Zp:bj)(h:aP)(g:G)(w:World):Le Zp h g w h g w:=
 ⟨fun _ h=>h,bQ.refl _ _,bQ.refl _ _,fun _ _=>Ob.to.refl _,fun _ _ _=>rfl,fun _ _ _=>⟨rfl,fun _ _=>rfl⟩,fun _ _ _ h=>h⟩
theorem Ob.to.alive{x y:Ob}(h:x.to y)(j:y≠.dead):x≠.dead:=by
 rcases h with h |⟨rfl,rfl⟩|⟨_,_,rfl,rfl⟩|⟨r,a,p⟩|⟨_,_,_,_,rfl,rfl⟩|⟨_,_,_,rfl,rfl⟩|⟨_,_,rfl,rfl⟩
 ·exact absurd h j
 ·simp
 ·simp
 ·intro i;subst i;simp[fN]at a
 ·simp
 ·simp
 ·simp
theorem Ob.to.row{x y:Ob}(h:x.to y){r:Ty×Nat}(a:fN y=some r):fN x=some r:=by
 rcases h with rfl |⟨rfl,rfl⟩|⟨_,_,rfl,rfl⟩|⟨q,i,j⟩|⟨_,_,_,_,rfl,rfl⟩|⟨_,_,_,rfl,rfl⟩|⟨_,_,rfl,rfl⟩
 ·simp[fN]at a
 ·simp[fN]at a
 ·simp[fN]at a
 ·rw[j]at a;cases a;exact i
 ·simp[fN]at a
 ·simp[fN]at a
 ·simp[fN]at a
theorem Ob.to.tok{x y:Ob}(h:x.to y)(a:y= .tok):x= .tok:=by
 subst a;rcases h with h |⟨rfl,_⟩|⟨_,_,_,h⟩|⟨q,_,h⟩|⟨_,_,_,_,_,h⟩|⟨_,_,_,_,h⟩|⟨_,_,_,h⟩
 ·cases h
 ·rfl
 ·cases h
 ·simp[fN]at h
 ·cases h
 ·cases h
 ·cases h
section
variable {w w':World} {base:Nat} {Zp:bj} {h h':aP} {g g':G}
theorem CR.mono(L:Le Zp h g w h' g' w'):∀(c:C) (v:Value),CR w base Zp h g c v→CR w' base Zp h' g' c v
 |.undef,_,_=>trivial
 |.bool _,_,hh=>hh
 |.int _ _,_,hh=>hh
 |.str _,_,hh=>hh
 |.sl e l t,v,⟨D,p⟩=>by
  refine⟨PR.mono L.z L.zp _ _ _ D,?_⟩
  cases t with
  |no=>trivial
  |nn=>exact p
  |nl=>exact p
  |own o=>
   obtain⟨y,p⟩:=p;refine⟨L.al o y,fun S=> ?_⟩;have T:=(L.ob o y).tok S;have O:=L.hm o y (by rw[S];simp);obtain⟨R,hb⟩:=L.tok o y S;rcases p T with⟨a,b,c⟩|⟨b,H,P,Y,a1,W,X,M⟩
   ·exact .inl ⟨O.trans a,b,c⟩
   ·exact .inr ⟨b,H,P,Y,O.trans a1,W,(hb b a1).trans X,M.1,M.2.1,M.2.2.1,M.2.2.2.1,R.trans M.2.2.2.2⟩
 |.nils,_,hh=>hh
 |.vec o,v,⟨y,I,hr⟩=>⟨L.al o y,I,fun e n K=>by
   obtain⟨b,D,p⟩:=hr e n ((L.ob o y).row K);exact⟨b,(L.hm o y (by intro hd;rw[hd]at K;simp[fN]at K)).trans D,p⟩⟩
 |.ptr o E,v,⟨y,I,hr⟩=>⟨L.al o y,I,fun hd=>by
   obtain⟨b,D,p⟩:=hr ((L.ob o y).alive hd);exact⟨b,(L.hm o y hd).trans D,p⟩⟩
 |.OZ o i c,v,⟨y,I,hr⟩=>⟨L.al o y,I,fun e n K=>by
   obtain⟨b,D,p⟩:=hr e n ((L.ob o y).row K);exact⟨b,(L.hm o y (by intro hd;rw[hd]at K;simp[fN]at K)).trans D,p⟩⟩
 |.YG o E _ i,v,⟨y,I,hr⟩=>⟨L.al o y,I,fun hd=>by
   obtain⟨b,D,p⟩:=hr ((L.ob o y).alive hd);exact⟨b,(L.hm o y hd).trans D,p⟩⟩
 |.zD a x c,v,⟨b,E,us,D,p,Q⟩=>⟨b,E,us,D,PR.mono L.z L.zp _ _ _ p,fun j u hj=>by
   obtain⟨V,J⟩:=Q j u hj;rcases J with J |J
   ·exact⟨(L.z _ _ J).2.trans V,.inl (L.z _ _ J).1⟩
   ·exact⟨(L.zp _ _ J).2.trans V,.inr J⟩⟩
 |.clos f ids,v,⟨N,D,p⟩=>⟨N,D,bY.mono (fun o es ⟨y,u,e,hp,hr⟩=>⟨L.al o y,u,e,hp,fun hd=>by
   obtain⟨b,D,p⟩:=hr ((L.ob o y).alive hd);exact⟨b,(L.hm o y hd).trans D,p⟩⟩) _ _ p⟩
 |.nilfn,_,hh=>hh
 |.nilp,_,hh=>hh
 |.mp o,v,⟨y,I,hr⟩=>⟨L.al o y,I,fun hd=>by
   obtain⟨b,D,p⟩:=hr ((L.ob o y).alive hd);exact⟨b,(L.hm o y hd).trans D,p⟩⟩
 |.vE _ _ _,_,hh=>PR.mono L.z L.zp _ _ _ hh
 |.gp c E none,_,hh=>hh
 |.gp c E (some id),_,⟨e,D,p⟩=>⟨e,L.pm _ _ _ D,p⟩
 |.gs c none,_,hh=>hh
 |.gs c (some (id,a,n)),_,⟨b,k,H,U,o,D,p⟩=>⟨b,k,H,U,o,L.pm _ _ _ D,p⟩
 |.ge c id ix E,_,⟨b,k,H,U,D,p⟩=>⟨b,k,H,U,L.pm _ _ _ D,p⟩
 |.gm c none,_,hh=>hh
 |.gm c (some id),_,⟨e,D,p⟩=>⟨e,L.pm _ _ _ D,p⟩
 |.gcl _ _ _ none,_,hh=>hh
 |.gcl _ l m (some q),_,⟨a,b,D,p,Q⟩=>⟨a,b,D,qe.mono L.pm _ _ _ p,qe.mono L.pm _ _ _ Q⟩
theorem cw.mono(L:Le Zp h g w h' g' w'):∀(cs:List C) (vs:List Value),cw w base Zp h g cs vs→cw w' base Zp h' g' cs vs
 |[],_,hh=>hh
 |c::cs,_,⟨v,a,e,i,j⟩=>⟨v,a,e,CR.mono L c v i,cw.mono L cs a j⟩
theorem VR.mono(L:Le Zp h g w h' g' w')(agg:Bool)(cs:List C)(v:Value)(hh:VR w base Zp h g agg cs v):VR w' base Zp h' g' agg cs v:=by
 cases agg with
 |true=>obtain⟨vs,e,a⟩:=hh;exact⟨vs,e,cw.mono L _ _ a⟩
 |false=>exact cw.mono L _ _ hh
theorem AR.mono(L:Le Zp h g w h' g' w')(a:A)(v:Value)(hh:AR w base Zp h g a v):AR w' base Zp h' g' a v:=by
 cases a with
 |v agg x=>exact VR.mono L _ _ _ hh
 |g6 ps=>
  obtain⟨vs,e,i⟩:=hh;exact⟨vs,e,bY.mono (fun p es ⟨u,e,j⟩=>⟨u,e,VR.mono L _ _ _ j⟩) _ _ i⟩
end
theorem cw.length{w:World}{base:Nat}{Zp:bj}{h:aP}{g:G}:∀(cs:List C) (vs:List Value),cw w base Zp h g cs vs→vs.length=cs.length
 |[],_,hh=>by simp[cw]at hh;simp[hh]
 |_::cs,_,⟨v,a,e,_,i⟩=>by simp[e,cw.length cs a i]
theorem cw.append{w:World}{base:Nat}{Zp:bj}{h:aP}{g:G}:∀(cs ds:List C) (vs us:List Value),cw w base Zp h g cs vs→cw w base Zp h g ds us→cw w base Zp h g (cs++ds) (vs++us)
 |[],_,_,_,i,j=>by simp[cw]at i;subst i;simpa using j
 |_::cs,ds,_,us,⟨v,a,e,i,p⟩,j=>by subst e;exact⟨v,a++us,by simp,i,cw.append cs ds a us p j⟩
theorem cw.split{w:World}{base:Nat}{Zp:bj}{h:aP}{g:G}:∀(cs ds:List C) (vs:List Value),cw w base Zp h g (cs++ds) vs→∃us rs,vs=us++rs∧cw w base Zp h g cs us∧cw w base Zp h g ds rs
 |[],_,vs,hh=>⟨[],vs,by simp,by simp[cw],by simpa using hh⟩
 |_::cs,ds,_,⟨v,a,e,j,p⟩=>by
  obtain⟨us,rs,i,x,y⟩:=cw.split cs ds a p;exact⟨v::us,rs,by simp[e,i],⟨v,us,rfl,j,x⟩,y⟩
theorem cw.take{w:World}{base:Nat}{Zp:bj}{h:aP}{g:G}(n:Nat):∀(cs:List C) (vs:List Value),cw w base Zp h g cs vs→cw w base Zp h g (cs.take n) (vs.take n):=by
 induction n with
 |zero=>intro cs vs _;simp[cw]
 |succ n p=>
  intro cs vs hh
  cases cs with
  |nil=>simp[cw]at hh;subst hh;simp[cw]
  |cons c cs=>obtain⟨v,a,e,i,j⟩:=hh;subst e;exact⟨v,a.take n,by simp,i,p _ _ j⟩
theorem cw.drop{w:World}{base:Nat}{Zp:bj}{h:aP}{g:G}(n:Nat):∀(cs:List C) (vs:List Value),cw w base Zp h g cs vs→cw w base Zp h g (cs.drop n) (vs.drop n):=by
 induction n with
 |zero=>intro cs vs hh;simpa using hh
 |succ n j=>
  intro cs vs hh
  cases cs with
  |nil=>simp[cw]at hh;subst hh;simp[cw]
  |cons c cs=>obtain⟨v,a,e,p,i⟩:=hh;subst e;simpa using j _ _ i
theorem CR.one{w:World}{base:Nat}{Zp:bj}{h:aP}{g:G}:∀(c:C) (v:Value),c.known=true→CR w base Zp h g c v→v.oneCell'=true
 |.undef,_,a,_=>by simp[C.known]at a
 |.bool _,_,_,hh=>by simp[CR]at hh;subst hh;rfl
 |.int _ _,_,_,hh=>by simp[CR]at hh;subst hh;rfl
 |.str _,_,_,hh=>by simp[CR]at hh;subst hh;rfl
 |.sl _ _ _,_,_,⟨⟨_,_,_,hh,_⟩,_⟩=>by simp at hh;subst hh;rfl
 |.nils,_,_,hh=>by simp[CR]at hh;subst hh;rfl
 |.vec _,_,_,⟨_,⟨_,_,_,hh⟩,_⟩=>by subst hh;rfl
 |.ptr _ _,_,_,⟨_,⟨_,hh⟩,_⟩=>by subst hh;rfl
 |.OZ _ _ _,_,_,⟨_,⟨_,hh⟩,_⟩=>by subst hh;rfl
 |.YG _ _ _ _,_,_,⟨_,⟨_,hh⟩,_⟩=>by subst hh;rfl
 |.zD _ _ _,_,_,⟨_,_,_,hh,_⟩=>by subst hh;rfl
 |.clos _ _,_,_,⟨_,hh,_⟩=>by subst hh;rfl
 |.nilfn,_,_,hh=>by simp[CR]at hh;subst hh;rfl
 |.nilp,_,_,hh=>by simp[CR]at hh;subst hh;rfl
 |.mp _,_,_,⟨_,⟨_,hh⟩,_⟩=>by subst hh;rfl
 |.vE _ _ _,_,_,⟨_,hh,_⟩=>by simp at hh;subst hh;rfl
 |.gp _ _ none,_,_,hh=>by simp[CR]at hh;subst hh;rfl
 |.gp _ _ (some _),_,_,⟨_,_,_,hh⟩=>by subst hh;rfl
 |.gs _ none,_,_,hh=>by simp[CR]at hh;subst hh;rfl
 |.gs _ (some (_,_,_)),_,_,⟨_,_,_,_,_,_,_,_,hh⟩=>by subst hh;rfl
 |.ge _ _ _ _,_,_,⟨_,_,_,_,_,hh⟩=>by subst hh;rfl
 |.gm _ none,_,_,hh=>by simp[CR]at hh;subst hh;rfl
 |.gm _ (some _),_,_,⟨_,_,hh⟩=>by subst hh;rfl
 |.gcl _ _ _ none,_,_,hh=>by simp[CR]at hh;subst hh;rfl
 |.gcl _ _ _ (some _),_,_,⟨_,_,hh,_⟩=>by subst hh;rfl
theorem cw.one{w:World}{base:Nat}{Zp:bj}{h:aP}{g:G}:∀(cs:List C) (vs:List Value),cs.all C.known=true→cw w base Zp h g cs vs→∀v∈vs,v.oneCell'=true
 |[],_,_,hh=>by simp[cw]at hh;simp[hh]
 |c::cs,_,j,⟨v,a,e,p,x⟩=>by
  simp at j;subst e;intro u i;simp at i;rcases i with rfl |i
  ·exact CR.one c u j.1 p
  ·exact cw.one cs a (by simpa using j.2) x u i
theorem cw.nQ{w:World}{base:Nat}{Zp:bj}{h:aP}{g:G}:∀(τ:Ty) (x:τ.den) (vs:List Value),PR w g.Z Zp τ x vs→cw w base Zp h g (τ.cells x) vs
 |.bool,_,_,hh=>⟨_,[],hh,rfl,rfl⟩
 |.int _,_,_,hh=>⟨_,[],hh,rfl,rfl⟩
 |.str,_,_,hh=>⟨_,[],hh,rfl,rfl⟩
 |.sl e,l,_,⟨base,D,us,I,J⟩=>⟨_,[],I,⟨⟨base,D,us,rfl,J⟩,trivial⟩,rfl⟩
 |.pair a b,x,_,⟨us,rs,e,p,y⟩=>by subst e;exact cw.append _ _ _ _ (cw.nQ a _ _ p) (cw.nQ b _ _ y)
 |.unit,_,_,hh=>hh
 |.ref a,x,_,⟨b,E,us,e,p,y⟩=>⟨_,[],e,⟨b,E,us,by simp,p,fun j u H=>⟨(y j u H).1,.inr (y j u H).2⟩⟩,rfl⟩
 |.fn f,_,_,hh=>⟨_,[],hh,⟨#[],rfl,by simp[bY]⟩,rfl⟩
 |.cl f a,x,_,⟨i,e,p⟩=>⟨_,[],e,⟨i,rfl,p⟩,rfl⟩
theorem jB{a b:Ty}{l:List a.den}{m:List b.den}(c:lM a b l=some m):∃h:a=b,m=h▸l:=by
 unfold lM at c
 split at c
 ·rename_i h _;cases c;exact⟨h,rfl⟩
 ·cases c
theorem LV{w:World}{base:Nat}{Zp:bj}{h:aP}{g:G}:∀(τ:Ty) (cs:List C) (vs:List Value) (x:τ.den) (r:List C),τ.bH=true→cw w base Zp h g cs vs→τ.take cs=some (x,r)→
  ∃u rs,vs=u++rs∧PR w g.Z Zp τ x u∧cw w base Zp h g r rs
 |.bool,cs,vs,x,r,_,n,d=>by
  cases cs with
  |nil=>simp[Ty.take]at d
  |cons c cs=>
   obtain⟨v,i,e,j,o⟩:=n
   cases c<;>simp[Ty.take]at d;obtain⟨rfl,rfl⟩:=d;simp[CR]at j;exact⟨[v],i,e,by simp[PR,j],o⟩
 |.int k,cs,vs,x,r,_,n,d=>by
  cases cs with
  |nil=>simp[Ty.take]at d
  |cons c cs=>
   obtain⟨v,i,e,j,o⟩:=n
   cases c<;>simp only[Ty.take]at d<;>try (cases d;done)
   split at d
   ·rename_i P _;subst P;simp at d;obtain⟨rfl,rfl⟩:=d;simp[CR]at j;exact⟨[v],i,e,by simp[PR,j],o⟩
   ·cases d
 |.str,cs,vs,x,r,_,n,d=>by
  cases cs with
  |nil=>simp[Ty.take]at d
  |cons c cs=>
   obtain⟨v,i,e,j,o⟩:=n
   cases c<;>simp[Ty.take]at d;obtain⟨rfl,rfl⟩:=d;simp[CR]at j;exact⟨[v],i,e,by simp[PR,j],o⟩
 |.sl e,cs,vs,x,r,_,n,d=>by
  cases cs with
  |nil=>simp[Ty.take]at d
  |cons c cs=>
   obtain⟨v,i,D,j,o⟩:=n
   cases c<;>simp only[Ty.take]at d<;>try (cases d;done)
   ·rename_i S l t
    split at d
    ·rename_i m F;obtain⟨N,F⟩:=jB F;subst N;subst F;simp at d;obtain⟨rfl,rfl⟩:=d;exact⟨[v],i,D,j.1,o⟩
    ·cases d
   ·simp at d;obtain⟨rfl,rfl⟩:=d;simp[CR]at j;exact⟨[v],i,D,⟨none,0,[],by simp[j],by simp,by simp[bY],by simp[At]⟩,o⟩
 |.pair a b,cs,vs,x,r,p,n,d=>by
  simp[Ty.bH]at p;simp only[Ty.take]at d
  split at d
  ·rename_i y K j
   split at d
   ·rename_i z T o
    cases d;obtain⟨u,rs,e,Q,L⟩:=LV a cs vs y K p.1 n j;obtain⟨B,I,E,R,M⟩:=LV b K rs z _ p.2 L o;exact⟨u++B,I,by simp[e,E],⟨u,B,rfl,Q,R⟩,M⟩
   ·cases d
  ·cases d
 |.unit,cs,vs,x,r,_,n,d=>by
  cases d;exact⟨[],vs,by simp,by simp[PR],n⟩
 |.ref a,_,_,_,_,p,_,_=>by simp[Ty.bH]at p
 |.cl _ _,_,_,_,_,p,_,_=>by simp[Ty.bH]at p
 |.fn f,cs,vs,x,r,_,n,d=>by
  cases cs with
  |nil=>simp[Ty.take]at d
  |cons c cs=>
   obtain⟨v,i,D,j,o⟩:=n
   cases c<;>try (cases d;done)
   rename_i g' H
   cases H with
   |cons _ _=>cases d
   |nil=>
   simp only[Ty.take]at d
   split at d
   ·rename_i O _;subst O
    cases d;obtain⟨q,E,J⟩:=j;simp[bY]at J;have:q= #[]:=by simpa using J
    subst this;exact⟨[v],i,D,by simp[PR,E],o⟩
   ·cases d
theorem da{w:World}{base:Nat}{Zp:bj}{h:aP}{g:G}{τ:Ty}{cs:List C}{vs:List Value}{x:τ.den}(d:τ.bH=true)(b:cw w base Zp h g cs vs)(a:τ.cf cs=some x):PR w g.Z Zp τ x vs:=by
 unfold Ty.cf at a
 split at a
 ·rename_i y i
  cases a;obtain⟨k,j,e,p,c⟩:=LV τ cs vs _ _ d b i;simp[cw]at c;subst c;simp at e;subst e;exact p
 ·cases a
theorem aG{α:Type}(d:α)(t u:Nat)(x:α)(r:List (Nat×α)):look d t ((u,x)::r)=if u=t then x else look d t r:=by
 by_cases h:u=t
 ·subst h;simp[look]
 ·have:bh u t=false:=by
   cases a:bh u t with
   |false=>rfl
   |true=>exact absurd (aj a) h
  simp[look,this,h]
def VB{α:Type}(f:Nat→α)(n:Nat)(x:α)(o:Nat):α:=if o=n then x else f o
theorem kQ{α:Type}(f:Nat→α)(n:Nat)(x:α):VB f n x n=x:=by simp[VB]
theorem gb{α:Type}(f:Nat→α){n o:Nat}(x:α)(h:o≠n):VB f n x o=f o:=by simp[VB,h]
section
variable {w0:W0} {w w':World} {Z0 Zp:bj} {h h':aP} {g g':G}
theorem HR.alive(R:HR w0 Z0 Zp h g w){o:Nat}(hd:look .dead o h≠.dead):g.al o:=by
 by_cases a:g.al o
 ·exact a
 ·exact absurd (R.dead o a) hd
theorem HR.eL(R:HR w0 Z0 Zp h g w):w0.heap.size≤w.heap.size:=R.ext.size
theorem HR.zpk(_:HR w0 Z0 Zp h g w)(p:∀b,b<w0.heap.size→¬ w0.B b→w'.heap[b]? =w.heap[b]?)(a:∀b i,Zp b i→b<w0.heap.size∧¬ w0.B b):bQ w w' Zp Zp:=
 fun b i j=>⟨j,aL (p b (a b i j).1 (a b i j).2)⟩
theorem mh.mono{base:Nat}(L:Le Zp h g w h' g' w'){c id:Nat}(hb:∀e,g.pm c id=some e→w'.heap[e.1]? =w.heap[e.1]?):∀(K:GK) (x:K.me),mh w base Zp h g c id K x→mh w' base Zp h' g' c id K x
 |.st V,x,⟨E,b,i,D,M,a,H,I⟩=>⟨E,b,i,D,M,L.pm _ _ _ a,(hb _ a).trans H,cw.mono L _ _ I⟩
 |.bf V,x,⟨E,b,k,i,D,M,a,H,I,J,Q,R⟩=>⟨E,b,k,i,D,M,L.pm _ _ _ a,(hb _ a).trans H,I,J,Q,bY.mono (fun _ es S=>cw.mono L _ es S) _ _ R⟩
 |.mp k V,x,⟨E,N,b,es,y,a,H,I,J⟩=>⟨E,N,b,es,y,L.pm _ _ _ a,(hb _ a).trans H,I,fun j p e P O=>⟨(J j p e P O).1,VR.mono L _ _ _ (J j p e P O).2⟩⟩
theorem GHR.keep(R:GHR w0 Zp h g w)(L:Le Zp h g w h' g' w')(p:∀c wr K H,look .dead c h'= .gh wr K H→look .dead c h= .gh wr K H)(D:g'.pm=g.pm)
  (hb:∀c id b,GL h g c id b→w'.heap[b]? =w.heap[b]?) (P:w.heap.size≤w'.heap.size) (Q:∀c id b i,GL h g c id b→¬ g'.Z b i) (O:∀c id b o,GL h g c id b→look .dead o h'≠.dead→g'.hm o=some b→False):
  GHR w0 Zp h' g' w':=by
 have y:∀c id b,GL h' g' c id b→GL h g c id b:=fun c id b ⟨wr,K,H,x,e,a,j,E,M⟩=>⟨wr,K,H,x,e,p _ _ _ _ a,j,D▸E,M⟩;refine⟨fun c wr K H id x a j=> ?_,fun c wr K H id a j=> ?_,fun c id b a=> ?_,fun c K H id x e a j E=> ?_,fun c id J I b a j=> ?_,fun c id b i a=>Q c id b i (y _ _ _ a),fun c id b o a=>O c id b o (y _ _ _ a),fun c wr V H id e a j=>R.psz c wr V H id e (p _ _ _ _ a) (D▸j),fun c id e a=> ?_,fun c K H a=>R.ro c K H (p _ _ _ _ a),fun c id b i a=>R.zpx c id b i (y _ _ _ a),fun c wr K H a=>R.YT c wr K H (p _ _ _ _ a),fun c K H a=>R.wsr c K H (p _ _ _ _ a),fun c id e a=>R.new c id e (D▸a)⟩
 ·exact mh.mono L (fun e N=>hb c id e.1 ⟨wr,K,H,x,e,p _ _ _ _ a,j,N,rfl⟩) _ _ (R.me c wr K H id x (p _ _ _ _ a) j)
 ·rw[D];exact R.fresh c wr K H id (p _ _ _ _ a) j
 ·exact bi (R.lt c id b (y _ _ _ a)) P
 ·exact R.own c K H id x e (p _ _ _ _ a) j (D▸E)
 ·exact R.iW c id J I b (y _ _ _ a) (y _ _ _ j)
 ·rw[D];exact R.old c id e a
theorem EO.mono{base:Nat}(L:Le Zp h g w h' g' w'){o:Nat}{x:Ob}(a:x= .dead∨g'.hm o=g.hm o)(hb:x≠.dead→∀b,g.hm o=some b→w'.heap[b]? =w.heap[b]?)
  (hh:EO w base Zp h g o x):EO w' base Zp h' g' o x:=by
 cases x with
 |dead=>trivial
 |tok=>trivial
 |cells R=>
  obtain⟨b,j,J,y,E,I⟩:=hh;rcases a with a |a
  ·cases a
  ·exact⟨b,j,J,a.trans y,(hb (by simp) b y).trans E,cw.mono L _ _ I⟩
 |row e l=>
  obtain⟨M,p,b,j,J,y,E,I⟩:=hh;rcases a with a |a
  ·cases a
  ·exact⟨M,p,b,j,J,a.trans y,(hb (by simp) b y).trans E,bY.mono (fun x es a=>PR.mono L.z L.zp _ _ _ a) _ _ I⟩
 |pS e l=>
  obtain⟨M,p,b,j,J,O,y,E,I,P⟩:=hh;rcases a with a |a
  ·cases a
  ·exact⟨M,p,b,j,J,O,a.trans y,(hb (by simp) b y).trans E,bY.mono (fun x es a=>PR.mono L.z L.zp _ _ _ a) _ _ I,fun i Q=>(L.z b i (P i Q)).1⟩
 |map k v l=>
  obtain⟨M,p,N,b,es,D,y,E,I⟩:=hh;rcases a with a |a
  ·cases a
  ·exact⟨M,p,N,b,es,D,a.trans y,(hb (by simp) b y).trans E,I⟩
 |gh wr K H=>
  rcases a with a |a
  ·cases a
  ·exact a.trans hh
def sX(g:G)(new:Nat)(b:Option Nat)(k:Nat):G:=
 { al:=fun o=>g.al o∨o=new,Z:=fun c i=>g.Z c i∨(b=some c∧i<k),hm:=VB g.hm new b,lo:=VB g.lo new k,pm:=g.pm }
theorem Le.alloc(R:HR w0 Z0 Zp h g w){y:Obj}{new:Nat}(D:¬ g.al new)(x:Ob)(k:Nat)(I:w'.heap=w.heap.push y):
  Le Zp h g w ((new,x)::h) (sX g new (some w.heap.size) k) w':=by
 have j:∀b:Nat,b<w.heap.size→w'.heap[b]? =w.heap[b]? :=fun b hb=>by rw[I,Array.getElem?_push,if_neg (Nat.ne_of_lt hb)]
 refine⟨fun o p=> .inl p,fun b i H=>⟨.inl H,aL (j b (R.BE b i H))⟩,
  R.zpk (fun b hb _=>j b (bi hb R.eL)) R.zp,fun o p=> ?_,fun o p _=> ?_,fun o p E=> ?_,fun _ _ _ h=>h⟩
 ·have a:new≠o:=fun e=>D (e▸p);rw[aG,if_neg a];exact Ob.to.refl _
 ·have a:o≠new:=fun e=>D (e▸p);exact gb _ _ a
 ·have a:o≠new:=fun e=>D (e▸p);rw[aG,if_neg (Ne.symm a)]at E;exact⟨gb _ _ a,fun b hb=>j b (R.home o b (by rw[E];simp) hb).2⟩
theorem HR.alloc(R:HR w0 Z0 Zp h g w){y:Obj}{new:Nat}(hn:¬ g.al new)(x:Ob)(k:Nat)(X:w'.heap=w.heap.push y)(he:w0.Extends w')
  (U:EO w' w0.heap.size Zp ((new,x)::h) (sX g new (some w.heap.size) k) new x) (ho:x.open? =true→k=0):
  HR w0 Z0 Zp ((new,x)::h) (sX g new (some w.heap.size) k) w':=by
 have L:=Le.alloc R hn x k X;have P:∀b:Nat,b<w.heap.size→w'.heap[b]? =w.heap[b]? :=fun b hb=>by rw[X,Array.getElem?_push,if_neg (Nat.ne_of_lt hb)]
 have hsz:w'.heap.size=w.heap.size+1:=by rw[X];simp
 have N:∀o,o≠new→look .dead o ((new,x)::h)=look .dead o h:=fun o a=>by rw[aG,if_neg (Ne.symm a)]
 have T:look .dead new ((new,x)::h)=x:=by rw[aG,if_pos rfl]
 have D:∀o,o≠new→(sX g new (some w.heap.size) k).hm o=g.hm o:=fun o a=>gb _ _ a;have I:(sX g new (some w.heap.size) k).hm new=some w.heap.size:=kQ _ _ _;refine⟨he,fun o=> ?_,fun o Y=> ?_,fun o b hd hb=> ?_,fun o p b hd O hb J=> ?_,fun o b i M hb j=> ?_,fun o b i W hb j=> ?_,fun b i j=> ?_,fun b i hb j=> ?_,fun b i j=> .inl (R.z0 b i j),R.zp,R.gh.keep L (fun c wr K H V=> ?_) rfl (fun c id b S=>P b (R.gh.lt c id b S)) (by omega) (fun c id b i S j=> ?_) (fun c id b o S hd hb=> ?_)⟩
 ·by_cases a:o=new
  ·subst a;rw[T];exact U
  ·rw[N o a];exact EO.mono L (.inr (D o a)) (fun hd b hb=>P b (R.home o b hd hb).2) (R.ob o)
 ·have a:o≠new:=fun e=>Y (.inr e);rw[N o a];exact R.dead o fun h=>Y (.inl h)
 ·by_cases a:o=new
  ·subst a;rw[I]at hb;cases hb;exact⟨R.eL,by omega⟩
  ·rw[N o a]at hd;rw[D o a]at hb;have:=R.home o b hd hb;exact⟨this.1,by omega⟩
 ·by_cases E:o=new
  ·by_cases Q:p=new
   ·rw[E,Q]
   ·subst E;rw[I]at hb;cases hb;rw[N p Q]at O;rw[D p Q]at J;exact absurd (R.home p _ O J).2 (Nat.lt_irrefl _)
  ·by_cases Q:p=new
   ·subst Q;rw[I]at J;cases J;rw[N o E]at hd;rw[D o E]at hb;exact absurd (R.home o _ hd hb).2 (Nat.lt_irrefl _)
   ·rw[N o E]at hd;rw[D o E]at hb;rw[N p Q]at O;rw[D p Q]at J;exact R.iW o p b hd O hb J
 ·by_cases E:o=new
  ·subst E;rw[I]at hb;cases hb;rw[T]at M;rcases j with j |⟨_,j⟩
   ·exact absurd (R.BE _ _ j) (Nat.lt_irrefl _)
   ·have:=ho M;omega
  ·rw[N o E]at M;rw[D o E]at hb;rcases j with j |⟨e,_⟩
   ·exact R.gI o b i M hb j
   ·cases e;exact absurd (R.home o _ (by intro hd;rw[hd]at M;simp[Ob.open?]at M) hb).2 (Nat.lt_irrefl _)
 ·by_cases E:o=new
  ·subst E;rw[I]at hb;cases hb;show i<VB g.lo o k o;rw[kQ];rcases j with j |⟨_,j⟩
   ·exact absurd (R.BE _ _ j) (Nat.lt_irrefl _)
   ·exact j
  ·rw[N o E]at W;rw[D o E]at hb;show i<VB g.lo new k o;rw[gb _ _ E];rcases j with j |⟨e,_⟩
   ·exact R.BZ o b i W hb j
   ·cases e;exact absurd (R.home o _ (by rw[W];simp) hb).2 (Nat.lt_irrefl _)
 ·rcases j with j |⟨e,_⟩
  ·have:=R.BE b i j;omega
  ·cases e;omega
 ·rcases j with j |⟨e,_⟩
  ·exact R.zk b i hb j
  ·cases e;exact absurd hb (Nat.not_lt.2 R.eL)
 ·by_cases a:c=new
  ·subst a;rw[T]at V;rw[V]at U;have U:(sX g c (some w.heap.size) k).hm c=none:=U;rw[I]at U;cases U
  ·rw[N c a]at V;exact V
 ·rcases j with j |⟨e,_⟩
  ·exact R.gh.gI c id b i S j
  ·cases e;exact absurd (R.gh.lt c id _ S) (Nat.lt_irrefl _)
 ·by_cases a:o=new
  ·subst a;rw[I]at hb;cases hb;exact absurd (R.gh.lt c id _ S) (Nat.lt_irrefl _)
  ·rw[N o a]at hd;rw[D o a]at hb;exact R.gh.loc c id b o S hd hb
theorem HR.acW(R:HR w0 Z0 Zp h g w){new:Nat}(T:¬ g.al new):HR w0 Z0 Zp ((new,.tok)::h) (sX g new none 0) w∧Le Zp h g w ((new,.tok)::h) (sX g new none 0) w:=by
 have I:∀o,o≠new→look .dead o ((new,.tok)::h)=look .dead o h:=fun o a=>by rw[aG,if_neg (Ne.symm a)]
 have O:look .dead new ((new,Ob.tok)::h)= .tok:=by rw[aG,if_pos rfl]
 have x:∀o,o≠new→(sX g new none 0).hm o=g.hm o:=fun o a=>gb _ _ a;have y:(sX g new none 0).hm new=none:=kQ _ _ _;have L:Le Zp h g w ((new,.tok)::h) (sX g new none 0) w:=by
  refine⟨fun o E=> .inl E,fun b i j=>⟨.inl j,rfl⟩,bQ.refl _ _,fun o E=> ?_,fun o E _=> ?_,fun o E U=> ?_,fun _ _ _ h=>h⟩
  ·rw[I o (fun e=>T (e▸E))];exact Ob.to.refl _
  ·exact x o (fun e=>T (e▸E))
  ·exact⟨gb _ _ (fun e=>T (e▸E)),fun _ _=>rfl⟩
 refine⟨⟨R.ext,fun o=> ?_,fun o E=> ?_,fun o b hd hb=> ?_,fun o p b hd M hb J=> ?_,fun o b i N hb j=> ?_,fun o b i U hb j=> ?_,fun b i j=> ?_,fun b i hb j=> ?_,fun b i j=> .inl (R.z0 b i j),R.zp,R.gh.keep L (fun c wr K H Q=> ?_) rfl (fun c id b P=>rfl) (av _) (fun c id b i P j=> ?_) (fun c id b o P hd hb=> ?_)⟩,L⟩
 ·by_cases a:o=new
  ·subst a;rw[O];trivial
  ·rw[I o a];exact EO.mono L (.inr (x o a)) (fun _ _ _=>rfl) (R.ob o)
 ·have a:o≠new:=fun e=>E (.inr e);rw[I o a];exact R.dead o fun h=>E (.inl h)
 ·by_cases a:o=new
  ·subst a;rw[y]at hb;cases hb
  ·rw[I o a]at hd;rw[x o a]at hb;exact R.home o b hd hb
 ·by_cases D:o=new
  ·subst D;rw[y]at hb;cases hb
  ·by_cases S:p=new
   ·subst S;rw[y]at J;cases J
   ·rw[I o D]at hd;rw[x o D]at hb;rw[I p S]at M;rw[x p S]at J;exact R.iW o p b hd M hb J
 ·by_cases D:o=new
  ·subst D;rw[y]at hb;cases hb
  ·rw[I o D]at N;rw[x o D]at hb;rcases j with j |⟨e,_⟩
   ·exact R.gI o b i N hb j
   ·cases e
 ·by_cases D:o=new
  ·subst D;rw[y]at hb;cases hb
  ·rw[I o D]at U;rw[x o D]at hb;show i<VB g.lo new 0 o;rw[gb _ _ D];rcases j with j |⟨e,_⟩
   ·exact R.BZ o b i U hb j
   ·cases e
 ·rcases j with j |⟨e,_⟩
  ·exact R.BE b i j
  ·cases e
 ·rcases j with j |⟨e,_⟩
  ·exact R.zk b i hb j
  ·cases e
 ·by_cases a:c=new
  ·subst a;rw[O]at Q;cases Q
  ·rw[I c a]at Q;exact Q
 ·rcases j with j |⟨e,_⟩
  ·exact R.gh.gI c id b i P j
  ·cases e
 ·by_cases a:o=new
  ·subst a;rw[y]at hb;cases hb
  ·rw[I o a]at hd;rw[x o a]at hb;exact R.gh.loc c id b o P hd hb
theorem HR.acX(R:HR w0 Z0 Zp h g w){new b k:Nat}(Y:¬ g.al new)(y:∀o,look .dead o h≠.dead→g.hm o≠some b)(U:∀c id,¬ GL h g c id b)(hb1:w0.heap.size≤b)(S0:b<w.heap.size)
  (hw:∀c,c≠b→w'.heap[c]? =w.heap[c]?) (hs:w'.heap.size=w.heap.size) (he:w0.Extends w') (hk:∀i,g.Z b i→i<k∧w'.cell? ⟨b,i,none⟩=w.cell? ⟨b,i,none⟩):
  HR w0 Z0 Zp ((new,.tok)::h) (sX g new (some b) k) w'∧Le Zp h g w ((new,.tok)::h) (sX g new (some b) k) w':=by
 have M:∀o,o≠new→look .dead o ((new,Ob.tok)::h)=look .dead o h:=fun o j=>by rw[aG,if_neg (Ne.symm j)]
 have V:look .dead new ((new,Ob.tok)::h)= .tok:=by rw[aG,if_pos rfl]
 have D:∀o,o≠new→(sX g new (some b) k).hm o=g.hm o:=fun o j=>gb _ _ j;have O:(sX g new (some b) k).hm new=some b:=kQ _ _ _;have Q:∀o,look .dead o h≠.dead→∀c,g.hm o=some c→w'.heap[c]? =w.heap[c]? :=fun o hd c a=>hw c (fun e=>y o hd (e▸a))
 have L:Le Zp h g w ((new,.tok)::h) (sX g new (some b) k) w':=by
  refine⟨fun o N=> .inl N,fun c i x=>⟨.inl x,?_⟩,R.zpk (fun c a _=>hw c (by omega)) R.zp,fun o N=> ?_,fun o N _=> ?_,fun o N W=> ?_,fun _ _ _ h=>h⟩
  ·by_cases a:c=b
   ·subst a;exact(hk i x).2
   ·exact aL (hw c a)
  ·rw[M o (fun e=>Y (e▸N))];exact Ob.to.refl _
  ·exact D o (fun e=>Y (e▸N))
  ·rw[M o (fun e=>Y (e▸N))]at W;exact⟨gb _ _ (fun e=>Y (e▸N)),fun c a=>Q o (by rw[W];simp) c a⟩
 refine⟨⟨he,fun o=> ?_,fun o N=> ?_,fun o c hd a=> ?_,fun o p c hd P a I=> ?_,fun o c i J a x=> ?_,fun o c i W a x=> ?_,fun c i x=> ?_,fun c i a x=> ?_,fun c i x=> .inl (R.z0 c i x),R.zp,R.gh.keep L (fun c wr K H a=> ?_) rfl (fun c id X T=>hw X (fun e=>U c id (e▸T))) (by omega) (fun c id X i T x=> ?_) (fun c id X o T hd a=> ?_)⟩,L⟩
 ·by_cases j:o=new
  ·subst j;rw[V];trivial
  ·rw[M o j];exact EO.mono L (.inr (D o j)) (fun hd c a=>Q o hd c a) (R.ob o)
 ·have j:o≠new:=fun e=>N (.inr e);rw[M o j];exact R.dead o fun h=>N (.inl h)
 ·by_cases j:o=new
  ·subst j;rw[O]at a;cases a;exact⟨hb1,by omega⟩
  ·rw[M o j]at hd;rw[D o j]at a;have:=R.home o c hd a;omega
 ·by_cases E:o=new
  ·by_cases S:p=new
   ·rw[E,S]
   ·subst E;rw[O]at a;cases a;rw[M p S]at P;rw[D p S]at I;exact absurd I (y p P)
  ·by_cases S:p=new
   ·subst S;rw[O]at I;cases I;rw[M o E]at hd;rw[D o E]at a;exact absurd a (y o hd)
   ·rw[M o E]at hd;rw[D o E]at a;rw[M p S]at P;rw[D p S]at I;exact R.iW o p c hd P a I
 ·by_cases E:o=new
  ·subst E;rw[V]at J;simp[Ob.open?]at J
  ·rw[M o E]at J;rw[D o E]at a;rcases x with x |⟨e,_⟩
   ·exact R.gI o c i J a x
   ·cases e;exact y o (by intro hd;rw[hd]at J;simp[Ob.open?]at J) a
 ·by_cases E:o=new
  ·subst E;rw[O]at a;cases a;show i<VB g.lo o k o;rw[kQ];rcases x with x |⟨_,x⟩
   ·exact(hk i x).1
   ·exact x
  ·rw[M o E]at W;rw[D o E]at a;show i<VB g.lo new k o;rw[gb _ _ E];rcases x with x |⟨e,_⟩
   ·exact R.BZ o c i W a x
   ·cases e;exact absurd a (y o (by rw[W];simp))
 ·rcases x with x |⟨e,_⟩
  ·have:=R.BE c i x;omega
  ·cases e;omega
 ·rcases x with x |⟨e,_⟩
  ·exact R.zk c i a x
  ·cases e;omega
 ·by_cases j:c=new
  ·subst j;rw[V]at a;cases a
  ·rw[M c j]at a;exact a
 ·rcases x with x |⟨e,_⟩
  ·exact R.gh.gI c id X i T x
  ·cases e;exact U c id T
 ·by_cases j:o=new
  ·subst j;rw[O]at a;cases a;exact U c id T
  ·rw[M o j]at hd;rw[D o j]at a;exact R.gh.loc c id X o T hd a
theorem HR.drop(R:HR w0 Z0 Zp h g w)(o:Nat):HR w0 Z0 Zp ((o,.dead)::h) g w∧Le Zp h g w ((o,.dead)::h) g w:=by
 have x:∀p,p≠o→look .dead p ((o,Ob.dead)::h)=look .dead p h:=fun p N=>by rw[aG,if_neg (Ne.symm N)]
 have D:look .dead o ((o,Ob.dead)::h)= .dead:=by rw[aG,if_pos rfl]
 have j:∀p,look .dead p ((o,Ob.dead)::h)≠.dead→p≠o:=fun p a e=>a (by rw[e,D]);have L:Le Zp h g w ((o,.dead)::h) g w:=by
  refine⟨fun o I=>I,bQ.refl _ _,bQ.refl _ _,fun p _=> ?_,fun _ _ _=>rfl,fun _ _ _=>⟨rfl,fun _ _=>rfl⟩,fun _ _ _ h=>h⟩
  by_cases a:p=o
  ·subst a;rw[D];exact .inl rfl
  ·rw[x p a];exact Ob.to.refl _
 refine⟨⟨R.ext,fun p=> ?_,fun p I=> ?_,fun p b hd hb=> ?_,fun p q b hd E hb J=> ?_,fun p b i y hb P=> ?_,fun p b i O hb P=> ?_,R.BE,R.zk,R.z0,R.zp,R.gh.keep L (fun c wr K H M=> ?_) rfl (fun c id b Q=>rfl) (av _) R.gh.gI (fun c id b p Q hd=>R.gh.loc c id b p Q (by rw[←x p (j p hd)];exact hd))⟩,L⟩
 ·by_cases a:p=o
  ·subst a;rw[D];trivial
  ·rw[x p a];exact EO.mono L (.inr rfl) (fun _ _ _=>rfl) (R.ob p)
 ·by_cases a:p=o
  ·subst a;exact D
  ·rw[x p a];exact R.dead p I
 ·exact R.home p b (by rw[←x p (j p hd)];exact hd) hb
 ·exact R.iW p q b (by rw[←x p (j p hd)];exact hd) (by rw[←x q (j q E)];exact E) hb J
 ·have a:=j p (by intro e;rw[e]at y;simp[Ob.open?]at y);rw[x p a]at y;exact R.gI p b i y hb P
 ·have a:=j p (by rw[O];simp);rw[x p a]at O;exact R.BZ p b i O hb P
 ·have a:=j c (by rw[M];simp);rw[x c a]at M;exact M
theorem HR.write(R:HR w0 Z0 Zp h g w){o b:Nat}{x:Ob}(hb:g.hm o=some b)(I:(look .dead o h).open? =true)(X:(look .dead o h).to x)(D:x.open? =true)
  (O:∀c,c≠b→w'.heap[c]? =w.heap[c]?) (hs:w'.heap.size=w.heap.size) (he:w0.Extends w')
  (hx:Le Zp h g w ((o,x)::h) g w'→EO w' w0.heap.size Zp ((o,x)::h) g o x):
  HR w0 Z0 Zp ((o,x)::h) g w'∧Le Zp h g w ((o,x)::h) g w':=by
 have N:∀p,p≠o→look .dead p ((o,x)::h)=look .dead p h:=fun p W=>by rw[aG,if_neg (Ne.symm W)]
 have E:look .dead o ((o,x)::h)=x:=by rw[aG,if_pos rfl]
 have y:look .dead o h≠.dead:=by intro hd;rw[hd]at I;simp[Ob.open?]at I
 have hxd:x≠.dead:=by intro hd;rw[hd]at D;simp[Ob.open?]at D
 have P:x≠.tok:=by intro hd;rw[hd]at D;simp[Ob.open?]at D
 have Y:=R.home o b y hb;have alive:∀p,look .dead p ((o,x)::h)≠.dead→look .dead p h≠.dead:=fun p j=>by
  by_cases e:p=o
  ·subst e;exact y
  ·rw[←N p e];exact j
 have L:Le Zp h g w ((o,x)::h) g w':=by
  refine⟨fun o S=>S,fun c i M=>⟨M,aL (O c (fun e=>R.gI o b i I hb (e▸M)))⟩,R.zpk (fun c a _=>O c (by omega)) R.zp,fun p _=> ?_,fun _ _ _=>rfl,fun p _ J=>⟨rfl,fun c a=> ?_⟩,fun _ _ _ h=>h⟩
  ·by_cases j:p=o
   ·subst j;rw[E];exact X
   ·rw[N p j];exact Ob.to.refl _
  ·by_cases j:p=o
   ·subst j;rw[E]at J;exact absurd J P
   ·rw[N p j]at J;exact O c (fun e=>j (R.iW p o b (by rw[J];simp) y (e▸a) hb))
 refine⟨⟨he,fun p=> ?_,fun p S=> ?_,fun p c hd a=> ?_,fun p q c hd V a U=> ?_,fun p c i j a M=> ?_,fun p c i J a M=> ?_,fun c i M=> ?_,R.zk,R.z0,R.zp,R.gh.keep L (fun c wr K H a=> ?_) rfl (fun c id Q T=>O Q (fun e=>R.gh.loc c id Q o T y (e▸hb))) (by omega) R.gh.gI (fun c id Q p T hd=>R.gh.loc c id Q p T (alive p hd))⟩,L⟩
 ·by_cases j:p=o
  ·subst j;rw[E];exact hx L
  ·rw[N p j];exact EO.mono L (.inr rfl) (fun hd c a=>O c (fun e=>j (R.iW p o b hd y (e▸a) hb))) (R.ob p)
 ·have j:p≠o:=fun e=>S (e▸R.alive y);rw[N p j];exact R.dead p S
 ·have:=R.home p c (alive p hd) a;omega
 ·exact R.iW p q c (alive p hd) (alive q V) a U
 ·by_cases e:p=o
  ·subst e;rw[hb]at a;cases a;exact R.gI p b i I hb M
  ·rw[N p e]at j;exact R.gI p c i j a M
 ·by_cases e:p=o
  ·subst e;rw[E]at J;exact absurd J P
  ·rw[N p e]at J;exact R.BZ p c i J a M
 ·have:=R.BE c i M;omega
 ·by_cases e:c=o
  ·subst e;rw[E]at a;rw[a]at D;cases D
  ·rw[N c e]at a;exact a
structure Fz (h:aP) (g:G) (h1:aP) (g1:G):Prop where
 al:g1.al=g.al
 gl:∀c id b,GL h1 g1 c id b→GL h g c id b
theorem Fz.refl(h:aP)(g:G):Fz h g h g:=⟨rfl,fun _ _ _ h=>h⟩
theorem Fz.trans{i j:aP}{g1 g2:G}(a:Fz h g i g1)(b:Fz i g1 j g2):Fz h g j g2:=⟨b.al.trans a.al,fun c id x p=>a.gl c id x (b.gl c id x p)⟩
theorem HR.freeze(R:HR w0 Z0 Zp h g w){o:Nat}{e:Ty}{l:List e.den}(ho:look .dead o h= .row e l):
  ∃g',HR w0 Z0 Zp ((o,.pS e l)::h) g' w∧Le Zp h g w ((o,.pS e l)::h) g' w∧Fz h g ((o,.pS e l)::h) g':=by
 have S:=R.ob o;rw[ho]at S;obtain⟨h0,W,b,O,e0,hb,Q,VC⟩:=S;have E:look .dead o h≠.dead:=by rw[ho];simp
 have X:=R.home o b E hb;have J:∀p,p≠o→look .dead p ((o,Ob.pS e l)::h)=look .dead p h:=fun p hne=>by rw[aG,if_neg (Ne.symm hne)]
 have I:look .dead o ((o,Ob.pS e l)::h)= .pS e l:=by rw[aG,if_pos rfl]
 have alive:∀p,look .dead p ((o,Ob.pS e l)::h)≠.dead→look .dead p h≠.dead:=fun p D=>by
  by_cases e:p=o
  ·subst e;exact E
  ·rw[←J p e];exact D
 let g':G:={ g with Z:=fun c i=>g.Z c i∨(c=b∧i<O.size) }
 have L:Le Zp h g w ((o,.pS e l)::h) g' w:=by
  refine⟨fun o V=>V,fun c i a=>⟨.inl a,rfl⟩,bQ.refl _ _,fun p _=> ?_,fun _ _ _=>rfl,fun _ _ _=>⟨rfl,fun _ _=>rfl⟩,fun _ _ _ h=>h⟩
  by_cases D:p=o
  ·subst D;rw[I,ho];exact .inr (.inr (.inr (.inl ⟨_,rfl,rfl⟩)))
  ·rw[J p D];exact Ob.to.refl _
 refine⟨g',⟨R.ext,fun p=> ?_,fun p V=> ?_,fun p c hd y=>R.home p c (alive p hd) y,fun p q c hd hd' y Y=>R.iW p q c (alive p hd) (alive q hd') y Y,fun p c i D y a=> ?_,fun p c i T y a=> ?_,fun c i a=> ?_,fun c i y a=> ?_,fun c i a=> .inl (R.z0 c i a),R.zp,R.gh.keep L (fun c wr K H y=> ?_) rfl (fun c id b P=>rfl) (av _) (fun c id N i P a=> ?_) (fun c id N p P hd=>R.gh.loc c id N p P (alive p hd))⟩,L,rfl,fun c id N ⟨wr,K,H,x,e',U,h2,h3,h4⟩=>⟨wr,K,H,x,e',?_,h2,h3,h4⟩⟩
 ·by_cases D:p=o
  ·subst D;rw[I];exact⟨h0,W,b,O,e0,(0,0),hb,Q,bY.mono (fun x es hx=>PR.mono L.z L.zp _ _ _ hx) _ _ VC,fun i hi=> .inr ⟨rfl,hi⟩⟩
  ·rw[J p D];exact EO.mono L (.inr rfl) (fun _ _ _=>rfl) (R.ob p)
 ·have D:p≠o:=fun e=>V (e▸R.alive E);rw[J p D];exact R.dead p V
 ·by_cases M:p=o
  ·subst M;rw[I]at D;simp[Ob.open?]at D
  ·rw[J p M]at D;rcases a with a |⟨j,_⟩
   ·exact R.gI p c i D y a
   ·exact M (R.iW p o b (by intro hd;rw[hd]at D;simp[Ob.open?]at D) E (j▸y) hb)
 ·by_cases M:p=o
  ·subst M;rw[I]at T;cases T
  ·rw[J p M]at T;rcases a with a |⟨j,_⟩
   ·exact R.BZ p c i T y a
   ·exact absurd (R.iW p o b (by rw[T];simp) E (j▸y) hb) M
 ·rcases a with a |⟨j,_⟩
  ·exact R.BE c i a
  ·rw[j];exact X.2
 ·rcases a with a |⟨j,_⟩
  ·exact R.zk c i y a
  ·rw[j]at y;omega
 ·by_cases e:c=o
  ·subst e;rw[I]at y;cases y
  ·rw[J c e]at y;exact y
 ·rcases a with a |⟨j,_⟩
  ·exact R.gh.gI c id N i P a
  ·exact R.gh.loc c id N o P E (j▸hb)
 ·by_cases ec:c=o
  ·subst ec;rw[I]at U;cases U
  ·rw[J c ec]at U;exact U
theorem HR.called(R:HR w0 Z0 Zp h g w)(x:w.Extends w'):
  let g':G:={ g with Z:=fun b i=>g.Z b i∨(w.heap.size≤b∧b<w'.heap.size) }
  HR w0 Z0 Zp h g' w'∧Le Zp h g w h g' w':=by
 intro g';have L:Le Zp h g w h g' w':=by
  refine⟨fun o K=>K,fun c i a=>⟨.inl a,x.cell _ (R.BE c i a)⟩,R.zpk (fun c j _=>x.block c (bi j R.eL)) R.zp,fun p _=>Ob.to.refl _,fun _ _ _=>rfl,fun p _ D=>⟨rfl,fun c j=>x.block c (R.home p c (by rw[D];simp) j).2⟩,fun _ _ _ h=>h⟩
 have I:=x.size;refine⟨⟨R.ext.trans x,fun p=>EO.mono L (.inr rfl) (fun hd c j=>x.block c (R.home p c hd j).2) (R.ob p),R.dead,fun p c hd j=> ?_,R.iW,fun p c i H j a=> ?_,fun p c i D j a=> ?_,fun c i a=> ?_,fun c i j a=> ?_,fun c i a=> .inl (R.z0 c i a),R.zp,R.gh.keep L (fun _ _ _ _ j=>j) rfl (fun c id b y=>x.block b (R.gh.lt c id b y)) I (fun c id b i y a=> ?_) R.gh.loc⟩,L⟩
 ·have:=R.home p c hd j;exact⟨this.1,by omega⟩
 ·rcases a with a |⟨E,_⟩
  ·exact R.gI p c i H j a
  ·have:=R.home p c (by intro hd;rw[hd]at H;simp[Ob.open?]at H) j;omega
 ·rcases a with a |⟨E,_⟩
  ·exact R.BZ p c i D j a
  ·have:=R.home p c (by rw[D];simp) j;omega
 ·rcases a with a |⟨_,J⟩
  ·have:=R.BE c i a;omega
  ·exact J
 ·rcases a with a |⟨E,_⟩
  ·exact R.zk c i j a
  ·have:=R.eL;omega
 ·rcases a with a |⟨E,_⟩
  ·exact R.gh.gI c id b i y a
  ·have:=R.gh.lt c id b y;omega
end
def EP{α:Type}(f:Nat→Nat→Option α)(c id:Nat)(e:α)(b a:Nat):Option α:=if b=c∧a=id then some e else f b a
theorem ku{α:Type}(f:Nat→Nat→Option α)(c id:Nat)(e:α):EP f c id e c id=some e:=by simp[EP]
theorem n1{α:Type}(f:Nat→Nat→Option α){c id b a:Nat}(e:α)(h:¬ (b=c∧a=id)):EP f c id e b a=f b a:=by simp[EP,h]
section
variable {w0:W0} {w w':World} {Z0 Zp:bj} {h h':aP} {g g':G}
theorem HR.S5(R:HR w0 Z0 Zp h g w){c:Nat}{K:GK}{H P:List (Option K.me)}(ho:look .dead c h= .gh true K H)(Z':bj)(O:Nat→Nat→Option (Nat×Nat×Nat×Nat))
  (hZ:∀b i,g.Z b i→Z' b i) (YU:∀b i,Z' b i→g.Z b i∨∃id,GL h g c id b)
  (hpo:∀j I e,g.pm j I=some e→O j I=some e) (W:∀j I e,O j I=some e→g.pm j I=some e∨(j=c∧I=H.length∧P.length=H.length+1∧(w.heap.size≤e.1∧e.1<w'.heap.size∨∃id,GL h g c id e.1∧∀x,P[id]? ≠some (some x))∧(∀V,K= .bf V→e.2.2.2=V.size)))
  (hlen:H.length≤P.length) (ai5:P.length≤H.length+1)
  (aeG:∀(id:Nat) x,id<H.length→P[id]? =some (some x)→∃y,H[id]? =some (some y))
  (aeH:∀id b i,GL h g c id b→Z' b i→(∃x,P[id]? =some (some x))→False)
  (acY:∀id b e x,GL h g c id b→O c H.length=some e→e.1=b→P[H.length]? =some (some x)→∀i,¬ Z' b i)
  (hw:∀b,b<w.heap.size→(∀id,¬ GL h g c id b)→w'.heap[b]? =w.heap[b]?) (hcell:∀b i,g.Z b i→w'.cell? ⟨b,i,none⟩=w.cell? ⟨b,i,none⟩) (hs:w.heap.size≤w'.heap.size) (he:w0.Extends w')
  (ag7:Le Zp h g w ((c,.gh true K P)::h) { g with Z:=Z',pm:=O } w'→∀(id:Nat) x,P[id]? =some (some x)→mh w' w0.heap.size Zp ((c,.gh true K P)::h) { g with Z:=Z',pm:=O } c id K x):
  HR w0 Z0 Zp ((c,.gh true K P)::h) { g with Z:=Z',pm:=O } w'∧Le Zp h g w ((c,.gh true K P)::h) { g with Z:=Z',pm:=O } w':=by
 have lk:∀p,p≠c→look .dead p ((c,Ob.gh true K P)::h)=look .dead p h:=fun p hne=>by rw[aG,if_neg (Ne.symm hne)]
 have M:look .dead c ((c,Ob.gh true K P)::h)= .gh true K P:=by rw[aG,if_pos rfl]
 have Rp:look .dead c h≠.dead:=by rw[ho];simp
 have hmc:g.hm c=none:=by have:=R.ob c;rw[ho]at this;exact this
 have alive:∀p,look .dead p ((c,Ob.gh true K P)::h)≠.dead→look .dead p h≠.dead:=fun p N=>by
  by_cases e:p=c
  ·subst e;exact Rp
  ·rw[←lk p e];exact N
 have hown:∀id b,GL h g c id b→w0.heap.size≤b∨w0.B b:=fun id b ⟨wr,Y,H1,x,e,a,D,X,T⟩=>by
  rw[ho]at a;cases a;subst T;exact R.gh.own c K H id x e ho D X
 have hhm:∀o b,look .dead o h≠.dead→g.hm o=some b→w'.heap[b]? =w.heap[b]? :=fun o b hd hb=>hw b (R.home o b hd hb).2 fun id hG=>R.gh.loc c id b o hG hd hb
 have acZ:∀j I b,j≠c→GL h g j I b→w'.heap[b]? =w.heap[b]? :=fun j I b hne hG=>hw b (R.gh.lt _ _ _ hG) fun id hG2=>hne (R.gh.iW _ _ _ _ _ hG hG2).1
 have L:Le Zp h g w ((c,.gh true K P)::h) { g with Z:=Z',pm:=O } w':=by
  refine⟨fun o ha=>ha,fun b i Q=>⟨hZ b i Q,hcell b i Q⟩,R.zpk (fun b hb hB=>hw b (bi hb R.eL) fun id hG=> ?_) R.zp,fun p _=> ?_,fun _ _ _=>rfl,fun p _ ht=>⟨rfl,fun b hb=> ?_⟩,hpo⟩
  ·rcases hown id b hG with a |a
   ·omega
   ·exact hB a
  ·by_cases N:p=c
   ·subst N;rw[M,ho];exact .inr (.inr (.inr (.inr (.inr (.inl ⟨_,_,_,rfl,rfl⟩)))))
   ·rw[lk p N];exact Ob.to.refl _
  ·have N:p≠c:=by intro N;subst N;rw[M]at ht;cases ht
   rw[lk p N]at ht;exact hhm p b (by rw[ht];simp) hb
 have U:∀j I b,GL ((c,.gh true K P)::h) { g with Z:=Z',pm:=O } j I b→(GL h g j I b∧(j=c→∃x,P[I]? =some (some x)))∨
   (j=c∧I=H.length∧(∃x,P[I]? =some (some x))∧(∃e,O c H.length=some e∧e.1=b)∧((w.heap.size≤b∧b<w'.heap.size)∨∃id,GL h g c id b∧∀x,P[id]? ≠some (some x))):=by
  rintro j I b ⟨wr,Y,H1,x,e,a,D,X,T⟩
  by_cases J:j=c
  ·subst J;rw[M]at a;cases a;rcases W _ _ _ X with E |⟨_,E,h6,h7,_⟩
   ·have hlt:I<H.length:=by
     rcases dz I H.length with h |h
     ·exact h
     ·rw[R.gh.fresh j true K H I ho h]at E;cases E
    obtain⟨y,hy⟩:=aeG I x hlt D;exact .inl ⟨⟨true,K,H,y,e,ho,hy,E,T⟩,fun _=>⟨x,D⟩⟩
   ·subst E;subst T;exact .inr ⟨rfl,rfl,⟨x,D⟩,⟨e,X,rfl⟩,h7⟩
  ·rw[lk j J]at a;rcases W _ _ _ X with E |⟨E,_⟩
   ·exact .inl ⟨⟨wr,Y,H1,x,e,a,D,E,T⟩,fun h=>absurd h J⟩
   ·exact absurd E J
 refine⟨⟨he,fun p=> ?_,fun p ha=> ?_,fun p b hd hb=> ?_,fun p q b hd hd' hb hb'=>R.iW p q b (alive p hd) (alive q hd') hb hb',fun p b i N hb Q=> ?_,fun p b i ht hb Q=> ?_,fun b i Q=> ?_,fun b i hb Q=> ?_,fun b i Q=>hZ b i (R.z0 b i Q),R.zp,?_⟩,L⟩
 ·by_cases N:p=c
  ·subst N;rw[M];exact hmc
  ·rw[lk p N];exact EO.mono L (.inr rfl) (fun hd b hb=>hhm p b hd hb) (R.ob p)
 ·have N:p≠c:=fun e=>ha (e▸R.alive Rp);rw[lk p N];exact R.dead p ha
 ·have:=R.home p b (alive p hd) hb;exact⟨this.1,by omega⟩
 ·by_cases e:p=c
  ·subst e;rw[M]at N;cases N
  ·rw[lk p e]at N;rcases YU b i Q with a |⟨id,a⟩
   ·exact R.gI p b i N hb a
   ·exact R.gh.loc c id b p a (by intro hd;rw[hd]at N;cases N) hb
 ·by_cases e:p=c
  ·subst e;rw[M]at ht;cases ht
  ·rw[lk p e]at ht;rcases YU b i Q with a |⟨id,a⟩
   ·exact R.BZ p b i ht hb a
   ·exact(R.gh.loc c id b p a (by rw[ht];simp) hb).elim
 ·rcases YU b i Q with a |⟨id,a⟩
  ·have:=R.BE b i a;omega
  ·have:=R.gh.lt _ _ _ a;omega
 ·rcases YU b i Q with a |⟨id,a⟩
  ·exact R.zk b i hb a
  ·rcases hown id b a with D |D
   ·omega
   ·exact .inr D
 ·refine⟨fun j wr Y H1 id x a D=> ?_,fun j wr Y H1 id a D=> ?_,fun j id b a=> ?_,fun j Y H1 id x e a D X=> ?_,fun c1 id1 c2 S b a D=> ?_,fun j id b i a Q=> ?_,fun j id b o a hd hb=> ?_,fun j wr V H1 id e a D=> ?_,fun j id e a=>hpo _ _ _ (R.gh.old j id e a),fun j Y H1 a=> ?_,fun j id b i a Q=> ?_,fun j wr Y H1 a=> ?_,fun j Y H1 a=> ?_,fun j id e a=> ?_⟩
  ·by_cases J:j=c
   ·subst J;rw[M]at a;cases a;exact ag7 L id x D
   ·rw[lk j J]at a;exact mh.mono L (fun e he=>acZ j id e.1 J ⟨wr,Y,H1,x,e,a,D,he,rfl⟩) _ _ (R.gh.me j wr Y H1 id x a D)
  ·cases N:O j id with
   |none=>exact N
   |some e=>
    exfalso
    by_cases J:j=c
    ·subst J;rw[M]at a;cases a;rcases W _ _ _ N with E |⟨_,E,h6,_⟩
     ·rw[R.gh.fresh j true K H id ho (by omega)]at E;cases E
     ·omega
    ·rw[lk j J]at a;rcases W _ _ _ N with E |⟨E,_⟩
     ·rw[R.gh.fresh j wr Y H1 id a D]at E;cases E
     ·exact J E
  ·rcases U j id b a with⟨D,_⟩|⟨_,_,_,_,D⟩
   ·have:=R.gh.lt _ _ _ D;omega
   ·rcases D with D |⟨S,D,_⟩
    ·exact D.2
    ·have:=R.gh.lt _ _ _ D;omega
  ·by_cases J:j=c
   ·subst J;rw[M]at a;cases a;rcases U j id e.1 ⟨true,K,P,x,e,M,D,X,rfl⟩with⟨T,_⟩|⟨_,_,_,_,T⟩
    ·exact hown id _ T
    ·rcases T with T |⟨S,T,_⟩
     ·have:=R.eL;exact .inl (by omega)
     ·exact hown S _ T
   ·rw[lk j J]at a;rcases W _ _ _ X with E |⟨E,_⟩
    ·exact R.gh.own j Y H1 id x e a D E
    ·exact absurd E J
  ·rcases U c1 id1 b a with⟨X,h3'⟩|⟨X,T,h4',_,E⟩
   ·rcases U c2 S b D with⟨k3,k3'⟩|⟨k3,k4,k4',_,k5⟩
    ·exact R.gh.iW _ _ _ _ _ X k3
    ·exfalso;rcases k5 with k5 |⟨id,k5,k6⟩
     ·have:=R.gh.lt _ _ _ X;omega
     ·obtain⟨e1,e2⟩:=R.gh.iW _ _ _ _ _ X k5;obtain⟨x,hx⟩:=h3' e1;exact k6 x (e2▸hx)
   ·rcases U c2 S b D with⟨k3,k3'⟩|⟨k3,k4,k4',_,k5⟩
    ·exfalso;rcases E with E |⟨id,E,h6⟩
     ·have:=R.gh.lt _ _ _ k3;omega
     ·obtain⟨e1,e2⟩:=R.gh.iW _ _ _ _ _ k3 E;obtain⟨x,hx⟩:=k3' e1;exact h6 x (e2▸hx)
    ·exact⟨X.trans k3.symm,T.trans k4.symm⟩
  ·rcases U j id b a with⟨D,h2'⟩|⟨D,X,⟨x,hx⟩,⟨e,hpe,heb⟩,T⟩
   ·by_cases J:j=c
    ·subst J;exact aeH id b i D Q (h2' rfl)
    ·rcases YU b i Q with E |⟨S,E⟩
     ·exact R.gh.gI _ _ _ _ D E
     ·exact J (R.gh.iW _ _ _ _ _ D E).1
   ·rcases T with T |⟨S,T,_⟩
    ·rcases YU b i Q with E |⟨id3,E⟩
     ·have:=R.BE b i E;omega
     ·have:=R.gh.lt _ _ _ E;omega
    ·subst X;exact acY S b e x T hpe heb hx i Q
  ·have hd:=alive o hd;rcases U j id b a with⟨D,_⟩|⟨_,_,_,_,D⟩
   ·exact R.gh.loc _ _ _ o D hd hb
   ·rcases D with D |⟨S,D,_⟩
    ·have:=(R.home o b hd hb).2;omega
    ·exact R.gh.loc _ _ _ o D hd hb
  ·by_cases J:j=c
   ·subst J;rw[M]at a;cases a;rcases W _ _ _ D with E |⟨_,_,_,_,E⟩
    ·exact R.gh.psz j true V H id e ho E
    ·exact E V rfl
   ·rw[lk j J]at a;rcases W _ _ _ D with E |⟨E,_⟩
    ·exact R.gh.psz j wr V H1 id e a E
    ·exact absurd E J
  ·by_cases J:j=c
   ·subst J;rw[M]at a;cases a
   ·rw[lk j J]at a;exact R.gh.ro j Y H1 a
  ·rcases U j id b a with⟨D,_⟩|⟨_,_,_,_,D⟩
   ·exact R.gh.zpx _ _ _ _ D Q
   ·rcases D with D |⟨S,D,_⟩
    ·have:=(R.zp b i Q).1;have:=R.eL;omega
    ·exact R.gh.zpx _ _ _ _ D Q
  ·by_cases J:j=c
   ·subst J;rw[M]at a;cases a;exact R.gh.YT _ _ _ _ ho
   ·rw[lk j J]at a;exact R.gh.YT j wr Y H1 a
  ·by_cases J:j=c
   ·subst J;exact R.gh.wsr _ _ _ ho
   ·rw[lk j J]at a;exact R.gh.wsr j Y H1 a
  ·rcases W _ _ _ a with E |⟨E,_⟩
   ·exact R.gh.new j id e E
   ·exact .inr (E▸R.gh.wsr _ _ _ ho)
theorem Le.same(a:∀o,look .dead o h=look .dead o h'):Le Zp h g w h' g w:=
 ⟨fun _ h=>h,bQ.refl _ _,bQ.refl _ _,fun o _=>by rw[a o];exact Ob.to.refl _,fun _ _ _=>rfl,fun _ _ _=>⟨rfl,fun _ _=>rfl⟩,fun _ _ _ h=>h⟩
theorem GHR.acm(R:GHR w0 Zp h g w)(p:∀c wr K H,look .dead c h'= .gh wr K H→look .dead c h= .gh wr K H)(D:g'.pm=g.pm)
  (O:∀c id b i,GL h g c id b→¬ g'.Z b i) (N:∀c id b o,GL h g c id b→look .dead o h'≠.dead→g'.hm o=some b→False) (I:∀c id K x,K.ok=true→mh w w0.heap.size Zp h g c id K x→mh w w0.heap.size Zp h' g' c id K x):
  GHR w0 Zp h' g' w:=by
 have y:∀c id b,GL h' g' c id b→GL h g c id b:=fun c id b ⟨wr,K,H,x,e,a,j,E,M⟩=>⟨wr,K,H,x,e,p _ _ _ _ a,j,D▸E,M⟩;exact⟨fun c wr K H id x a j=>I c id K x (R.YT c wr K H (p _ _ _ _ a)) (R.me c wr K H id x (p _ _ _ _ a) j),fun c wr K H id a j=>by rw[D];exact R.fresh c wr K H id (p _ _ _ _ a) j,fun c id b a=>R.lt c id b (y _ _ _ a),fun c K H id x e a j E=>R.own c K H id x e (p _ _ _ _ a) j (D▸E),
  fun c id L J b a j=>R.iW c id L J b (y _ _ _ a) (y _ _ _ j),fun c id b i a=>O c id b i (y _ _ _ a),fun c id b o a=>N c id b o (y _ _ _ a),fun c wr V H id e a j=>R.psz c wr V H id e (p _ _ _ _ a) (D▸j),fun c id e a=>by rw[D];exact R.old c id e a,
  fun c K H a=>R.ro c K H (p _ _ _ _ a),fun c id b i a=>R.zpx c id b i (y _ _ _ a),fun c wr K H a=>R.YT c wr K H (p _ _ _ _ a),fun c K H a=>R.wsr c K H (p _ _ _ _ a),fun c id e a=>R.new c id e (D▸a)⟩
theorem HR.same(R:HR w0 Z0 Zp h g w)(a:∀o,look .dead o h=look .dead o h'):HR w0 Z0 Zp h' g w:=by
 refine⟨R.ext,fun o=> ?_,fun o j=>by rw[←a o];exact R.dead o j,fun o b hd hb=>R.home o b (by rw[a o];exact hd) hb,fun o p b hd y hb x=>R.iW o p b (by rw[a o];exact hd) (by rw[a p];exact y) hb x,
  fun o b i j hb=>R.gI o b i (by rw[a o];exact j) hb,fun o b i j hb=>R.BZ o b i (by rw[a o];exact j) hb,R.BE,R.zk,R.z0,R.zp,
  R.gh.keep (Le.same a) (fun c wr K H E=>by rw[a c];exact E) rfl (fun _ _ _ _=>rfl) (av _) R.gh.gI (fun c id b o D hd=>R.gh.loc c id b o D (by rw[a o];exact hd))⟩
 rw[←a o];exact EO.mono (Le.same a) (.inr rfl) (fun _ _ _=>rfl) (R.ob o)
theorem HR.J6(R:HR w0 Z0 Zp h g w){c id b:Nat}{K:GK}{H:List (Option K.me)}{y x:K.me}{e:Nat×Nat×Nat×Nat}(E:look .dead c h= .gh true K H)(P:H[id]? =some (some y))(V:g.pm c id=some e)(hb:e.1=b)
  (O:∀c,c≠b→w'.heap[c]? =w.heap[c]?) (hs:w'.heap.size=w.heap.size) (T:w0.Extends w')
  (W:Le Zp h g w ((c,.gh true K (H.set id (some x)))::h) g w'→mh w' w0.heap.size Zp ((c,.gh true K (H.set id (some x)))::h) g c id K x):
  HR w0 Z0 Zp ((c,.gh true K (H.set id (some x)))::h) g w'∧Le Zp h g w ((c,.gh true K (H.set id (some x)))::h) g w':=by
 have J:GL h g c id b:=⟨true,K,H,y,e,E,P,V,hb⟩;have N:id<H.length:=(List.getElem?_eq_some_iff.1 P).1;refine R.S5 E g.Z g.pm (fun _ _ h=>h) (fun _ _ h=> .inl h) (fun _ _ _ h=>h) (fun _ _ _ h=> .inl h) (by simp) (by simp) (fun i z hi a=> ?_) (fun i D j p I _=>R.gh.gI _ _ _ _ p I) (fun i D Q x' p I X Y=> ?_) (fun D S U=>O D fun h=>U id (h▸J))
  (fun D i a=>aL (O D fun h=>R.gh.gI _ _ _ i J (h▸a))) (by omega) T fun L i z a=> ?_
 ·by_cases p:id=i
  ·subst p;exact⟨y,P⟩
  ·rw[cA p]at a;exact⟨z,a⟩
 ·rw[R.gh.fresh c true K H H.length E (av _)]at I;cases I
 ·by_cases p:id=i
  ·subst p;rw[cB N]at a
   cases a;exact W L
  ·rw[cA p]at a;exact mh.mono L (fun Q M=>O _ fun h=>p ((R.gh.iW _ _ _ _ _ J ⟨true,K,H,z,Q,E,a,M,h⟩).2)) _ _ (R.gh.me c true K H i z E a)
theorem HR.fH(R:HR w0 Z0 Zp h g w){c k cap sz:Nat}{K:GK}{H:List (Option K.me)}{x:K.me}(O:look .dead c h= .gh true K H){y:Obj}(Y:w'.heap=w.heap.push y)(he:w0.Extends w')(W:∀V,K= .bf V→sz=V.size){g':G}(hg:g'={ g with pm:=EP g.pm c H.length (w.heap.size,k,cap,sz) })
  (hx:Le Zp h g w ((c,.gh true K (fH H x))::h) g' w'→mh w' w0.heap.size Zp ((c,.gh true K (fH H x))::h) g' c H.length K x):
  HR w0 Z0 Zp ((c,.gh true K (fH H x))::h) g' w'∧Le Zp h g w ((c,.gh true K (fH H x))::h) g' w':=by
 subst hg;have D:∀b:Nat,b<w.heap.size→w'.heap[b]? =w.heap[b]? :=fun b hb=>by rw[Y,Array.getElem?_push,if_neg (Nat.ne_of_lt hb)]
 have hws:w'.heap.size=w.heap.size+1:=by rw[Y];simp
 have T:=R.gh.fresh c true K H H.length O (av _);have U:∀I p e,g.pm I p=some e→¬ (I=c∧p=H.length):=fun I p e E ⟨J,P⟩=>by subst J;subst P;rw[T]at E;cases E
 refine R.S5 O g.Z (EP g.pm c H.length (w.heap.size,k,cap,sz)) (fun _ _ h=>h) (fun _ _ h=> .inl h) (fun I p e h=>by rw[n1 _ _ (U _ _ _ h)];exact h) (fun I p e h=> ?_) (by simp[Go.Am.fH]) (by simp[Go.Am.fH]) (fun i z N a=> ?_) (fun i M j E J _=>R.gh.gI _ _ _ _ E J) (fun i M X x' E J P h4=> ?_) (fun M Q _=>D M Q)
  (fun M i a=>aL (D M (R.BE _ _ a))) (by omega) he fun L i z a=> ?_
 ·by_cases E:I=c∧p=H.length
  ·obtain⟨rfl,rfl⟩:=E;rw[ku]at h
   cases h;exact .inr ⟨rfl,rfl,by simp[Go.Am.fH],.inl ⟨av _,by simp only;omega⟩,W⟩
  ·rw[n1 _ _ E]at h;exact .inl h
 ·simp only[Go.Am.fH]at a;rw[aU N]at a;exact⟨z,a⟩
 ·rw[ku]at J
  cases J;have:=R.gh.lt _ _ _ E;simp only at P;omega
 ·simp only[Go.Am.fH]at a;rcases dz i H.length with N |N
  ·rw[aU N]at a;exact mh.mono L (fun X S=>D _ (R.gh.lt c i _ ⟨true,K,H,z,X,O,a,S,rfl⟩)) _ _ (R.gh.me c true K H i z O a)
  ·rw[bc N]at a;have:i=H.length:=by
    rcases dz (i -H.length) 1 with h |h
    ·omega
    ·rw[bv (by simpa using h)]at a;cases a
   subst this;simp at a;subst a;exact hx L
theorem HR.acn(R:HR w0 Z0 Zp h g w){c id b k cap sz:Nat}{K:GK}{H:List (Option K.me)}{y x:K.me}{e:Nat×Nat×Nat×Nat}(Q:look .dead c h= .gh true K H)(hy:H[id]? =some (some y))(hp:g.pm c id=some e)(hb:e.1=b)
  (Y:∀c,c≠b→w'.heap[c]? =w.heap[c]?) (hs:w'.heap.size=w.heap.size) (he:w0.Extends w') (X:∀V,K= .bf V→sz=V.size) {g':G} (hg:g'={ g with pm:=EP g.pm c H.length (b,k,cap,sz) })
  (hx:Le Zp h g w ((c,.gh true K (Go.Am.fH (H.set id none) x))::h) g' w'→mh w' w0.heap.size Zp ((c,.gh true K (Go.Am.fH (H.set id none) x))::h) g' c H.length K x):
  HR w0 Z0 Zp ((c,.gh true K (Go.Am.fH (H.set id none) x))::h) g' w'∧Le Zp h g w ((c,.gh true K (Go.Am.fH (H.set id none) x))::h) g' w':=by
 subst hg;have S:GL h g c id b:=⟨true,K,H,y,e,Q,hy,hp,hb⟩;have P:id<H.length:=(List.getElem?_eq_some_iff.1 hy).1;have U:=R.gh.fresh c true K H H.length Q (av _);have W:∀N D e,g.pm N D=some e→¬ (N=c∧D=H.length):=fun N D e p ⟨J,h3⟩=>by subst J;subst h3;rw[U]at p;cases p
 have E:∀z:K.me,(Go.Am.fH (H.set id none) x)[id]? ≠some (some z):=fun z a=>by
  simp only[Go.Am.fH]at a;rw[aU (by simpa using P),cB P]at a
  cases a
 have I:∀(i:Nat) (z:K.me),i<H.length→(Go.Am.fH (H.set id none) x)[i]? =some (some z)→i≠id∧H[i]? =some (some z):=fun i z M a=>by
  have p:i≠id:=by intro h;subst h;exact E z a
  simp only[Go.Am.fH]at a;rw[aU (by simpa using M),cA (Ne.symm p)]at a;exact⟨p,a⟩
 refine R.S5 Q g.Z (EP g.pm c H.length (b,k,cap,sz)) (fun _ _ h=>h) (fun _ _ h=> .inl h) (fun N D e h=>by rw[n1 _ _ (W _ _ _ h)];exact h) (fun N D e h=> ?_) (by simp[Go.Am.fH]) (by simp[Go.Am.fH]) (fun i z M a=>⟨z,(I i z M a).2⟩) (fun i O j p J _=>R.gh.gI _ _ _ _ p J) (fun i O e' x' p J h3 h4 j=> ?_) (fun O hb' hn=>Y O fun h=>hn id (h▸S))
  (fun O i a=>aL (Y O fun h=>R.gh.gI _ _ _ i S (h▸a))) (by omega) he fun L i z a=> ?_
 ·by_cases p:N=c∧D=H.length
  ·obtain⟨rfl,rfl⟩:=p;rw[ku]at h
   cases h;exact .inr ⟨rfl,rfl,by simp[Go.Am.fH],.inr ⟨id,S,E⟩,X⟩
  ·rw[n1 _ _ p]at h;exact .inl h
 ·exact R.gh.gI _ _ _ _ p
 ·rcases dz i H.length with M |M
  ·obtain⟨p,J⟩:=I i z M a;exact mh.mono L (fun e' T=>Y _ fun h=>p ((R.gh.iW _ _ _ _ _ ⟨true,K,H,z,e',Q,J,T,h⟩ S).2)) _ _ (R.gh.me c true K H i z Q J)
  ·simp only[Go.Am.fH]at a;rw[bc (by simpa using M)]at a;have:i=H.length:=by
    rcases dz (i -H.length) 1 with h |h
    ·omega
    ·rw[bv (by simpa using h)]at a;cases a
   subst this;simp at a;subst a;exact hx L
theorem HR.aeL(R:HR w0 Z0 Zp h g w){c id b:Nat}{K:GK}{H:List (Option K.me)}{y:K.me}{e:Nat×Nat×Nat×Nat}(I:look .dead c h= .gh true K H)(O:H[id]? =some (some y))(Q:g.pm c id=some e)(hb:e.1=b)(M:Bool){g':G}(P:g'={ g with Z:=fun x i=>g.Z x i∨(M=true∧x=b) }):
  HR w0 Z0 Zp ((c,.gh true K (H.set id none))::h) g' w∧Le Zp h g w ((c,.gh true K (H.set id none))::h) g' w:=by
 subst P;have N:GL h g c id b:=⟨true,K,H,y,e,I,O,Q,hb⟩;have J:id<H.length:=(List.getElem?_eq_some_iff.1 O).1;have a:∀(i:Nat) (z:K.me),(H.set id none)[i]? =some (some z)→i≠id∧H[i]? =some (some z):=fun i z p=>by
  have E:i≠id:=by intro h;subst h;rw[cB J]at p;cases p
  rw[cA (Ne.symm E)]at p;exact⟨E,p⟩
 refine R.S5 I (fun x i=>g.Z x i∨(M=true∧x=b)) g.pm (fun _ _ h=> .inl h) (fun x i h=> ?_) (fun _ _ _ h=>h) (fun _ _ _ h=> .inl h) (by simp) (by simp) (fun i z V p=>⟨z,(a i z p).2⟩) (fun i x j E D ⟨z,p⟩=> ?_) (fun i x S W E D T U=> ?_) (fun _ _ _=>rfl)
  (fun _ _ _=>rfl) (av _) R.ext fun L i z p=>mh.mono L (fun _ _=>rfl) _ _ (R.gh.me c true K H i z I (a i z p).2)
 ·rcases h with h |⟨_,h⟩
  ·exact .inl h
  ·exact .inr ⟨id,h▸N⟩
 ·rcases D with D |⟨_,D⟩
  ·exact R.gh.gI _ _ _ _ E D
  ·exact(a i z p).1 (R.gh.iW _ _ _ _ _ E (D▸N)).2
 ·rw[R.gh.fresh c true K H H.length I (av _)]at D;cases D
end
def HM.eval(next:Nat):HM→aP→Log→Option (A×aP×Log)
 |.ret a,h,L=>some (a,h,L)
 |.fail,_,_=>none
 |.get o k,h,L=>(k (look .dead o h)).eval next h ((o,false)::L)
 |.set o x k,h,L=>match Nat.blt o next with
  |true=>k.eval next ((o,x)::h) ((o,true)::L)
  |false=>none
 |.opt x k,h,L=>x.bind fun b=>(k b).eval next h L
 |.br b x y,h,L=>match b with
  |true=>x.eval next h L
  |false=>y.eval next h L
theorem HM.run_eq{R:Type}(next:Nat)(K:A→aP→Log→Option R):∀(m:HM) (h:aP) (L:Log),m.run next h L K=(m.eval next h L).bind fun r=>K r.1 r.2.1 r.2.2
 |.ret a,h,L=>rfl
 |.fail,_,_=>rfl
 |.get o k,h,L=>by simp only[HM.run,HM.eval];exact HM.run_eq next K _ _ _
 |.set o x k,h,L=>by
  simp only[HM.run,HM.eval]
  cases Nat.blt o next with
  |true=>exact HM.run_eq next K _ _ _
  |false=>rfl
 |.opt x k,h,L=>by
  simp only[HM.run,HM.eval]
  cases x with
  |none=>rfl
  |some b=>exact HM.run_eq next K _ _ _
 |.br b x y,h,L=>by
  simp only[HM.run,HM.eval]
  cases b with
  |true=>exact HM.run_eq next K _ _ _
  |false=>exact HM.run_eq next K _ _ _
section
variable {next:Nat} {h:aP} {L:Log} {res:A×aP×Log}
theorem dg{a:A}(e:(HM.ret a).eval next h L=some res):res=(a,h,L):=by simp[HM.eval]at e;exact e.symm
theorem af(e:(HM.fail).eval next h L=some res):False:=by simp[HM.eval]at e
theorem bq{o:Nat}{k:Ob→HM}(e:(HM.get o k).eval next h L=some res):(k (look .dead o h)).eval next h ((o,false)::L)=some res:=e
theorem cn{o:Nat}{x:Ob}{k:HM}(e:(HM.set o x k).eval next h L=some res):k.eval next ((o,x)::h) ((o,true)::L)=some res:=by
 simp only[HM.eval]at e;split at e
 ·exact e
 ·cases e
theorem aN{β:Type}{x:Option β}{k:β→HM}(e:(HM.opt x k).eval next h L=some res):∃b,x=some b∧(k b).eval next h L=some res:=by
 cases x with
 |none=>simp[HM.eval]at e
 |some b=>exact⟨b,rfl,e⟩
end
def Ty.g7:Ty→List Value
 |.bool=>[.bool false]
 |.int k=>[.int k 0]
 |.str=>[.string ⟨#[]⟩]
 |.sl _=>[.slice none 0 0]
 |.pair a b=>a.g7++b.g7
 |.unit=>[]
 |.ref _=>[.pointer none]
 |.fn _=>[.nilFunc]
 |.cl _ _=>[.nilFunc]
def Ty.zM:Ty→Bool
 |.fn _=>false
 |.cl _ _=>false
 |.pair a b=>a.zM&&b.zM
 |_=>true
def O1:Value→Bool
 |.agg _=>true
 |_=>false
def YV(d:TD):Bool:=
 match d.ty with
 |some τ=>bh τ.size d.size&&(τ.isAgg==d.agg)&&τ.bH&&τ.zM
 |none=>true
def Rq(P:Program):Nat→List Field→List Ty→Bool
 |_,[],[]=>true
 |i,f::a,τ::τs=>(f.name != "_")&&bh f.offset i&&(match P.underlying f.type,τ with
  |some (.int k),.int q=>decide (k=q)
  |some .bool,.bool=>true
  |some .string,.str=>true
  |_,_=>false)&&Rq P (i+1) a τs
 |_,_,_=>false
def Qf(P:Program)(t:TypeId)(τs:List Ty):Bool:=
 match P.underlying t with
 |some (.struct a)=> !P.stoodInHeld t&& !P.eqGuardType P.depth t&&Rq P 0 a.toList τs
 |_=>false
structure dk (P:Program) (t:TypeId) (d:TD):Prop where
 und:(P.underlying t).map ry=some d.desc
 agg:Xv d.desc=d.agg
 info:(P.info? t).map (fun i=>(i.size,i.bytes))=some (d.size,d.bytes)
 ty:YV d=true
 eq:d.eq=[]∨Qf P t d.eq=true
 zero:match d.zero,d.ty with
  |true,some τ=>(P.info? t).map (fun i=>i.zero.map fun z=>(z.cells.toList,O1 z))=some (some (τ.g7,d.agg))
  |true,none=>False
  |false,_=>True
def EA(P:Program)(tt:List (TypeId×TD)):Prop:=∀p∈tt,dk P p.1 p.2
theorem vG{α:Type}{t:Nat}{x:α}:∀{l:List (Nat×α)},bP t l=some x→(t,x)∈l
 |[],h=>by simp[bP]at h
 |(u,y)::r,h=>by
  simp only[bP]at h
  split at h
  ·rename_i a;cases h;rw[aj a];simp
  ·exact bK _ (vG h)
theorem EA.get{P:Program}{tt:List (TypeId×TD)}(H:EA P tt){t:TypeId}{d:TD}(h:bP t tt=some d):dk P t d:=H _ (vG h)
section
variable {P:Program} {t:TypeId} {d:TD} (T:dk P t d)
theorem dk.under(T:dk P t d):∃y,P.underlying t=some y∧ry y=d.desc:=by
 have:=T.und
 cases a:P.underlying t with
 |none=>simp[a]at this
 |some y=>exact⟨y,rfl,by simpa[a]using this⟩
theorem dk.slice(T:dk P t d){e:TypeId}(hd:d.desc= .slice e):P.underlying t=some (.slice e):=by
 obtain⟨y,i,a⟩:=T.under;rw[hd]at a
 cases y<;>simp[ry]at a;rw[i,a]
theorem dk.int(T:dk P t d){k:IntKind}(hd:d.desc= .int k):P.underlying t=some (.int k):=by
 obtain⟨y,i,a⟩:=T.under;rw[hd]at a
 cases y<;>simp[ry]at a;rw[i,a]
theorem dk.string(T:dk P t d)(hd:d.desc= .str):P.underlying t=some .string:=by
 obtain⟨y,i,a⟩:=T.under;rw[hd]at a
 cases y<;>simp[ry]at a;exact i
theorem dk.array(T:dk P t d){n:Nat}{e:TypeId}(hd:d.desc= .array n e):P.underlying t=some (.array n e):=by
 obtain⟨y,i,a⟩:=T.under;rw[hd]at a
 cases y<;>simp[ry]at a;rw[i,a.1,a.2]
theorem dk.struct(T:dk P t d){i:List (TypeId×Nat)}(hd:d.desc= .struct i):∃f:Array Field,P.underlying t=some (.struct f)∧f.toList.map (fun x=>(x.type,x.offset))=i:=by
 obtain⟨y,j,a⟩:=T.under;rw[hd]at a
 cases y<;>simp[ry]at a;exact⟨_,j,a⟩
theorem dk.inf(T:dk P t d):∃i,P.info? t=some i∧i.size=d.size∧i.bytes=d.bytes:=by
 have:=T.info
 cases a:P.info? t with
 |none=>simp[a]at this
 |some i=>exact⟨i,rfl,by simpa[a]using this⟩
theorem dk.sizeOf(T:dk P t d)(w:World):(sizeOf t).run P w= .ok d.size w:=by
 obtain⟨i,a,j,_⟩:=T.inf;simp[Go.sizeOf,typeInfo,a,j]
theorem dk.isAgg(T:dk P t d)(w:World):(isAgg t).run P w= .ok d.agg w:=by
 obtain⟨y,i,j⟩:=T.under;have a:=T.agg;rw[←j]at a;simp only[Go.isAgg,Sem.run_bind,run_underlying i,Result.andThen_ok]
 cases y<;>simp[ry,Xv]at a<;>simp[←a]
theorem dk.Ht(T:dk P t d){τ:Ty}(h:d.ty=some τ):τ.size=d.size∧τ.isAgg=d.agg∧τ.bH=true∧τ.zM=true:=by
 have:=T.ty;simp only[YV,h,ah]at this;exact⟨aj this.1.1.1,by simpa using this.1.1.2,this.1.2,this.2⟩
theorem dk.zeroV(T:dk P t d){τ:Ty}(D:d.zero=true)(h:d.ty=some τ):∃i z,P.info? t=some i∧i.size=d.size∧i.bytes=d.bytes∧i.zero=some z∧z.cells.toList=τ.g7∧O1 z=d.agg:=by
 have j:=T.zero;rw[D,h]at j;obtain⟨i,p,x,y⟩:=T.inf;simp only[p,Option.map_some,Option.some.injEq]at j
 cases a:i.zero with
 |none=>simp[a]at j
 |some z=>simp[a]at j;exact⟨i,z,p,x,y,a,j.1,j.2⟩
end
section
variable {P:Program} {w0:W0} {w:World} {Z0 Zp:bj} {h h':aP} {g:G} {new:Nat} {r:A}
def bl(P:Program)(w0:W0)(Z0 Zp:bj)(h:aP)(g:G)(w:World)(new:Nat)(res:Sem Next)(r:A)(h':aP):Prop:=
 ∃n v b a,res.run P w= .ok n b∧(n= .value v∨(n= .skip∧v=undef))∧HR w0 Z0 Zp h' a b∧Le Zp h g w h' a b∧AR b w0.heap.size Zp h' a r v∧∀o,a.al o→g.al o∨o=new
theorem bl.pure(R:HR w0 Z0 Zp h g w){res:Sem Next}{v:Value}(hr:res.run P w= .ok (.value v) w)(a:AR w w0.heap.size Zp h g r v):bl P w0 Z0 Zp h g w new res r h:=
 ⟨_,v,w,g,hr,.inl rfl,R,Le.refl _ _ _ _,a,fun _ h=> .inl h⟩
theorem Le.trans{w1 Q:World}{j y:aP}{g1 g2:G}(a:Le Zp h g w j g1 w1)(b:Le Zp j g1 w1 y g2 Q):Le Zp h g w y g2 Q:=by
 refine⟨fun o x=>b.al o (a.al o x),a.z.trans b.z,a.zp.trans b.zp,fun o x=> ?_,fun o x hd=> ?_,fun o x J=> ?_,fun c id e U=>b.pm c id e (a.pm c id e U)⟩
 ·have j:=a.ob o x;have y:=b.ob o (a.al o x);rcases y with y |⟨i,p⟩|⟨c,S,i,p⟩|⟨q,i,p⟩|⟨k,v,l,V,i,p⟩|⟨K,H,W,i,p⟩|⟨K,H,i,p⟩
  ·exact .inl y
  ·exact .inr (.inl ⟨j.tok i,p⟩)
  ·rcases j with j |⟨_,j⟩|⟨d,E,f1,f2⟩|⟨q,_,j⟩|⟨_,_,_,_,_,j⟩|⟨_,_,_,_,j⟩|⟨_,_,_,j⟩
   ·rw[j]at i;cases i
   ·rw[j]at i;cases i
   ·exact .inr (.inr (.inl ⟨d,S,f1,p⟩))
   ·rw[i]at j;simp[fN]at j
   ·rw[j]at i;cases i
   ·rw[j]at i;cases i
   ·rw[j]at i;cases i
  ·exact .inr (.inr (.inr (.inl ⟨q,j.row i,p⟩)))
  ·rcases j with j |⟨_,j⟩|⟨d,E,f1,f2⟩|⟨q,_,j⟩|⟨M,O,m,N,f1,f2⟩|⟨_,_,_,_,j⟩|⟨_,_,_,j⟩
   ·rw[j]at i;cases i
   ·rw[j]at i;cases i
   ·rw[f2]at i;cases i
   ·rw[i]at j;simp[fN]at j
   ·rw[f2]at i
    cases i;exact .inr (.inr (.inr (.inr (.inl ⟨_,_,m,V,f1,p⟩))))
   ·rw[j]at i;cases i
   ·rw[j]at i;cases i
  ·rcases j with j |⟨_,j⟩|⟨d,E,f1,f2⟩|⟨q,_,j⟩|⟨M,O,m,N,f1,f2⟩|⟨R,H1,H2,f1,f2⟩|⟨_,_,_,j⟩
   ·rw[j]at i;cases i
   ·rw[j]at i;cases i
   ·rw[f2]at i;cases i
   ·rw[i]at j;simp[fN]at j
   ·rw[f2]at i;cases i
   ·rw[f2]at i
    cases i;exact .inr (.inr (.inr (.inr (.inr (.inl ⟨_,_,_,f1,p⟩)))))
   ·rw[j]at i;cases i
  ·rcases j with j |⟨_,j⟩|⟨d,E,f1,f2⟩|⟨q,_,j⟩|⟨M,O,m,N,f1,f2⟩|⟨R,H1,H2,f1,f2⟩|⟨_,_,f1,f2⟩
   ·rw[j]at i;cases i
   ·rw[j]at i;cases i
   ·rw[f2]at i;cases i
   ·rw[i]at j;simp[fN]at j
   ·rw[f2]at i;cases i
   ·rw[f2]at i;cases i
   ·rw[f2]at i
    cases i;exact .inr (.inr (.inr (.inr (.inr (.inr ⟨_,_,f1,p⟩)))))
 ·exact(b.hm o (a.al o x) hd).trans (a.hm o x ((b.ob o (a.al o x)).alive hd))
 ·have D:=(b.ob o (a.al o x)).tok J;have i:=b.tok o (a.al o x) J;have p:=a.tok o x D;exact⟨i.1.trans p.1,fun c I=>(i.2 c ((a.hm o x (by rw[D];simp)).trans I)).trans (p.2 c I)⟩
theorem bl.behind{j:aP}{g1:G}{res:Sem Next}(x:Le Zp h g w j g1 w)(i:∀o,g1.al o→g.al o)(H:bl P w0 Z0 Zp j g1 w new res r h'):bl P w0 Z0 Zp h g w new res r h':=by
 obtain⟨n,v,D,p,a,b,c,d,e,f⟩:=H;exact⟨n,v,D,p,a,b,c,x.trans d,e,fun o y=>(f o y).imp (i o) id⟩
theorem AR.c{base:Nat}{c:C}{v:Value}(hh:AR w base Zp h g (.v false [c]) v):CR w base Zp h g c v:=by
 obtain⟨u,a,e,i,_⟩:=hh
 cases e;exact i
theorem AR.jU{base:Nat}{c:C}{v:Value}(hh:CR w base Zp h g c v):AR w base Zp h g (.v false [c]) v:=⟨v,[],rfl,hh,rfl⟩
theorem AR.agg{base:Nat}{cs:List C}{v:Value}(hh:AR w base Zp h g (.v true cs) v):∃vs:List Value,v= .agg vs.toArray∧cw w base Zp h g cs vs:=hh
theorem YW{base:Nat}(v:Value):AR w base Zp h g (YM v) v:=by
 unfold YM
 split<;>first
  |exact AR.jU trivial
  |(refine AR.jU ?_;simp[CR])
theorem ce{base:Nat}{env:Env}{a:Act}(b:∀t,AR w base Zp h g (look aA t env) (a.tmps.getD t undef))(x:Operand):AR w base Zp h g (sV env x) (a.eval x):=by
 cases x with
 |tmp t=>exact b t
 |const v=>exact YW v
 |global _=>exact AR.jU trivial
 |func f=>exact AR.jU ⟨#[],rfl,by simp[bY]⟩
end
section
variable {P:Program} {w0:W0} {w:World} {Z0 Zp:bj} {h h':aP} {g:G} {new next base:Nat} {r:A} {L L':Log} {X:Cx}
theorem bz{c:C}(e:(jq c).eval next h L=some (r,h',L')):r= .v false [c]∧h'=h∧L'=L:=by
 simp[jq,HM.eval]at e;exact⟨e.1.symm,e.2.1.symm,e.2.2.symm⟩
theorem dt{k:IntKind}{n:Int}(e:(qK k n).eval next h L=some (r,h',L')):r= .v false [.int k n]∧h'=h∧L'=L:=bz e
theorem fw{b:Bool}(e:(oW b).eval next h L=some (r,h',L')):r= .v false [.bool b]∧h'=h∧L'=L:=bz e
theorem aaV{k:IntKind}{a b n:Int}(h:qt k a b=some n):b≠0∧n=k.wrap (a.tdiv b):=by
 unfold qt at h;split at h
 ·cases h
 ·rename_i c;cases h;exact⟨c,rfl⟩
theorem BF{a b n:Int}(h:rm a b=some n):b≠0∧n=a.tmod b:=by
 unfold rm at h;split at h
 ·cases h
 ·rename_i c;cases h;exact⟨c,rfl⟩
theorem XA{k:IntKind}{a b n:Int}(h:Dx k a b=some n):¬ b<0∧n=k.wrap (a*2^(min b.toNat k.bits)):=by
 unfold Dx at h;split at h
 ·cases h
 ·rename_i c;cases h;exact⟨c,rfl⟩
theorem XB{k:IntKind}{a b n:Int}(h:Rb k a b=some n):¬ b<0∧n=a.fdiv (2^(min b.toNat k.bits)):=by
 unfold Rb at h;split at h
 ·cases h
 ·rename_i c;cases h;exact⟨c,rfl⟩
theorem YX {op : BinOp} {t : TypeId} {x y : Operand} {k o : IntKind} {a b : Int} (e : (J8 op (.v false [.int k a]) (.v false [.int o b])).eval next h L = some (r, h', L')) :
    h' = h ∧ ∃ c v, r = .v false [c] ∧ (do eqGuard op t x y (.int k a) (.int o b); binOp op t (.int k a) (.int o b) : Sem Value).run P w = .ok v w ∧ CR w base Zp h g c v := by
  have p : (eqGuard op t x y (.int k a) (.int o b)).run P w = .ok () w := by
    cases op <;> simp [eqGuard]
  simp only [Sem.run_bind, p, Result.andThen_ok]
  cases op
  case shl =>
    obtain ⟨n, j, e⟩ := aN e
    obtain ⟨d, i⟩ := XA j
    obtain ⟨rfl, rfl, _⟩ := dt e
    exact ⟨rfl, _, .int k n, rfl, by simp [binOp, Op.shift, d, i], rfl⟩
  case shr =>
    obtain ⟨n, j, e⟩ := aN e
    obtain ⟨d, i⟩ := XB j
    obtain ⟨rfl, rfl, _⟩ := dt e
    exact ⟨rfl, _, .int k n, rfl, by simp [binOp, Op.shift, d, i], rfl⟩
  case quo =>
    simp only [J8] at e
    split at e
    · exact (af e).elim
    rename_i l _
    subst l
    obtain ⟨n, j, e⟩ := aN e
    obtain ⟨d, i⟩ := aaV j
    obtain ⟨rfl, rfl, _⟩ := dt e
    exact ⟨rfl, _, .int k n, rfl, by simp [binOp, Op.intDiv, d, i], rfl⟩
  case rem =>
    simp only [J8] at e
    split at e
    · exact (af e).elim
    rename_i l _
    subst l
    obtain ⟨n, j, e⟩ := aN e
    obtain ⟨d, i⟩ := BF j
    obtain ⟨rfl, rfl, _⟩ := dt e
    exact ⟨rfl, _, .int k n, rfl, by simp [binOp, Op.intDiv, d, i], rfl⟩
  all_goals
    simp only [J8] at e
    split at e
    · exact (af e).elim
    rename_i l _
    subst l
    first
      | (obtain ⟨rfl, rfl, _⟩ := dt e
         refine ⟨rfl, _, _, rfl, ?_, rfl⟩
         simp [binOp, Op.intArith, Op.intBits, EC]; done)
      | (obtain ⟨rfl, rfl, _⟩ := fw e
         refine ⟨rfl, _, _, rfl, ?_, rfl⟩
         simp [binOp, Op.intCmp]; done)
theorem S6(a:List UInt8):(⟨a.toArray⟩:ByteArray).toList=a:=by rw[ByteArray.toList_eq]
theorem zN(a:List UInt8):(⟨a.toArray⟩:ByteArray).size=a.length:=by simp[ByteArray.size]
theorem VD(a b:List UInt8):(⟨a.toArray⟩:ByteArray)++⟨b.toArray⟩=⟨(a++b).toArray⟩:=by
 apply ByteArray.ext;simp
theorem YY{a b c:List UInt8}(h:cat a b=some c):a.length+b.length≤2^62∧c=a++b:=by
 unfold cat at h;split at h
 ·rename_i d;cases h;exact⟨d,rfl⟩
 ·cases h
theorem YZ {op : BinOp} {t : TypeId} {x y : Operand} {a b : List UInt8} (e : (J8 op (.v false [.str a]) (.v false [.str b])).eval next h L = some (r, h', L')) :
    h' = h ∧ ∃ c v, r = .v false [c] ∧ (do eqGuard op t x y (.string ⟨a.toArray⟩) (.string ⟨b.toArray⟩); binOp op t (.string ⟨a.toArray⟩) (.string ⟨b.toArray⟩) : Sem Value).run P w = .ok v w ∧ CR w base Zp h g c v := by
  have i : (eqGuard op t x y (.string ⟨a.toArray⟩) (.string ⟨b.toArray⟩)).run P w = .ok () w := by
    cases op <;> simp [eqGuard]
  simp only [Sem.run_bind, i, Result.andThen_ok]
  cases op <;> simp only [J8] at e <;> first
    | exact (af e).elim
    | (obtain ⟨rfl, rfl, _⟩ := fw e
       refine ⟨rfl, _, _, rfl, ?_, rfl⟩
       simp [binOp, Op.stringOp, EH]; done)
    | (obtain ⟨s, k, e⟩ := aN e
       obtain ⟨l, j⟩ := YY k
       subst j
       obtain ⟨rfl, rfl, _⟩ := bz e
       refine ⟨rfl, _, _, rfl, ?_, rfl⟩
       have d := run_string_add_sum (P := P) (w := w) ⟨a.toArray⟩ ⟨b.toArray⟩ (by rw [zN, zN]; omega)
       rw [VD] at d
       simpa [binOp] using d)
theorem run_equalIn_bool{t:TypeId}(c:P.underlying t=some .bool)(a b:Bool)(d:Nat):(Op.equalIn (d+1) t (.bool a) (.bool b)).run P w= .ok (a==b) w:=by
 unfold Op.equalIn;simp only[Sem.run_bind,run_underlying c,Result.andThen_ok,Sem.run_pure]
theorem run_equal_bool{t:TypeId}(c:P.underlying t=some .bool)(a b:Bool):(Op.equal t (.bool a) (.bool b)).run P w= .ok (a==b) w:=run_equalIn_bool c a b 9999
theorem XC {op : BinOp} {t : TypeId} {x y : Operand} {a b : Bool} (d : P.underlying t = some .bool) (e : (J8 op (.v false [.bool a]) (.v false [.bool b])).eval next h L = some (r, h', L')) :
    h' = h ∧ ∃ c v, r = .v false [c] ∧ (do eqGuard op t x y (.bool a) (.bool b); binOp op t (.bool a) (.bool b) : Sem Value).run P w = .ok v w ∧ CR w base Zp h g c v := by
  have i : (eqGuard op t x y (.bool a) (.bool b)).run P w = .ok () w := by
    cases op <;> simp [eqGuard]
  simp only [Sem.run_bind, i, Result.andThen_ok]
  cases op <;> simp only [J8] at e <;> first
    | exact (af e).elim
    | (obtain ⟨rfl, rfl, _⟩ := fw e
       refine ⟨rfl, _, _, rfl, ?_, rfl⟩
       first
         | (show ((do pure (.bool (← Op.equal t (.bool a) (.bool b))) : Sem Value)).run P w = _
            simp only [Sem.run_bind, run_equal_bool d, Result.andThen_ok, Sem.run_pure]; done)
         | (show ((do pure (.bool (!(← Op.equal t (.bool a) (.bool b)))) : Sem Value)).run P w = _
            simp only [Sem.run_bind, run_equal_bool d, Result.andThen_ok, Sem.run_pure]; done))
theorem S7{op:BinOp}{t:TypeId}{x y:Operand}{X Y:A}{l n:Value}(o:∀a b,X= .v false [.bool a]→Y= .v false [.bool b]→P.underlying t=some .bool)(j:AR w base Zp h g X l)(k:AR w base Zp h g Y n)
  (e:(J8 op X Y).eval next h L=some (r,h',L')):
  h'=h∧∃c v,r= .v false [c]∧(do eqGuard op t x y l n;binOp op t l n:Sem Value).run P w= .ok v w∧CR w base Zp h g c v:=by
 unfold J8 at e
 split at e
 ·have d:=j.c;have i:=k.c;simp only[CR]at d i;subst d;subst i;exact YX e
 ·have d:=j.c;have i:=k.c;simp only[CR]at d i;subst d;subst i;exact YZ e
 ·have d:=j.c;have i:=k.c;simp only[CR]at d i;subst d;subst i;exact XC (o _ _ rfl rfl) e
 ·exact(af e).elim
theorem aaW {op : UnOp} {X : A} {b : Value} (d : AR w base Zp h g X b) (e : (unA op X).eval next h L = some (r, h', L')) :
    h' = h ∧ ∃ c v, r = .v false [c] ∧ (Op.unary op b).run P w = .ok v w ∧ CR w base Zp h g c v := by
  unfold unA at e
  split at e <;> first
    | exact (af e).elim
    | (have a := d.c
       simp only [CR] at a
       subst a
       first
         | (obtain ⟨rfl, rfl, _⟩ := dt e
            refine ⟨rfl, _, _, rfl, ?_, rfl⟩
            simp [Op.unary, Op.intArith, Op.intBits, EC]; done)
         | (obtain ⟨rfl, rfl, _⟩ := fw e
            refine ⟨rfl, _, _, rfl, ?_, rfl⟩
            simp [Op.unary]; done))
end
end Go.Am
