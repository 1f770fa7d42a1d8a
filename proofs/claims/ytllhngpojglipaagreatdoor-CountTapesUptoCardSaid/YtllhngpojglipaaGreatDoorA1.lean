import Derived.WalkKit
import Derived.Deep.AppendSrc
set_option linter.unusedVariables false
set_option linter.unusedSimpArgs false
open Bool renaming and_eq_true→ak
open List renaming getElem?_append_left→aP,getElem?_append_right→bc,getElem?_eq_none→bd,getElem?_set_ne→dq,getElem?_set_self→fl,length→af,mem_cons_of_mem→aG,replicate→ao
open Nat renaming add_mul→cF,beq→bT,eq_of_beq_eq_true→aA,le_refl→az,le_trans→ei,lt_of_lt_of_le→ca
open Go.World renaming cell?_of_block→bW
namespace Go.Am
inductive Ty where
 |bool |int (k:IntKind)|str |sl (e:Ty)|pair (a b:Ty)|unit |ref (a:Ty)|fn (f:FuncId)|cl (f:FuncId) (a:Ty)
 deriving DecidableEq
def Ty.den:Ty→Type
 |.bool=>Bool
 |.int _=>Int
 |.str=>List UInt8
 |.sl e=>List e.den
 |.pair a b=>a.den×b.den
 |.unit=>Unit
 |.ref a=>a.den
 |.fn _=>Unit
 |.cl _ a=>a.den
def Ty.size:Ty→Nat
 |.pair a b=>a.size+b.size
 |.unit=>0
 |_=>1
def Ty.isAgg:Ty→Bool
 |.pair _ _ |.unit=>true
 |_=>false
def Ty.zero:(τ:Ty)→τ.den
 |.bool=>false
 |.int _=>(0:Int)
 |.str=>([]:List UInt8)
 |.sl _=>[]
 |.pair a b=>(a.zero,b.zero)
 |.unit=>()
 |.ref a=>a.zero
 |.fn _=>()
 |.cl _ a=>a.zero
def jN:List Ty→Ty
 |[]=> .unit
 |[a]=>a
 |a::b::r=> .pair a (jN (b::r))
def awQ:List Ty→Ty
 |[]=> .unit
 |[a]=> .pair a .unit
 |a::b::r=> .pair a (jN (b::r))
inductive VT where
 |data (τ:Ty)|gp (c off:Nat)|gs (c:Nat)|gm (c:Nat)|pair (a b:VT)|unit
 deriving DecidableEq
def VT.den:VT→Type
 |.data τ=>τ.den
 |.gp _ _=>Option Nat
 |.gs _=>Option (Nat×Nat×Nat)
 |.gm _=>Option Nat
 |.pair a b=>a.den×b.den
 |.unit=>Unit
def VT.size:VT→Nat
 |.data τ=>τ.size
 |.pair a b=>a.size+b.size
 |.unit=>0
 |_=>1
def VT.isAgg:VT→Bool
 |.data τ=>τ.isAgg
 |.pair _ _ |.unit=>true
 |_=>false
def VT.zero:(V:VT)→V.den
 |.data τ=>τ.zero
 |.gp _ _=>(none:Option Nat)
 |.gs _=>(none:Option (Nat×Nat×Nat))
 |.gm _=>(none:Option Nat)
 |.pair a b=>(a.zero,b.zero)
 |.unit=>()
def BB:List VT→VT
 |[]=> .unit
 |[a]=>a
 |a::b::r=> .pair a (BB (b::r))
inductive GK where
 |st (V:VT)|bf (V:VT)|mp (k:Ty) (V:VT)
 deriving DecidableEq
def GK.xp:GK→Type
 |.st V=>V.den
 |.bf V=>List V.den
 |.mp k V=>List (k.den×V.den)
inductive Tok where
 |no |nn |nl |own (o:Nat)
inductive C where
 |undef
 |bool (b:Bool)
 |int (k:IntKind) (n:Int)
 |str (s:List UInt8)
 |sl (e:Ty) (l:List e.den) (t:Tok)
 |nils
 |vec (o:Nat)
 |ptr (o off:Nat)
 |aeY (o i c:Nat)
 |ap8 (o off len i:Nat)
 |Ja (a:Ty) (x:a.den) (c:Nat)
 |clos (f:FuncId) (caps:List Nat)
 |nilfn
 |nilp
 |mp (o:Nat)
 |Eg (f:FuncId) (a:Ty) (x:a.den)
 |gp (c off:Nat) (x:Option Nat)
 |gs (c:Nat) (x:Option (Nat×Nat×Nat))
 |ge (c id ix off:Nat)
 |gm (c:Nat) (x:Option Nat)
inductive A where
 |v (agg:Bool) (cs:List C)
 |jN (ps:List (Bool×List C))
def aJ:A:=.v false [.undef]
def BH:A:=.jN []
inductive Ob where
 |dead
 |tok
 |cells (cs:List C)
 |row (e:Ty) (l:List e.den)
 |xq (e:Ty) (l:List e.den)
 |map (k v:Ty) (l:List (k.den×v.den))
 |gh (wr:Bool) (K:GK) (H:List (Option K.xp))
def Ty.cells:(τ:Ty)→τ.den→List C
 |.bool,b=>[.bool b]
 |.int k,n=>[.int k n]
 |.str,s=>[.str s]
 |.sl e,l=>[.sl e l .no]
 |.pair a b,x=>a.cells x.1++b.cells x.2
 |.unit,_=>[]
 |.ref a,x=>[.Ja a x 0]
 |.fn f,_=>[.clos f []]
 |.cl f a,x=>[.Eg f a x]
def Ty.mU:Ty→List C
 |.bool=>[.bool false]
 |.int k=>[.int k 0]
 |.str=>[.str []]
 |.sl _=>[.nils]
 |.pair a b=>a.mU++b.mU
 |.unit=>[]
 |.ref _=>[.nilp]
 |.fn _=>[.nilfn]
 |.cl _ _=>[.nilfn]
def rt(a b:Ty)(l:List a.den):Option (List b.den):=
 match decEq a b with
 |.isTrue h=>some (h▸l)
 |.isFalse _=>none
def rZ(a b:Ty)(x:a.den):Option b.den:=
 match decEq a b with
 |.isTrue h=>some (h▸x)
 |.isFalse _=>none
def Ty.take:(τ:Ty)→List C→Option (τ.den×List C)
 |.bool,.bool b::r=>some (b,r)
 |.int k,.int E n::r=>match decEq k E with |.isTrue _=>some (n,r)|.isFalse _=>none
 |.str,.str s::r=>some (s,r)
 |.sl e,.sl D l _::r=>match rt D e l with |some l=>some (l,r)|none=>none
 |.sl _,.nils::r=>some ([],r)
 |.pair a b,j=>match a.take j with
  |some (x,r)=>match b.take r with
   |some (y,H)=>some ((x,y),H)
   |none=>none
  |none=>none
 |.unit,j=>some ((),j)
 |.ref a,.Ja i x 0::r=>match rZ i a x with |some x=>some (x,r)|none=>none
 |.fn f,.clos g []::r=>match decEq f g with |.isTrue _=>some ((),r)|.isFalse _=>none
 |.cl f a,.Eg g i x::r=>match decEq f g with |.isTrue _=>(match rZ i a x with |some x=>some (x,r)|none=>none)|.isFalse _=>none
 |_,_=>none
def Ty.dC(τ:Ty)(cs:List C):Option τ.den:=
 match τ.take cs with
 |some (x,[])=>some x
 |_=>none
def VT.cells:(V:VT)→V.den→List C
 |.data τ,x=>τ.cells x
 |.gp c i,x=>[.gp c i x]
 |.gs c,x=>[.gs c x]
 |.gm c,x=>[.gm c x]
 |.pair a b,x=>a.cells x.1++b.cells x.2
 |.unit,_=>[]
def VT.mU:VT→List C
 |.data τ=>τ.mU
 |.gp _ _=>[.nilp]
 |.gs _=>[.nils]
 |.gm c=>[.gm c none]
 |.pair a b=>a.mU++b.mU
 |.unit=>[]
def VT.take:(V:VT)→List C→Option (V.den×List C)
 |.data τ,j=>τ.take j
 |.gp c E,.gp i D x::r=>match bT c i&&bT E D with |true=>some (x,r)|false=>none
 |.gp _ _,.nilp::r=>some (none,r)
 |.gs c,.gs i x::r=>match bT c i with |true=>some (x,r)|false=>none
 |.gs _,.nils::r=>some (none,r)
 |.gm c,.gm i x::r=>match bT c i with |true=>some (x,r)|false=>none
 |.pair a b,j=>match a.take j with
  |some (x,r)=>match b.take r with
   |some (y,H)=>some ((x,y),H)
   |none=>none
  |none=>none
 |.unit,j=>some ((),j)
 |_,_=>none
def VT.dC(V:VT)(cs:List C):Option V.den:=
 match V.take cs with
 |some (x,[])=>some x
 |_=>none
def oI(K a:GK)(H:List (Option K.xp)):Option (List (Option a.xp)):=
 match decEq K a with
 |.isTrue h=>some (h▸H)
 |.isFalse _=>none
def av{R:Type}(b:Bool)(x y:Option R):Option R:=match b with |true=>x |false=>y
def idx{α:Type}(l:List α)(i:Int):Option α:=if 0≤i then l[i.toNat]? else none
def ck(i:Int)(n:Nat):Option Nat:=if 0≤i∧i<n then some i.toNat else none
def qt(k:IntKind)(a b:Int):Option Int:=if b=0 then none else some (k.wrap (a.tdiv b))
def rm(a b:Int):Option Int:=if b=0 then none else some (a.tmod b)
def qc(k:IntKind)(a b:Int):Option Int:=if b<0 then none else some (k.wrap (a*2^(min b.toNat k.bits)))
def ui(k:IntKind)(a b:Int):Option Int:=if b<0 then none else some (a.fdiv (2^(min b.toNat k.bits)))
def r9(op:BinOp)(k:IntKind)(x y:Int):Int:=
 let a:=BitVec.ofInt k.bits x
 let b:=BitVec.ofInt k.bits y
 k.wrap (match op with |.and=>(a &&& b).toNat |.or=>(a ||| b).toNat |.xor=>(a ^^^ b).toNat |_=>(a &&& ~~~b).toNat)
def room:Nat:=140737488355328
def Bx(bytes:Nat)(n:Int):Option Nat:=if 0≤n∧n.toNat*bytes≤room∧n≤140737488355328 then some n.toNat else none
def app{α:Type}(bytes:Nat)(l m:List α):Option (List α):=if(l.length+m.length)*bytes≤room∧l.length+m.length≤room then some (l++m)else none
def slc{α:Type}(l:List α)(lo hi:Int):Option (List α):=if 0≤lo∧lo≤hi∧hi≤l.length then some ((l.take hi.toNat).drop lo.toNat)else none
def cat(s t:List UInt8):Option (List UInt8):=if s.length+t.length≤2^62 then some (s++t)else none
def FQ(s:List UInt8)(i:Int):Option Int:=if 0≤i then(s[i.toNat]?).map (fun b=>(b.toNat:Int))else none
def bytesOf(l:List Int):List UInt8:=l.map fun n=>UInt8.ofNat n.toNat
def imax(x y:Int):Int:=if y>x then y else x
def xr(x y:Int):Int:=if y<x then y else x
def IY{α β:Type}(a:α→α→Bool):List (α×β)→α→Option β
 |[],_=>none
 |p::r,k=>match a k p.1 with
  |true=>some p.2
  |false=>IY a r k
def OJ{α β:Type}(a:α→α→Bool):List (α×β)→α→β→List (α×β)
 |[],k,v=>[(k,v)]
 |p::r,k,v=>match a k p.1 with
  |true=>(k,v)::r
  |false=>p::OJ a r k v
def nth{α:Type}(l:List α)(i:Nat):Option α:=l[i]?
def eE{α:Type}(H:List (Option α))(x:α):List (Option α):=H++[some x]
def fA{α:Type}(H:List (Option α))(i:Nat):Option α:=match H[i]? with |some (some x)=>some x |_=>none
def uG{α:Type}(H:List (Option α))(i:Nat)(x:α):Option (List (Option α)):=match H[i]? with |some (some _)=>some (H.set i (some x))|_=>none
def rX{α:Type}(H:List (Option (List α)))(x:Option (Nat×Nat×Nat)):Option (List α):=
 match x with
 |none=>some []
 |some (i,a,n)=>match fA H i with
  |some l=>if a+n≤l.length then some ((l.drop a).take n)else none
  |none=>none
def gsF{α:Type}(H:List (Option (List α)))(x:Option (Nat×Nat×Nat)):Option (List α×List (Option (List α))):=
 match x with
 |none=>some ([],H)
 |some (i,a,n)=>match rX H (some (i,a,n))with
  |some l=>some (l,H.set i none)
  |none=>none
def gad{α:Type}(H:List (Option (List α)))(l:List α):Option (List (Option (List α))×Option (Nat×Nat×Nat)):=
 match l with
 |[]=>none
 |y::m=>some (eE H (y::m),some (H.length,0,(y::m).length))
def gsN(x:Option (Nat×Nat×Nat)):Int:=match x with |none=>0 |some (_,_,n)=>n
def gsS(x:Option (Nat×Nat×Nat))(lo hi:Int):Option (Option (Nat×Nat×Nat)):=
 match x with
 |none=>if lo=0∧hi=0 then some none else none
 |some (i,a,n)=>if 0≤lo∧lo≤hi∧hi≤n then some (some (i,a+lo.toNat,(hi -lo).toNat))else none
def gsA{α:Type}(bytes:Nat)(H:List (Option (List α)))(x:Option (Nat×Nat×Nat))(m:List α):Option (List (Option (List α))×Option (Nat×Nat×Nat)):=
 match x with
 |none=>match m with
  |[]=>some (H,none)
  |y::m=>match app bytes [] (y::m)with
   |some l=>some (eE H l,some (H.length,0,l.length))
   |none=>none
 |some (i,a,n)=>match rX H (some (i,a,n))with
  |some l=>match app bytes l m with
   |some l=>some (eE (H.set i none) l,some (H.length,0,l.length))
   |none=>none
  |none=>none
inductive HM:Type 1 where
 |ret (a:A)
 |fail
 |get (o:Nat) (k:Ob→HM)
 |set (o:Nat) (x:Ob) (k:HM)
 |opt {β:Type} (x:Option β) (k:β→HM)
 |br (b:Bool) (x y:HM)
abbrev Log:=List (Nat×Bool)
abbrev bm:=List (Nat×Ob)
abbrev Env:=List (Nat×A)
def look{α:Type}(d:α)(t:Nat):List (Nat×α)→α
 |[]=>d
 |(u,x)::r=>match bT u t with |true=>x |false=>look d t r
def HM.run{R:Type}(next:Nat):HM→bm→Log→(A→bm→Log→Option R)→Option R
 |.ret a,h,L,K=>K a h L
 |.fail,_,_,_=>none
 |.get o k,h,L,K=>(k (look .dead o h)).run next h ((o,false)::L) K
 |.set o x k,h,L,K=>match Nat.blt o next with
  |true=>k.run next ((o,x)::h) ((o,true)::L) K
  |false=>none
 |.opt x k,h,L,K=>x.bind fun b=>(k b).run next h L K
 |.br b x y,h,L,K=>av b (x.run next h L K) (y.run next h L K)
inductive TK where
 |bool |int (k:IntKind)|str |slice (e:TypeId)|struct (fs:List (TypeId×Nat))|array (n:Nat) (e:TypeId)|map (k v:TypeId)|ptr (e:TypeId)|other
def BI:TypeDesc→TK
 |.bool=> .bool
 |.int k=> .int k
 |.string=> .str
 |.slice e=> .slice e
 |.struct a=> .struct (a.toList.map fun f=>(f.type,f.offset))
 |.array n e=> .array n e
 |.map k v=> .map k v
 |.pointer e=> .ptr e
 |_=> .other
def aoV:TK→Bool
 |.struct _ |.array _ _=>true
 |_=>false
structure TD where
 desc:TK
 size:Nat
 bytes:Nat
 agg:Bool
 ty:Option Ty
 zero:Bool
 eq:List Ty
structure Entry where
 ps:List Ty
 rs:List Ty
 F:(jN ps).den→Option (jN rs).den
structure Dh where
 ps:List Ty
 e:Ty
 F:(jN ps).den→Option (List e.den)
def gF:List (Nat×GK)→Type
 |[]=>Unit
 |k::r=>List (Option k.2.xp)×gF r
structure xt where
 ps:List VT
 rs:List VT
 ws:List (Nat×GK)
 os:List (Nat×GK)
 F:(BB ps).den→gF ws→gF os→Option ((BB rs).den×gF ws)
inductive CK where
 |data (τ:Ty)|own (e:Ty)|fix (c:C)
inductive SK where
 |data (τ:Ty)|own (e:Ty)|fix (a:A)|box (l:List CK)|ref (a:Ty)|vt (V:VT)|cl (f:FuncId) (a:Ty)
inductive OK where
 |row (e:Ty)|xq (e:Ty)|cells (l:List CK)|map (k v:Ty)|gh (wr:Bool) (K:GK)|obj (τ:Ty)
structure NS where
 slots:List (Nat×SK)
 obs:List (Nat×OK)
 next:Nat
inductive Ex where
 |normal |ret |exit (id:Nat)
structure LS where
 vin:NS
 outs:List (Ex×NS)
structure Cx where
 tt:List (TypeId×TD)
 calls:List (FuncId×Entry)
 owns:List (FuncId×Dh)
 stats:List (FuncId×xt):=[]
 Ue:List (TypeId×VT):=[]
 mks:List (TypeId×Nat):=[]
 aks:List (TypeId×Nat):=[]
 ap9:List (FuncId×Nat):=[]
 loc:List (Nat×GK):=[]
 nc:Nat:=0
 tail:Bool:=false
 loops:List (Nat×LS)
 gV:List (Nat×NS)
 auT:List (Nat×NS):=[]
 ljs:List (Nat×List (Nat×Ty)):=[]
 lcs:List (Nat×List (Nat×Ty)×Nat):=[]
 nt:Nat
 fuel:Nat
def cW{α:Type}(t:Nat):List (Nat×α)→Option α
 |[]=>none
 |(u,x)::r=>match bT u t with |true=>some x |false=>cW t r
def pt(mark:Bool)(c:C)(k:C→HM):HM:=
 match c with
 |.vec o=> .get o fun
  |.row e l=>match mark with
   |true=> .set o (.xq e l) (k (.sl e l .no))
   |false=>k (.sl e l .no)
  |.xq e l=>k (.sl e l .no)
  |_=> .fail
 |.sl e l _=>k (.sl e l .no)
 |c=>k c
def jv(mark:Bool):List C→(List C→HM)→HM
 |[],k=>k []
 |c::r,k=>pt mark c fun a=>jv mark r fun b=>k (a::b)
def Ty.flat:Ty→Bool
 |.bool |.int _ |.str |.unit |.fn _=>true
 |.pair a b=>a.flat&&b.flat
 |_=>false
def Ty.isKey:Ty→Bool
 |.bool |.int _ |.str |.unit=>true
 |.pair a b=>a.isKey&&b.isKey
 |_=>false
def Ty.Uf(k:IntKind):Ty→Bool
 |.int q=>match decEq k q with
  |.isTrue _=>true
  |.isFalse _=>false
 |.unit=>true
 |.pair a b=>a.Uf k&&b.Uf k
 |_=>false
def Ty.Jb:(τ:Ty)→τ.den→τ.den→Bool
 |.bool,a,b=>(show Bool from a)==(show Bool from b)
 |.int _,a,b=>(show Int from a)==(show Int from b)
 |.str,a,b=>(show List UInt8 from a)==(show List UInt8 from b)
 |.pair a b,x,y=>a.Jb x.1 y.1&&b.Jb x.2 y.2
 |_,_,_=>true
def Ty.cE:Ty→Bool
 |.ref _=>false
 |.cl _ _=>false
 |.pair a b=>a.cE&&b.cE
 |.sl e=>e.cE
 |_=>true
def A.cellsOf:A→Option (List C)
 |.v _ i=>some i
 |.jN _=>none
def asI(mark:Bool):(a:Ty)→List Nat→(a.den→HM)→HM
 |.unit,[],k=>k ()
 |.pair (.ref σ) r,o::c,k=>match σ.cE with
  |true=> .get o fun
   |.cells b=>jv mark (b.take σ.size) fun b=>match σ.dC b with
    |some x=>asI mark r c fun y=>k (x,y)
    |none=> .fail
   |_=> .fail
  |false=> .fail
 |_,_,_=> .fail
def atM(a:C)(k:List C→HM):HM:=
 match a with
 |.gp c b x=> .opt x fun id=> .get c fun
  |.gh _ (.st V) H=> .opt (fA (α:=V.den) H id) fun y=>k ((V.cells y).drop b)
  |_=> .fail
 |.ge c id d b=> .get c fun
  |.gh _ (.bf V) H=> .opt (fA (α:=List V.den) H id) fun l=> .opt (nth (α:=V.den) l d) fun y=>k ((V.cells y).drop b)
  |_=> .fail
 |_=> .fail
def P7(σ:Ty)(c:Nat)(x:Option (Nat×Nat×Nat))(k:List σ.den→HM):HM:=
 .get c fun
  |.gh _ K H=>match oI K (.bf (.data σ)) H,σ.cE with
   |some H,true=> .opt (rX H x) k
   |_,_=> .fail
  |_=> .fail
def aod(σ:Ty)(c:Nat)(x:Option (Nat×Nat×Nat))(k:List σ.den→HM):HM:=
 .get c fun
  |.gh true K H=>match oI K (.bf (.data σ)) H,σ.cE with
   |some H,true=> .opt (gsF H x) fun r=> .set c (.gh true (.bf (.data σ)) r.2) (k r.1)
   |_,_=> .fail
  |_=> .fail
def aoW(mark:Bool)(τ:Ty)(a:A)(k:τ.den→HM):HM:=
 match τ,a with
 |.ref σ,.v false [.ptr o d]=>match σ.cE with
  |true=> .get o fun
   |.cells b=>jv mark ((b.drop d).take σ.size) fun b=>match σ.dC b with
    |some x=>k x
    |none=> .fail
   |_=> .fail
  |false=> .fail
 |.ref σ,.v false [.Ja e x c]=>match σ.cE with
  |true=>match σ.dC (((e.cells x).drop c).take σ.size)with
   |some x=>k x
   |none=> .fail
  |false=> .fail
 |.ref σ,.v false [.gp c d x]=>match σ.cE&& !mark with
  |true=>atM (.gp c d x) fun b=>match σ.dC (b.take σ.size)with
   |some x=>k x
   |none=> .fail
  |false=> .fail
 |.ref σ,.v false [.ge c id j d]=>match σ.cE&& !mark with
  |true=>atM (.ge c id j d) fun b=>match σ.dC (b.take σ.size)with
   |some x=>k x
   |none=> .fail
  |false=> .fail
 |.sl σ,.v false [.gs c x]=>match mark with
  |false=>P7 σ c x k
  |true=>aod σ c x k
 |.cl f a,.v false [.clos h i]=>match decEq f h with
  |.isTrue _=>asI mark a i k
  |.isFalse _=> .fail
 |.cl f a,.v false [.Eg h e x]=>match decEq f h with
  |.isTrue _=>(match rZ e a x with
   |some x=>k x
   |none=> .fail)
  |.isFalse _=> .fail
 |τ,.v g b=>match g==τ.isAgg&&τ.cE with
  |true=>jv mark b fun b=>match τ.dC b with
   |some x=>k x
   |none=> .fail
  |false=> .fail
 |_,.jN _=> .fail
def ajT(mark:Bool):(ps:List Ty)→List A→((jN ps).den→HM)→HM
 |[],[],k=>k ()
 |[τ],[a],k=>aoW mark τ a k
 |τ::σ::r,a::as,k=>aoW mark τ a fun x=>ajT mark (σ::r) as fun y=>k (x,y)
 |_,_,_=> .fail
def Yi(τ:Ty)(x:τ.den):A:=.v τ.isAgg (τ.cells x)
def FR:(ps:List Ty)→(jN ps).den→List A
 |[],_=>[]
 |[τ],x=>[Yi τ x]
 |τ::σ::r,x=>Yi τ x.1::FR (σ::r) x.2
def awS(τ:Ty)(x:τ.den):Bool×List C:=(τ.isAgg,τ.cells x)
def aqa:(ps:List Ty)→(jN ps).den→List (Bool×List C)
 |[],_=>[]
 |[τ],x=>[awS τ x]
 |τ::σ::r,x=>awS τ x.1::aqa (σ::r) x.2
def aqb(rs:List Ty)(x:(jN rs).den):A:=
 match rs,x with
 |[τ],x=>Yi τ x
 |rs,x=> .jN (aqa rs x)
def auw(a:List Nat):List A:=a.map fun o=> .v false [.ptr o 0]
def amv:Ty→Bool
 |.unit=>true
 |.pair (.ref _) r=>amv r
 |_=>false
def aqc:(a:Ty)→a.den→List A
 |.pair (.ref σ) r,x=> .v false [.Ja σ x.1 0]::aqc r x.2
 |_,_=>[]
def VT.ok:VT→Bool
 |.data τ=>τ.cE
 |.pair a b=>a.ok&&b.ok
 |_=>true
def GK.ok:GK→Bool
 |.st V=>V.ok
 |.bf V=>V.ok
 |.mp _ V=>V.ok
def aoe(mark:Bool)(V:VT)(a:A)(k:V.den→HM):HM:=
 match V,a with
 |.data τ,a=>aoW mark τ a k
 |V,.v g b=>match g==V.isAgg&&V.ok with
  |true=>jv mark b fun b=>match V.dC b with
   |some x=>k x
   |none=> .fail
  |false=> .fail
 |_,.jN _=> .fail
def amw(mark:Bool):(ps:List VT)→List A→((BB ps).den→HM)→HM
 |[],[],k=>k ()
 |[τ],[a],k=>aoe mark τ a k
 |τ::σ::r,a::as,k=>aoe mark τ a fun x=>amw mark (σ::r) as fun y=>k (x,y)
 |_,_,_=> .fail
def Eh(V:VT)(x:V.den):A:=.v V.isAgg (V.cells x)
def zy:(ps:List VT)→(BB ps).den→List A
 |[],_=>[]
 |[τ],x=>[Eh τ x]
 |τ::σ::r,x=>Eh τ x.1::zy (σ::r) x.2
def abi:(ps:List VT)→(BB ps).den→List (Bool×List C)
 |[],_=>[]
 |[τ],x=>[(τ.isAgg,τ.cells x)]
 |τ::σ::r,x=>(τ.isAgg,τ.cells x.1)::abi (σ::r) x.2
def L0(rs:List VT)(x:(BB rs).den):A:=
 match rs,x with
 |[τ],x=>Eh τ x
 |rs,x=> .jN (abi rs x)
def asJ(wr:Bool):(l:List (Nat×GK))→(gF l→HM)→HM
 |[],k=>k ()
 |(c,K)::r,k=> .get c fun
  |.gh a b H=>match oI b K H,(!wr||a)with
   |some H,true=>asJ wr r fun y=>k (H,y)
   |_,_=> .fail
  |_=> .fail
def amx:(l:List (Nat×GK))→gF l→HM→HM
 |[],_,k=>k
 |(c,K)::r,x,k=> .set c (.gh true K x.1) (amx r x.2 k)
def P8(l:List Nat):Bool:=match l with
 |[]=>true
 |c::r=> !(r.contains c)&&P8 r
def aux(E:xt)(as:List A):HM:=
 match P8 ((E.ws++E.os).map (·.1))with
 |true=>amw true E.ps as fun x=>asJ true E.ws fun a=>asJ false E.os fun os=>
  .opt (E.F x a os) fun r=>amx E.ws r.2 (.ret (L0 E.rs r.1))
 |false=> .fail
def ajU(X:Cx)(new:Nat)(f:FuncId)(as:List A):HM:=
 match cW f X.owns with
 |some E=>match cW f X.ap9 with
  |none=>ajT (!E.e.flat) E.ps as fun x=> .opt (E.F x) fun l=> .set new .tok (.ret (.v false [.sl E.e l (.own new)]))
  |some c=>match E.e.flat&&Nat.blt 0 E.e.size with
   |true=>ajT false E.ps as fun x=> .opt (E.F x) fun l=> .get c fun
    |.gh true K H=>match oI K (.bf (.data E.e)) H with
     |some H=> .opt (gad (α:=E.e.den) H l) fun r=> .set c (.gh true (.bf (.data E.e)) r.1) (.ret (.v false [.gs c r.2]))
     |none=> .fail
    |_=> .fail
   |false=> .fail
 |none=>match cW f X.calls with
  |some E=>ajT (!(E.rs.all Ty.flat)) E.ps as fun x=> .opt (E.F x) fun r=> .ret (aqb E.rs r)
  |none=>match cW f X.stats with
   |some E=>aux E as
   |none=> .fail
def aqd:Value→A
 |.bool b=> .v false [.bool b]
 |.int k n=> .v false [.int k n]
 |.string s=> .v false [.str s.data.toList]
 |.slice none 0 0=> .v false [.nils]
 |.nilFunc=> .v false [.nilfn]
 |.pointer none=> .v false [.nilp]
 |_=>aJ
def Di(env:Env):Operand→A
 |.tmp t=>look aJ t env
 |.const v=>aqd v
 |.global _=>aJ
 |.func f=> .v false [.clos f []]
def BC(k:IntKind)(n:Int):HM:=.ret (.v false [.int k n])
def yv(b:Bool):HM:=.ret (.v false [.bool b])
def oF(c:C):HM:=.ret (.v false [c])
def P9:List UInt8→List UInt8→Bool:=Op.bytesLess
def Yj(op:BinOp)(x y:A):HM:=
 match x,y with
 |.v false [.int k a],.v false [.int c b]=>
  match op with
  |.shl=> .opt (qc k a b) (BC k)
  |.shr=> .opt (ui k a b) (BC k)
  |op=>match decEq k c with
   |.isFalse _=> .fail
   |.isTrue _=>match op with
    |.add=>BC k (k.wrap (a+b))
    |.sub=>BC k (k.wrap (a -b))
    |.mul=>BC k (k.wrap (a*b))
    |.quo=> .opt (qt k a b) (BC k)
    |.rem=> .opt (rm a b) (BC k)
    |.eql=>yv (a==b)
    |.neq=>yv (a !=b)
    |.lss=>yv (decide (a<b))
    |.leq=>yv (decide (a≤b))
    |.gtr=>yv (decide (a>b))
    |.geq=>yv (decide (a≥b))
    |op=>BC k (r9 op k a b)
 |.v false [.str a],.v false [.str b]=>
  match op with
  |.add=> .opt (cat a b) fun s=>oF (.str s)
  |.eql=>yv (a==b)
  |.neq=>yv (!(a==b))
  |.lss=>yv (P9 a b)
  |.leq=>yv (P9 a b||a==b)
  |.gtr=>yv (!(P9 a b||a==b))
  |.geq=>yv (!(P9 a b))
  |_=> .fail
 |.v false [.bool a],.v false [.bool b]=>
  match op with
  |.eql=>yv (a==b)
  |.neq=>yv (!(a==b))
  |_=> .fail
 |_,_=> .fail
def unA(op:UnOp)(x:A):HM:=
 match op,x with
 |.neg,.v false [.int k a]=>BC k (k.wrap (0 -a))
 |.xor,.v false [.int k a]=>BC k (r9 .xor k (if k.signed then -1 else k.max) a)
 |.not,.v false [.bool b]=>yv (!b)
 |_,_=> .fail
def eqC(τ:Ty):C→C→Option Bool
 |.int k a,.int c b=>match τ with
  |.int q=>match decEq k q,decEq c q with
   |.isTrue _,.isTrue _=>some (a==b)
   |_,_=>none
  |_=>none
 |.bool a,.bool b=>match τ with
  |.bool=>some (a==b)
  |_=>none
 |.str a,.str b=>match τ with
  |.str=>some (a==b)
  |_=>none
 |_,_=>none
def asK:List Ty→List C→List C→Option Bool
 |[],[],[]=>some true
 |τ::τs,c::e,d::g=>match eqC τ c d,asK τs e g with
  |some a,some b=>some (a&&b)
  |_,_=>none
 |_,_,_=>none
def eqA(op:BinOp)(d:TD)(cs:List C)(y:A):HM:=
 match d.eq,y with
 |τ::τs,.v true a=>match asK (τ::τs) cs a with
  |some b=>match op with
   |.eql=>yv b
   |.neq=>yv (!b)
   |_=> .fail
  |none=> .fail
 |_,_=> .fail
def auU(op:BinOp)(d:TD)(t:Tok)(y:A):HM:=
 match d.desc,y with
 |.slice _,.v false [.nils]=>match t,op with
  |.nn,.eql=>yv false
  |.nn,.neq=>yv true
  |.nl,.eql=>yv true
  |.nl,.neq=>yv false
  |_,_=> .fail
 |_,_=> .fail
def Ug(sl:Bool)(op:BinOp)(d:TD)(nil:Bool)(y:A):HM:=
 match sl,d.desc,y with
 |true,.slice _,.v false [.nils]=>go
 |false,.ptr _,.v false [.nilp]=>go
 |_,_,_=> .fail
 where go:HM:=match op with
 |.eql=>yv nil
 |.neq=>yv (!nil)
 |_=> .fail
def C.known:C→Bool
 |.undef=>false
 |_=>true
def wA(cs:List C)(off:Nat)(new:List C):List C:=cs.take off++new++cs.drop (off+new.length)
def Qa(a:Nat→Option (Nat×Nat)):List C→List (Nat×A)→Option (List C)
 |cs,[]=>some cs
 |cs,(i,.v _ b)::r=>match a i with
  |some (c,size)=>match bT b.length size&&Nat.ble (c+size) cs.length&&b.all C.known with
   |true=>Qa a (wA cs c b) r
   |false=>none
  |none=>none
 |_,(_,.jN _)::_=>none
def uH{α β:Type}(f:α→Option β):List α→Option (List β)
 |[]=>some []
 |a::r=>match f a with
  |some b=>match uH f r with
   |some c=>some (b::c)
   |none=>none
  |none=>none
def abj(τ:Ty):Nat→List (Nat×A)→(List τ.den→HM)→HM
 |_,[],k=>k []
 |n,(i,.v g a)::r,k=>match bT i n&&(g==τ.isAgg)&&a.all C.known with
  |true=>jv true a fun a=>match τ.dC a with
   |some x=>abj τ (n+1) r fun l=>k (x::l)
   |none=> .fail
  |false=> .fail
 |_,(_,.jN _)::_,_=> .fail
def sub(off size:Nat)(cs:List C):Option (List C):=
 match Nat.ble (off+size) cs.length with
 |true=>some ((cs.drop off).take size)
 |false=>none
def partOf(agg:Bool)(size off:Nat)(cs:List C)(k:A→HM):HM:=
 match sub off size cs with
 |some cs=>match agg,cs with
  |true,cs=>k (.v true cs)
  |false,[c]=>k (.v false [c])
  |_,_=> .fail
 |none=> .fail
def abk(k:IntKind):List C→Option (List Int)
 |[]=>some []
 |.int a n::r=>match decEq k a with
  |.isTrue _=>match abk k r with
   |some l=>some (n::l)
   |none=>none
  |.isFalse _=>none
 |_=>none
def abl(d:TD)(a:A):HM:=
 match a with
 |.v false [.ptr o b]=> .get o fun
  |.cells g=>partOf d.agg d.size b g .ret
  |_=> .fail
 |.v false [.Ja τ x c]=>partOf d.agg d.size c (τ.cells x) .ret
 |.v false [.aeY o i c]=> .get o fun
  |.row e l=> .opt (l[i]?) fun x=>partOf d.agg d.size c (e.cells x) .ret
  |.xq e l=> .opt (l[i]?) fun x=>partOf d.agg d.size c (e.cells x) .ret
  |_=> .fail
 |.v false [.ap8 o b len i]=>match d.desc with
  |.int k=> .get o fun
   |.cells g=>match sub b len g with
    |some g=>match abk k g with
     |some l=> .opt (l[i]?) (BC k)
     |none=> .fail
    |none=> .fail
   |_=> .fail
  |_=> .fail
 |.v false [.gp c b x]=>atM (.gp c b x) fun g=>partOf d.agg d.size 0 g .ret
 |.v false [.ge c id h b]=>atM (.ge c id h b) fun g=>partOf d.agg d.size 0 g .ret
 |_=> .fail
def amy(d:TD)(a x:A):HM:=
 match a,x with
 |.v false [.ptr o h],.v g b=>match bT b.length d.size&&b.all C.known&&(g==d.agg)with
  |true=> .get o fun
   |.cells j=>match Nat.ble (h+b.length) j.length with
    |true=> .set o (.cells (wA j h b)) (.ret BH)
    |false=> .fail
   |_=> .fail
  |false=> .fail
 |.v false [.aeY o i c],.v g b=>match bT b.length d.size&&b.all C.known&&(g==d.agg)with
  |true=>jv true b fun b=> .get o fun
   |.row e l=> .opt (l[i]?) fun x=>match Nat.ble (c+b.length) e.size with
    |true=>match e.dC (wA (e.cells x) c b)with
     |some y=> .set o (.row e (l.set i y)) (.ret BH)
     |none=> .fail
    |false=> .fail
   |_=> .fail
  |false=> .fail
 |.v false [.gp c h x],.v g b=>match bT b.length d.size&&b.all C.known&&(g==d.agg)with
  |true=>jv true b fun b=> .opt x fun id=> .get c fun
   |.gh true (.st V) H=> .opt (fA (α:=V.den) H id) fun y=>match Nat.ble (h+b.length) V.size&&V.ok with
    |true=>match V.dC (wA (V.cells y) h b)with
     |some z=> .opt (uG (α:=V.den) H id z) fun H=> .set c (.gh true (.st V) H) (.ret BH)
     |none=> .fail
    |false=> .fail
   |_=> .fail
  |false=> .fail
 |.v false [.ge c id k h],.v g b=>match bT b.length d.size&&b.all C.known&&(g==d.agg)with
  |true=>jv true b fun b=> .get c fun
   |.gh true (.bf V) H=> .opt (fA (α:=List V.den) H id) fun l=> .opt (nth (α:=V.den) l k) fun y=>match Nat.ble (h+b.length) V.size&&V.ok with
    |true=>match V.dC (wA (V.cells y) h b)with
     |some z=> .opt (uG (α:=List V.den) H id (l.set k z)) fun H=> .set c (.gh true (.bf V) H) (.ret BH)
     |none=> .fail
    |false=> .fail
   |_=> .fail
  |false=> .fail
 |_,_=> .fail
def ahK:Operand→Operand→Bool
 |.tmp a,.tmp b=>bT a b
 |_,_=>false
def auV(x:A):HM:=
 match x with
 |.v false [.sl _ l _]=>BC .i64 l.length
 |.v false [.nils]=>BC .i64 0
 |.v false [.gs _ x]=>BC .i64 (gsN x)
 |.v false [.vec o]=> .get o fun
  |.row _ l=>BC .i64 l.length
  |.xq _ l=>BC .i64 l.length
  |_=> .fail
 |_=> .fail
def aqe(mark:Bool)(e:Ty)(x:A)(k:List e.den→HM):HM:=
 match x with
 |.v false [.gs c y]=>match mark with
  |false=>P7 e c y k
  |true=> .fail
 |.v false [c]=>pt mark c fun
  |.sl a m _=>match rt a e m with
   |some m=>k m
   |none=> .fail
  |.nils=>k []
  |_=> .fail
 |_=> .fail
def ahL(new:Nat)(e:Ty)(bytes:Nat)(s x:A):HM:=
 aqe false e x fun m=>
  match s with
  |.v false [.nils]=> .opt (app bytes [] m) fun l=> .set new .tok (oF (.sl e l (.own new)))
  |.v false [.sl a l (.own o)]=>match rt a e l with
   |some l=> .get o fun
    |.tok=> .opt (app bytes l m) fun l=> .set o .dead (.set new .tok (oF (.sl e l (.own new))))
    |_=> .fail
   |none=> .fail
  |.v false [.vec o]=> .get o fun
   |.row a l=>match rt a e l with
    |some l=> .opt (app bytes l m) fun l=> .set o .dead (.set new .tok (oF (.sl e l (.own new))))
    |none=> .fail
   |_=> .fail
  |_=> .fail
def auW(V:VT)(x:A)(k:List V.den→HM):HM:=
 match V,x with
 |.data e,x=>aqe false e x k
 |V,.v false [.gs c y]=> .get c fun
  |.gh _ K H=>match oI K (.bf V) H with
   |some H=> .opt (rX H y) k
   |none=> .fail
  |_=> .fail
 |V,.v false [.nils]=>k []
 |_,_=> .fail
def ahM(V:VT)(c bytes:Nat)(y:Option (Nat×Nat×Nat))(x:A):HM:=
 auW V x fun m=> .get c fun
  |.gh true K H=>match oI K (.bf V) H with
   |some H=> .opt (gsA bytes H y m) fun r=> .set c (.gh true (.bf V) r.1) (oF (.gs c r.2))
   |none=> .fail
  |_=> .fail
def auX(X:Cx)(t:TypeId)(s:A):Option (Nat×Option (Nat×Nat×Nat)):=
 match s with
 |.v false [.gs c y]=>some (c,y)
 |.v false [.nils]=>match cW t X.aks with
  |some c=>some (c,none)
  |none=>none
 |_=>none
def Jc(f:Int→Int→Int)(k:IntKind):Int→List A→HM
 |n,[]=>BC k n
 |n,.v false [.int a m]::r=>match decEq k a with
  |.isTrue _=>Jc f k (f n m) r
  |.isFalse _=> .fail
 |_,_=> .fail
def abm(X:Cx)(new:Nat)(b:Builtin)(ts:List TypeId)(as:List A):HM:=
 match b,ts,as with
 |.len,[t],[x]=>match cW t X.tt with
  |some d=>match d.desc,x with
   |.slice _,x=>auV x
   |.str,.v false [.str s]=>BC .i64 s.length
   |.array n _,_=>BC .i64 n
   |_,_=> .fail
  |none=> .fail
 |.append,[t,u],[s,x]=>match cW t X.tt,cW u X.tt with
  |some d,some g=>match d.desc,g.desc with
   |.slice e,.slice _=>match cW e X.tt with
    |some a=>match auX X t s with
     |some (c,y)=>match cW e X.Ue,Nat.blt 0 a.size with
       |some V,true=>ahM V c a.bytes y x
       |_,_=> .fail
     |none=>match a.ty with
      |some τ=>match Nat.blt 0 a.size&&a.zero with
        |true=>ahL new τ a.bytes s x
        |false=> .fail
      |none=> .fail
    |none=> .fail
   |_,_=> .fail
  |_,_=> .fail
 |.max,_,.v false [.int k n]::r=>Jc imax k n r
 |.min,_,.v false [.int k n]::r=>Jc xr k n r
 |_,_,_=> .fail
def bnd(x:Option A)(d:Int):Option Int:=
 match x with
 |none=>some d
 |some (.v false [.int _ n])=>some n
 |_=>none
def OL(X:Cx)(t:TypeId)(n:Nat):Bool:=
 match cW t X.tt with
 |some d=>bT n d.size&&Nat.blt 0 n
 |none=>false
def aof(V a:VT):Bool:=match decEq V a with
 |.isTrue _=>true
 |.isFalse _=>false
def amz(X:Cx)(d:TD)(x:A)(lo hi mx:Option A):HM:=
 match d.desc,mx with
 |.str,none=>match x with
  |.v false [.str s]=>match bnd lo 0,bnd hi s.length with
   |some a,some b=> .opt (slc s a b) fun s=>oF (.str s)
   |_,_=> .fail
  |_=> .fail
 |.slice g,none=>match x with
  |.v false [.gs c y]=>match cW g X.Ue,bnd lo 0,bnd hi (gsN y)with
   |some h,some a,some b=> .get c fun
    |.gh _ (.bf V) _=>match aof V h,Nat.blt 0 V.size with
     |true,true=> .opt (gsS y a b) fun z=>oF (.gs c z)
     |_,_=> .fail
    |_=> .fail
   |_,_,_=> .fail
  |.v false [c]=>pt true c fun
   |.sl e l _=>match OL X g e.size with
    |true=>match bnd lo 0,bnd hi l.length with
     |some a,some b=> .opt (slc l a b) fun l=>oF (.sl e l .no)
     |_,_=> .fail
    |false=> .fail
   |_=> .fail
  |_=> .fail
 |.slice g,some m=>match x with
  |.v false [c]=>pt true c fun
   |.sl e l _=>match OL X g e.size with
    |true=>match bnd lo 0,(match hi with |some b=>bnd (some b) 0 |none=>none),bnd (some m) 0 with
     |some a,some b,some m=> .opt (slc l b m) fun _=> .opt (slc l a b) fun l=>oF (.sl e l .no)
     |_,_,_=> .fail
    |false=> .fail
   |_=> .fail
  |_=> .fail
 |_,_=> .fail
def Qb(d:TD)(j:Nat):Option (TypeId×Nat):=
 match d.desc with
 |.struct a=>a[j]?
 |_=>none
def ahN(a:A)(n:Nat):HM:=
 match a with
 |.v false [.ptr o b]=> .get o fun
  |.dead=> .fail
  |_=>oF (.ptr o (b+n))
 |.v false [.Ja τ x c]=>oF (.Ja τ x (c+n))
 |.v false [.aeY o i c]=> .get o fun
  |.row _ _=>oF (.aeY o i (c+n))
  |.xq _ _=>oF (.aeY o i (c+n))
  |_=> .fail
 |.v false [.gp c b x]=> .opt x fun id=>oF (.gp c (b+n) (some id))
 |.v false [.ge c id d b]=>oF (.ge c id d (b+n))
 |_=> .fail
def OM(X:Cx)(d:TD)(x j:A):HM:=
 match j with
 |.v false [.int _ i]=>
  match d.desc,x with
  |.slice a,.v false [.sl e l _]=>match OL X a e.size with
   |true=> .opt (idx l i) fun y=>oF (.Ja e y 0)
   |false=> .fail
  |.slice a,.v false [.gs c y]=> .get c fun
   |.gh _ (.bf V) _=>match cW a X.Ue with
    |some g=>match aof V g,Nat.blt 0 V.size with
     |true,true=> .opt y fun p=> .opt (ck i p.2.2) fun n=>oF (.ge c p.1 (p.2.1+n) 0)
     |_,_=> .fail
    |none=> .fail
   |_=> .fail
  |.slice a,.v false [.vec o]=> .get o fun
   |.row e l=>match OL X a e.size with
    |true=> .opt (ck i l.length) fun n=>oF (.aeY o n 0)
    |false=> .fail
   |.xq e l=>match OL X a e.size with
    |true=> .opt (ck i l.length) fun n=>oF (.aeY o n 0)
    |false=> .fail
   |_=> .fail
  |.array len e,.v false [.ptr o b]=>match cW e X.tt with
   |some h=>match bT h.size 1&&Nat.blt 1 len with
    |true=> .get o fun
     |.cells _=> .opt (ck i len) fun n=>oF (.ap8 o b len n)
     |_=> .fail
    |false=> .fail
   |none=> .fail
  |_,_=> .fail
 |_=> .fail
def aqg(d:TD)(x a:A):HM:=
 match d.desc,x,a with
 |.str,.v false [.str s],.v false [.int _ i]=> .opt (FQ s i) (BC .u8)
 |_,_,_=> .fail
def abn(x:A)(j:Nat):HM:=
 match x with
 |.jN ps=>match ps[j]? with
  |some (g,a)=> .ret (.v g a)
  |none=> .fail
 |_=> .fail
def ahO(cap:List A):Option (List Nat):=
 uH (fun |.v false [.ptr o 0]=>some o |_=>none) cap
def kj(X:Cx)(t:TypeId)(k:TD→HM):HM:=
 match cW t X.tt with
 |some d=>k d
 |none=> .fail
def ON(d:TD)(k:Ty→HM):HM:=
 match d.ty with
 |some τ=>k τ
 |none=> .fail
def aog(X:Cx)(tk:TypeId):Option Ty:=
 match cW tk X.tt with
 |some d=>match d.desc,d.ty with
  |.int k,some (.int q)=>match decEq k q with
   |.isTrue _=>some (.int q)
   |.isFalse _=>none
  |.str,some .str=>some .str
  |.array n e,some τ=>match cW e X.tt with
   |some a=>match a.desc with
    |.int k=>match bT a.size 1&&bT τ.size n&&τ.isAgg&&τ.Uf k with
     |true=>some τ
     |false=>none
    |_=>none
   |none=>none
  |_,_=>none
 |none=>none
def Jd(X:Cx)(tk a:TypeId):Option (Ty×Ty):=
 match aog X tk,cW a X.tt with
 |some k,some d=>match d.zero,d.ty with
  |true,some v=>match v.isKey with
   |true=>some (k,v)
   |false=>none
  |_,_=>none
 |_,_=>none
def FS(k v a b:Ty)(l:List (k.den×v.den)):Option (List (a.den×b.den)):=
 match decEq k a,decEq v b with
 |.isTrue h,.isTrue c=>some (h▸c▸l)
 |_,_=>none
def ahP(k v:Ty)(x b:A)(ok:Bool):HM:=
 match x,b with
 |.v false [.mp o],.v g a=>match g==k.isAgg,k.dC a with
  |true,some y=> .get o fun
   |.map c d l=>match FS c d k v l with
    |some l=>match ok with
     |true=> .ret (.jN [(v.isAgg,v.cells ((IY k.Jb l y).getD v.zero)),(false,[.bool (IY k.Jb l y).isSome])])
     |false=> .ret (.v v.isAgg (v.cells ((IY k.Jb l y).getD v.zero)))
    |none=> .fail
   |_=> .fail
  |_,_=> .fail
 |_,_=> .fail
def ahQ(k v:Ty)(x e a:A):HM:=
 match x,e,a with
 |.v false [.mp o],.v g b,.v d c=>match g==k.isAgg&&d==v.isAgg,k.dC b,v.dC c with
  |true,some y,some z=> .get o fun
   |.map h i l=>match FS h i k v l with
    |some l=> .set o (.map k v (OJ k.Jb l y z)) (.ret BH)
    |none=> .fail
   |_=> .fail
  |_,_,_=> .fail
 |_,_,_=> .fail
def vA:A→HM
 |.v g a=> .ret (.v g a)
 |.jN ps=> .ret (.jN ps)
theorem aoh(a:A):vA a= .ret a:=by cases a<;>rfl
def aop(X:Cx)(new:Nat)(ρ:Operand→A)(o:Op):HM:=
 match o with
 |.move x |.assign x=>vA (ρ x)
 |.pick c a b=>match ρ c with
   |.v false [.bool t]=> .br t (vA (ρ a)) (vA (ρ b))
   |_=> .fail
 |.alloc t=>kj X t fun d=>match cW t X.mks,cW t X.Ue with
  |some c,some V=> .get c fun
   |.gh true K H=>match oI K (.st V) H with
     |some H=> .set c (.gh true (.st V) (eE (α:=V.den) H V.zero)) (oF (.gp c 0 (some H.length)))
     |none=> .fail
   |_=> .fail
  |some _,none=> .fail
  |none,_=>match d.zero with
   |true=>ON d fun τ=> .set new (.cells τ.mU) (oF (.ptr new 0))
   |false=> .fail
 |.box t x=>kj X t fun d=>match ρ x with
   |.v g h=>match bT h.length d.size&&h.all C.known&&(g==d.agg)with
    |true=>match cW t X.mks,cW t X.Ue with
     |some c,some V=>jv true h fun h=> .get c fun
      |.gh true K H=>match oI K (.st V) H,V.dC h,V.ok with
       |some H,some z,true=> .set c (.gh true (.st V) (eE (α:=V.den) H z)) (oF (.gp c 0 (some H.length)))
       |_,_,_=> .fail
      |_=> .fail
     |some _,none=> .fail
     |none,_=> .set new (.cells h) (oF (.ptr new 0))
    |false=> .fail
   |_=> .fail
 |.build t parts=>kj X t fun d=>match d.desc,d.zero with
   |.struct F,false=>match cW t X.Ue with
     |some V=>match uH (fun f=>match cW f.1 X.tt with |some q=>some (f.2,q.size)|none=>none) F with
      |some places=>match Qa (fun i=>places[i]?) V.mU (parts.toList.map fun(i,x)=>(i,ρ x))with
       |some h=> .ret (.v true h)
       |none=> .fail
      |none=> .fail
     |none=> .fail
   |.struct F,true=>ON d fun τ=>
     match uH (fun f=>match cW f.1 X.tt with |some q=>some (f.2,q.size)|none=>none) F with
     |some places=>match Qa (fun i=>places[i]?) τ.mU (parts.toList.map fun(i,x)=>(i,ρ x))with
      |some h=> .ret (.v true h)
      |none=> .fail
     |none=> .fail
   |.array n e,true=>ON d fun τ=>kj X e fun p=>
     match Qa (fun i=>match Nat.blt i n with |true=>some (i*p.size,p.size)|false=>none) τ.mU (parts.toList.map fun(i,x)=>(i,ρ x))with
     |some h=> .ret (.v true h)
     |none=> .fail
   |_,_=> .fail
 |.buildSlice t len parts=>kj X t fun d=>match d.desc with
   |.slice e=>kj X e fun p=>match cW t X.aks,len,parts.toList with
    |some u,0,[]=>match cW e X.Ue with
     |some V=> .get u fun
      |.gh true K H=>match oI K (.bf V) H with
       |some H=> .set u (.gh true (.bf V) (eE (α:=List V.den) H [])) (oF (.gs u (some (H.length,0,0))))
       |none=> .fail
      |_=> .fail
     |none=> .fail
    |_,_,_=>ON p fun τ=>match bT parts.size len&&Nat.ble (len*p.size) 16777216&&Nat.blt 0 p.size&&(len==0||p.zero)with
     |true=>abj τ 0 (parts.toList.map fun(i,x)=>(i,ρ x)) fun l=> .set new .tok (oF (.sl τ l (.own new)))
     |false=> .fail
   |_=> .fail
 |.load t a=>kj X t fun d=>abl d (ρ a)
 |.store t a x=>kj X t fun d=>amy d (ρ a) (ρ x)
 |.nilCheck x=>ahN (ρ x) 0
 |.binOp r t x y _=>match ρ x with
   |.v false [.bool b]=>kj X t fun d=>match d.desc with
     |.bool=>Yj r (.v false [.bool b]) (ρ y)
     |_=> .fail
   |.v true h=>kj X t fun d=>eqA r d h (ρ y)
   |.v false [.sl _ _ tk]=>kj X t fun d=>auU r d tk (ρ y)
   |.v false [.gp _ _ z]=>kj X t fun d=>Ug false r d z.isNone (ρ y)
   |.v false [.gs _ z]=>kj X t fun d=>Ug true r d z.isNone (ρ y)
   |a=>Yj r a (ρ y)
 |.unOp r _ x=>unA r (ρ x)
 |.convert src E x=>kj X src fun I=>kj X E fun d=>match d.desc,ρ x with
   |.int k,.v false [.int _ n]=>BC k (k.wrap n)
   |.str,.v false [c]=>match I.desc with
     |.slice e=>kj X e fun p=>match p.desc with
      |.int .u8=>pt false c fun
       |.sl (.int .u8) l _=>oF (.str (bytesOf l))
       |.nils=>oF (.str [])
       |_=> .fail
      |_=> .fail
     |_=> .fail
   |_,_=> .fail
 |.makeFunc (.func f) first captured=>match first.size,ahO (captured.toList.map ρ)with
   |0,some w=>oF (.clos f w)
   |_,_=> .fail
 |.makeSlice t l c=>kj X t fun d=>match d.desc with
   |.slice e=>kj X e fun p=>match cW t X.mks,cW e X.Ue with
    |some u,some V=>match ahK l c,ρ l,Nat.blt 0 V.size with
     |true,.v false [.int _ n],true=> .get u fun
      |.gh true K H=>match oI K (.bf V) H with
       |some H=> .opt (Bx p.bytes n) fun n=> .set u (.gh true (.bf V) (eE (α:=List V.den) H (ao n V.zero))) (oF (.gs u (some (H.length,0,n))))
       |none=> .fail
      |_=> .fail
     |_,_,_=> .fail
    |some _,none=> .fail
    |none,_=>match p.zero&&Nat.blt 0 p.size with
     |true=>ON p fun τ=>match ahK l c,ρ l,ρ c with
      |true,.v false [.int _ n],_=> .opt (Bx p.bytes n) fun n=> .set new (.row τ (ao n τ.zero)) (oF (.vec new))
      |false,.v false [.int _ 0],.v false [.int _ n]=> .opt (Bx p.bytes n) fun _=> .set new .tok (oF (.sl τ [] (.own new)))
      |_,_,_=> .fail
     |false=> .fail
   |_=> .fail
 |.slice t x L J mx=>kj X t fun d=>amz X d (ρ x) (L.map ρ) (J.map ρ) (mx.map ρ)
 |.fieldAddr s x j=>kj X s fun d=>match Qb d j with
   |some f=>kj X f.1 fun q=>match Nat.blt 0 q.size with
     |true=>ahN (ρ x) f.2
     |false=> .fail
   |none=> .fail
 |.field s x j=>kj X s fun d=>match Qb d j with
   |some f=>kj X f.1 fun q=>match ρ x with
     |.v true h=>partOf q.agg q.size f.2 h .ret
     |_=> .fail
   |none=> .fail
 |.indexAddr t x B=>kj X t fun d=>OM X d (ρ x) (ρ B)
 |.index t x B=>kj X t fun d=>aqg d (ρ x) (ρ B)
 |.makeMap t none=>kj X t fun d=>match d.desc with
   |.map tk D=>match Jd X tk D with
     |some (k,v)=> .set new (.map k v []) (oF (.mp new))
     |none=> .fail
   |_=> .fail
 |.lookup t x B ok=>kj X t fun d=>match d.desc with
   |.map tk D=>match Jd X tk D with
     |some (k,v)=>ahP k v (ρ x) (ρ B) ok
     |none=> .fail
   |_=> .fail
 |.mapUpdate t m B x=>kj X t fun d=>match d.desc with
   |.map tk D=>match Jd X tk D with
     |some (k,v)=>ahQ k v (ρ m) (ρ B) (ρ x)
     |none=> .fail
   |_=> .fail
 |.extract x j=>abn (ρ x) j
 |.call c=>match c.callee with
   |.builtin b=>abm X new b c.argTypes.toList (c.args.toList.map ρ)
   |.value f=>match ρ f with
     |.v false [.clos f w]=>ajU X new f (c.args.toList.map ρ++auw w)
     |.v false [.Eg f a x]=>match amv a with
      |true=>ajU X new f (c.args.toList.map ρ++aqc a x)
      |false=> .fail
     |_=> .fail
   |.invoke _ _=> .fail
 |_=> .fail
structure St where
 env:Env
 next:Nat
 heap:bm
def OO(env:Env)(b:Option Tmp)(a:A):Env:=
 match b with
 |some d=>(d,a)::env
 |none=>env
def agt(X:Cx)(a:Option Tmp):Bool:=
 match a with
 |some d=>Nat.blt d X.nt
 |none=>true
def opK{R:Type}(X:Cx)(new:Nat)(o:Oper)(s:St)(K:St→Log→Option R):Option R:=
 (aop X new (Di s.env) o.op).run s.next s.heap [] fun a h L=>K { s with env:=OO s.env o.dst a,heap:=h } L
def abo(a:List Oper)(j:Nat):Option Tmp:=
 match a[j]? with
 |some o=>o.dst
 |none=>none
def ae0{R:Type}(X:Cx)(a:List Oper)(K:St→List Log→Option R):Nat→List Oper→St→List Log→Option R
 |_,[],s,c=>K s c
 |new,o::r,s,c=>match agt X o.dst with
  |false=>none
  |true=>match o.guard with
   |none=>opK X new o s fun s L=>ae0 X a K (new+1) r s (L::c)
   |some (j,d)=>match abo a j with
    |some g=>match look aJ g s.env with
     |.v false [.bool b]=>match d with
      |true=>av b (opK X new o { s with env:=(g,.v false [.bool true])::s.env } fun s L=>ae0 X a K (new+1) r s (L::c))
       (ae0 X a K (new+1) r { s with env:=OO ((g,.v false [.bool false])::s.env) o.dst BH } ([]::c))
      |false=>av b (ae0 X a K (new+1) r { s with env:=OO ((g,.v false [.bool true])::s.env) o.dst BH } ([]::c))
       (opK X new o { s with env:=(g,.v false [.bool false])::s.env } fun s L=>ae0 X a K (new+1) r s (L::c))
     |.jN []=>ae0 X a K (new+1) r { s with env:=OO s.env o.dst BH } ([]::c)
     |_=>none
    |none=>none
def L5(a b:Log):Bool:=a.all fun(o,w)=>b.all fun(p,c)=> !(bT o p&&(w||c))
def uses(a:List Oper)(o:Oper):List Tmp:=
 (o.op.operands.toList.filterMap fun |.tmp t=>some t |_=>none)++
 (match o.guard with
  |some (g,_)=>(abo a g).toList
  |none=>[])
def rG(a:List Oper)(x y:Oper):Bool:=
 (match x.dst with
  |some d=>(uses a y).all (fun t=> !bT t d)&&(match y.dst with |some e=> !bT e d |none=>true)
  |none=>true)&&
 (match y.dst with
  |some d=>(uses a x).all fun t=> !bT t d
  |none=>true)
def amA(c:Array Oper)(a:List Log):Bool:=
 let b:=Region.before c
 let l:=c.toList
 (List.range c.size).all fun j=>match l[j]?,a[j]? with
  |some y,some g=>y.after.all (fun e=> !Region.binds .any e||Nat.blt e.on j)&&
   (List.range j).all fun i=>(b.getD j 0).testBit i||(match l[i]?,a[i]? with
    |some x,some d=>rG l x y&&L5 d g
    |_,_=>false)
  |_,_=>false
def FT{R:Type}(X:Cx)(b:Array Oper)(a:Bool)(K:St→Option R)(s:St):Option R:=
 let l:=b.toList
 ae0 X l (fun s c=>match a with
  |false=>K s
  |true=>match amA b c.reverse with
   |true=>K s
   |false=>none) s.next l { s with next:=s.next+l.length } []
def clean(a:List Log):Bool:=a.all fun L=>L.all fun q=> !q.2
def Qc{R:Type}(X:Cx)(b:Array Oper)(a:Bool)(K:St→Option R)(s:St):Option R:=
 let l:=b.toList
 ae0 X l (fun s c=>match clean c with
  |false=>none
  |true=>match a with
   |false=>K s
   |true=>match amA b c.reverse with
    |true=>K s
    |false=>none) s.next l { s with next:=s.next+l.length } []
def aoi(env:Env)(t:Nat)(τ:Ty):Option τ.den:=
 match look aJ t env with
 |.v g a=>match g==τ.isAgg&&τ.cE with
  |true=>τ.dC a
  |false=>none
 |.jN _=>none
def abp(env:Env):(l:List (Nat×Ty))→Option (jN (l.map Prod.snd)).den
 |[]=>some ()
 |[(t,τ)]=>aoi env t τ
 |(t,τ)::q::r=>match aoi env t τ with
  |some x=>match abp env (q::r)with
   |some y=>some (x,y)
   |none=>none
  |none=>none
def abq:(l:List (Nat×Ty))→(jN (l.map Prod.snd)).den→Env→Env
 |[],_,env=>env
 |[(t,τ)],x,env=>(t,Yi τ x)::env
 |(t,τ)::q::r,x,env=>(t,Yi τ x.1)::abq (q::r) x.2 env
def Qd(a:Array Oper):List Tmp:=a.toList.filterMap fun o=>o.dst
def sa:Code→List Tmp
 |.seq a b=>sa a++sa b
 |.cond _ a b=>sa a++sa b
 |.region _ c _=>Qd c
 |_=>[]
def Je(l:List Tmp):Env:=l.map fun d=>(d,aJ)
def WT(X:Cx):Code→{R:Type}→(St→Option R)→St→Option R
 |.skip,_,K,s=>K s
 |.seq a b,_,K,s=>WT X a (WT X b K) s
 |.cond c a b,_,K,s=>match Di s.env c with
  |.v false [.bool t]=>av t (WT X a K s) (WT X b K s)
  |_=>none
 |.region _ e d,_,K,s=>Qc X e d K s
 |_,_,_,_=>none
def aoj(l:List (Nat×Ty))(n:Nat)(s:St):Option (jN (l.map Prod.snd)).den:=
 match Nat.ble s.next n with
 |true=>abp s.env l
 |false=>none
def CK.den:CK→Type
 |.data τ=>τ.den
 |.own e=>List e.den
 |.fix _=>Unit
def Uh:List CK→Type
 |[]=>Unit
 |k::r=>k.den×Uh r
def SK.den:SK→Type
 |.data τ=>τ.den
 |.own e=>List e.den
 |.fix _=>Unit
 |.box l=>Uh l
 |.ref a=>a.den
 |.vt V=>V.den
 |.cl _ a=>a.den
def OK.den:OK→Type
 |.row e=>List e.den
 |.xq e=>List e.den
 |.cells l=>Uh l
 |.map k v=>List (k.den×v.den)
 |.gh _ K=>List (Option K.xp)
 |.obj τ=>τ.den
def abr:List (Nat×OK)→Type
 |[]=>Unit
 |k::r=>k.2.den×abr r
def Jf:List (Nat×SK)→List (Nat×OK)→Type
 |[],a=>abr a
 |k::r,a=>k.2.den×Jf r a
def NS.den(N:NS):Type:=Jf N.slots N.obs
def aok:C→C→Bool
 |.vec o,.vec p=>bT o p
 |.ptr o a,.ptr p b=>bT o p&&bT a b
 |.clos f l,.clos g m=>bT f g&&l==m
 |.nilfn,.nilfn=>true
 |.nilp,.nilp=>true
 |.mp o,.mp p=>bT o p
 |_,_=>false
def aol:A→A→Bool
 |.v false [c],.v false [d]=>aok c d
 |_,_=>false
def Ui(n:Nat):C→Bool
 |.vec o=>Nat.blt o n
 |.ptr o _=>Nat.blt o n
 |.clos _ a=>a.all fun o=>Nat.blt o n
 |.nilfn=>true
 |.nilp=>true
 |.mp o=>Nat.blt o n
 |_=>false
def ahR(n:Nat):A→Bool
 |.v false [c]=>Ui n c
 |_=>false
def ajV(e:Ty)(c:C)(h:bm):Option (List e.den×bm):=
 match c with
 |.nils=>some ([],h)
 |.sl a l (.own o)=>match look .dead o h with
  |.tok=>match rt a e l with
   |some l=>some (l,(o,.dead)::h)
   |none=>none
  |_=>none
 |_=>none
def auY(next:Nat)(k:CK)(c:C)(h:bm):Option (k.den×bm):=
 match k with
 |.data τ=>match bT τ.size 1&& !τ.isAgg&&τ.cE with
  |true=>match τ.dC [c]with
   |some x=>some (x,h)
   |none=>none
  |false=>none
 |.own e=>ajV e c h
 |.fix d=>match aok d c&&Ui next d with
  |true=>some ((),h)
  |false=>none
def WU(next:Nat):(l:List CK)→List C→bm→Option (Uh l×bm)
 |[],[],h=>some ((),h)
 |k::r,c::a,h=>match auY next k c h with
  |some (x,h)=>match WU next r a h with
   |some (y,h)=>some ((x,y),h)
   |none=>none
  |none=>none
 |_,_,_=>none
def ajW(next:Nat)(k:SK)(a:A)(h:bm):Option (k.den×bm):=
 match k,a with
 |.data τ,.v g d=>match g==τ.isAgg&&τ.cE with
  |true=>match τ.dC d with
   |some x=>some (x,h)
   |none=>none
  |false=>none
 |.own e,.v false [c]=>ajV e c h
 |.fix a,b=>match aol a b&&ahR next a with
  |true=>some ((),h)
  |false=>none
 |.box n,.v false [.ptr o j]=>match bT j 0,look .dead o h with
  |true,.cells d=>WU next n d ((o,.dead)::h)
  |_,_=>none
 |.ref a,.v false [.Ja i x c]=>match bT c 0,rZ i a x with
  |true,some x=>some (x,h)
  |_,_=>none
 |.vt V,.v g d=>match g==V.isAgg&&V.ok with
  |true=>match V.dC d with
   |some x=>some (x,h)
   |none=>none
  |false=>none
 |.cl f a,.v false [.Eg l i x]=>match bT f l,rZ i a x with
  |true,some x=>some (x,h)
  |_,_=>none
 |_,_=>none
def auZ(next:Nat)(k:OK)(x:Ob)(h:bm):Option (k.den×bm):=
 match k,x with
 |.row e,.row b l=>match rt b e l with
  |some l=>some (l,h)
  |none=>none
 |.xq e,.xq b l=>match rt b e l with
  |some l=>some (l,h)
  |none=>none
 |.cells i,.cells a=>WU next i a h
 |.map k v,.map g j l=>match FS g j k v l with
  |some l=>some (l,h)
  |none=>none
 |.gh wr K,.gh c d H=>match wr==c,oI d K H with
  |true,some H=>some (H,h)
  |_,_=>none
 |.obj τ,.cells a=>match τ.cE with
  |true=>match τ.dC a with
   |some x=>some (x,h)
   |none=>none
  |false=>none
 |_,_=>none
def ahS(next:Nat):(l:List (Nat×OK))→bm→Option (abr l×bm)
 |[],h=>some ((),h)
 |(o,k)::r,h=>match Nat.blt o next with
  |false=>none
  |true=>match auZ next k (look .dead o h) h with
   |some (x,h)=>match ahS next r h with
    |some (y,h)=>some ((x,y),h)
    |none=>none
   |none=>none
def Qe(next:Nat)(env:Env):(l:List (Nat×SK))→(a:List (Nat×OK))→bm→Option (Jf l a×bm)
 |[],a,h=>ahS next a h
 |(t,k)::r,a,h=>match ajW next k (look aJ t env) h with
  |some (x,h)=>match Qe next env r a h with
   |some (y,h)=>some ((x,y),h)
   |none=>none
  |none=>none
def dec(N:NS)(s:St):Option N.den:=
 match Nat.ble N.next s.next with
 |false=>none
 |true=>match Qe N.next s.env N.slots N.obs s.heap with
  |some (x,_)=>some x
  |none=>none
def au0(k:CK)(x:k.den)(new:Nat):List C×Nat:=
 match k,x with
 |.data τ,x=>(τ.cells x,new)
 |.own e,l=>([.sl e l (.own new)],new+1)
 |.fix c,_=>([c],new)
def Jg:(l:List CK)→Uh l→Nat→List C×Nat
 |[],_,c=>([],c)
 |k::r,x,c=>
  let a:=au0 k x.1 c
  let b:=Jg r x.2 a.2
  (a.1++b.1,b.2)
def aoX(k:SK)(x:k.den)(new:Nat):A×Nat:=
 match k,x with
 |.data τ,x=>(.v τ.isAgg (τ.cells x),new)
 |.own e,l=>(.v false [.sl e l (.own new)],new+1)
 |.fix a,_=>(a,new)
 |.box b,x=>(.v false [.ptr new 0],(Jg b x (new+1)).2)
 |.ref a,x=>(.v false [.Ja a x 0],new)
 |.vt V,x=>(Eh V x,new)
 |.cl f a,x=>(.v false [.Eg f a x],new)
def zz(k:SK)(x:k.den)(new:Nat):bm:=
 match k,x with
 |.box a,x=>[(new,.cells (Jg a x (new+1)).1)]
 |_,_=>[]
def yw(k:OK)(x:k.den)(new:Nat):Ob×Nat:=
 match k,x with
 |.row e,l=>(.row e l,new)
 |.xq e,l=>(.xq e l,new)
 |.map k v,l=>(.map k v l,new)
 |.gh wr K,H=>(.gh wr K H,new)
 |.obj τ,x=>(.cells (τ.cells x),new)
 |.cells b,x=>let a:=Jg b x new;(.cells a.1,a.2)
def zA:(l:List (Nat×OK))→abr l→Nat→bm×Nat
 |[],_,c=>([],c)
 |(o,k)::r,x,c=>
  let a:=yw k x.1 c
  let b:=zA r x.2 a.2
  ((o,a.1)::b.1,b.2)
def gG:(l:List (Nat×SK))→(c:List (Nat×OK))→Jf l c→Nat→Env×bm×Nat
 |[],c,x,d=>([],zA c x d)
 |(t,k)::r,c,x,d=>
  let a:=aoX k x.1 d
  let b:=gG r c x.2 a.2
  ((t,a.1)::b.1,zz k x.1 d++b.2.1,b.2.2)
def toks(a:Nat):Nat→bm
 |0=>[]
 |n+1=>(a+n,.tok)::toks a n
def enc(N:NS)(x:N.den):St:=
 let a:=gG N.slots N.obs x N.next
 { env:=a.1,next:=a.2.2,heap:=a.2.1++toks N.next (a.2.2 -N.next) }
def Jh:List (Ex×NS)→Type
 |[]=>Empty
 |[o]=>o.2.den
 |o::p::r=>o.2.den⊕Jh (p::r)
def ahT:Ex→Ex→Bool
 |.normal,.normal=>true
 |.ret,.ret=>true
 |.exit a,.exit b=>bT a b
 |_,_=>false
def Uj:(l:List (Ex×NS))→Ex→St→Option (Jh l)
 |[],_,_=>none
 |[o],e,s=>match ahT o.1 e with
  |true=>dec o.2 s
  |false=>none
 |o::p::r,e,s=>match ahT o.1 e with
  |true=>match dec o.2 s with
   |some x=>some (.inl x)
   |none=>none
  |false=>match Uj (p::r) e s with
   |some x=>some (.inr x)
   |none=>none
def cI{α β R:Type}(x:α⊕β)(f:α→Option R)(g:β→Option R):Option R:=
 match x with
 |.inl a=>f a
 |.inr b=>g b
def ahU{R:Type}:(l:List (Ex×NS))→Jh l→(Ex→St→Option R)→Option R
 |[],_,_=>none
 |[o],x,K=>K o.1 (enc o.2 x)
 |o::p::r,x,K=>cI x (fun x=>K o.1 (enc o.2 x)) (fun y=>ahU (p::r) y K)
def rH:Code→Nat
 |.region id _ _=>id
 |.seq a _=>rH a
 |.block _ a=>rH a
 |.loop a=>rH a
 |.scope a=>rH a
 |_=>0
def azb{R:Type}(next:St→Option R)(K:Ex→St→Option R)(e:Ex)(s:St):Option R:=
 match e with
 |.normal=>next s
 |e=>K e s
def au1{R:Type}(id:Nat)(K:Ex→St→Option R)(e:Ex)(s:St):Option R:=
 match e with
 |.exit j=>match bT j id with
  |true=>K .normal s
  |false=>K (.exit j) s
 |e=>K e s
def L6(N:NS)(e:Ex)(s:St):Option N.den:=
 match e with
 |.normal=>dec N s
 |_=>none
def agu(S:LS)(body:(Ex→St→Option (Jh S.outs))→St→Option (Jh S.outs)):Nat→S.vin.den→Option (Jh S.outs)
 |0,_=>none
 |n+1,v=>body (fun e s=>match e with
  |.normal=>match dec S.vin s with
   |some v=>agu S body n v
   |none=>none
  |e=>Uj S.outs e s) (enc S.vin v)
def au2(X:Cx):Operand→Option NS
 |.tmp t=>cW t X.gV
 |_=>none
def azc(X:Cx):Operand→Option (List (Nat×Ty)×Nat)
 |.tmp t=>cW t X.lcs
 |_=>none
def pO(X:Cx):Code→{R:Type}→(Ex→St→Option R)→St→Option R
 |.skip,_,K,s=>K .normal s
 |.seq a b,_,K,s=>pO X a (azb (pO X b K) K) s
 |.cond c a b,_,K,s=>match Di s.env c with
  |.v false [.bool t]=>match au2 X c with
   |some N=>(av t (pO X a (L6 N) s) (pO X b (L6 N) s)).bind fun v=>K .normal (enc N v)
   |none=>match azc X c with
    |some (l,k)=>(av t (WT X a (aoj l (s.next+k)) s) (WT X b (aoj l (s.next+k)) s)).bind fun v=>K .normal { env:=abq l v (Je (sa a++sa b)++s.env),next:=s.next+k,heap:=s.heap }
    |none=>av t (pO X a K s) (pO X b K s)
  |_=>none
 |.block id a,_,K,s=>pO X a (au1 id K) s
 |.loop a,_,K,s=>match cW (rH a) X.loops with
  |some S=>match dec S.vin s with
   |some v=>(agu S (fun K s=>pO X a K s) X.fuel v).bind fun g=>ahU S.outs g K
   |none=>none
  |none=>none
 |.exit id,_,K,s=>K (.exit id) s
 |.ret,_,K,s=>K .ret s
 |.region id e d,_,K,s=>match cW id X.auT with
  |some N=>(FT X e d (fun s=>dec N s) s).bind fun v=>K .normal (enc N v)
  |none=>match cW id X.ljs with
   |some l=>(Qc X e d (fun h=>abp h.env l) s).bind fun v=>K .normal { env:=abq l v (Je (Qd e)++s.env),next:=s.next+e.toList.length,heap:=s.heap }
   |none=>FT X e d (K .normal) s
 |.scope a,_,K,s=>pO X a K s
 |.label _,_,K,s=>K .normal s
 |_,_,_,_=>none
def wB(key:Nat):Code→Option Code
 |.seq a b=>match wB key a with
  |some c=>some c
  |none=>wB key b
 |.cond _ a b=>match wB key a with
  |some c=>some c
  |none=>wB key b
 |.block _ a=>wB key a
 |.loop a=>match bT (rH a) key with
  |true=>some a
  |false=>wB key a
 |.scope a=>wB key a
 |_=>none
def aw(X:Cx)(fn:Func)(S:LS)(key:Nat)(n:Nat)(v:S.vin.den):Option (Jh S.outs):=
 match fn.body with
 |none=>none
 |some c=>match wB key c with
  |some a=>agu S (fun K s=>pO X a K s) n v
  |none=>none
def mV:Nat→List A→Env
 |_,[]=>[]
 |n,a::r=>(n,a)::mV (n+1) r
def wC{R:Type}(X:Cx)(s:St):(rs:List Ty)→List ResultVar→bm→((jN rs).den→bm→Option R)→Option R
 |[],[],h,k=>k () h
 |[τ],[r],h,k=>resK τ r h k
 |τ::σ::rs,r::e,h,k=>resK τ r h fun x h=>wC X s (σ::rs) e h fun y h=>k (x,y) h
 |_,_,_,_=>none
 where
 resK (τ:Ty) (r:ResultVar) (h:bm) (k:τ.den→bm→Option R):Option R:=
  match r with
  |.tmp t=>valK τ (look aJ t s.env) h k
  |.cell a t=>match cW t X.tt with
   |some d=>(abl d (look aJ a s.env)).run s.next h [] fun a h _=>valK τ a h k
   |none=>none
 valK (τ:Ty) (a:A) (h:bm) (k:τ.den→bm→Option R):Option R:=
  match τ,a with
  |.sl σ,.v false [.gs c x]=>match look .dead c h with
   |.gh true K H=>match oI K (.bf (.data σ)) H,σ.cE with
    |some H,true=>(gsF H x).bind fun r=>k r.1 ((c,.gh true (.bf (.data σ)) r.2)::h)
    |_,_=>none
   |_=>none
  |τ,.v g b=>match g==τ.isAgg&&τ.cE with
   |true=>(jv true b fun b=> .ret (.v g b)).run s.next h [] fun a h _=>match a with
    |.v _ b=>match τ.dC b with
     |some x=>k x h
     |none=>none
    |_=>none
   |false=>none
  |_,_=>none
def sb(l:List (Nat×GK)):bm:=l.map fun k=>(k.1,.gh true k.2 [])
def aom(nc:Nat)(l:List (Nat×GK)):Bool:=P8 (l.map (·.1))&&l.all fun k=>Nat.blt k.1 nc&&k.2.ok
def ap(X:Cx)(fn:Func)(ps rs:List Ty)(x:(jN ps).den):Option (jN rs).den:=
 match fn.body,Nat.ble X.nt fn.ntmps&&aom X.nc X.loc with
 |none,_=>none
 |_,false=>none
 |some c,true=>pO X c (fun e s=>match e with
  |.exit _=>none
  |_=>wC X s rs fn.results.toList s.heap fun r _=>some r) { env:=mV 0 (FR ps x),next:=X.nc,heap:=sb X.loc }
def rJ{R:Type}(X:Cx)(s:St):(rs:List VT)→List ResultVar→bm→((BB rs).den→bm→Option R)→Option R
 |[],[],h,k=>k () h
 |[V],[r],h,k=>resK V r h k
 |V::U::rs,r::c,h,k=>resK V r h fun x h=>rJ X s (U::rs) c h fun y h=>k (x,y) h
 |_,_,_,_=>none
 where
 resK (V:VT) (r:ResultVar) (h:bm) (k:V.den→bm→Option R):Option R:=
  match r with
  |.tmp t=>valK V (look aJ t s.env) h k
  |.cell a t=>match cW t X.tt with
   |some d=>(abl d (look aJ a s.env)).run s.next h [] fun a h _=>valK V a h k
   |none=>none
 valK (V:VT) (a:A) (h:bm) (k:V.den→bm→Option R):Option R:=
  match a with
  |.v g b=>match g==V.isAgg&&V.ok with
   |true=>(jv true b fun b=> .ret (.v g b)).run s.next h [] fun a h _=>match a with
    |.v _ b=>match V.dC b with
     |some x=>k x h
     |none=>none
    |_=>none
   |false=>none
  |_=>none
def abs(h:bm):(l:List (Nat×GK))→Option (gF l)
 |[]=>some ()
 |(c,K)::r=>match look .dead c h with
  |.gh true a H=>match oI a K H,abs h r with
   |some H,some y=>some (H,y)
   |_,_=>none
  |_=>none
def dF(wr:Bool):(l:List (Nat×GK))→gF l→bm
 |[],_=>[]
 |(c,K)::r,x=>(c,.gh wr K x.1)::dF wr r x.2
def sd(X:Cx)(fn:Func)(ps rs:List VT)(ws os:List (Nat×GK))(x:(BB ps).den)(b:gF ws)(a:gF os):Option ((BB rs).den×gF ws):=
 match fn.body,Nat.ble X.nt fn.ntmps,aom X.nc (ws++os)with
 |some c,true,true=>pO X c (fun e s=>match e with
  |.exit _=>none
  |_=>rJ X s rs fn.results.toList s.heap fun r h=>match abs h ws with
   |some y=>some (r,y)
   |none=>none) { env:=mV 0 (zy ps x),next:=X.nc,heap:=dF true ws b++dF false os a }
 |_,_,_=>none
def wD(X:Cx)(fn:Func)(e:Ty)(as:List A):Option (List e.den):=
 match fn.body,Nat.ble X.nt fn.ntmps,fn.results.toList with
 |some c,true,[.tmp t]=>pO X c (fun a s=>match a with
  |.exit _=>none
  |_=>match look aJ t s.env with
   |.v false [c]=>(ajV e c s.heap).map (·.1)
   |_=>none) { env:=mV 0 as,next:=0,heap:=[] }
 |_,_,_=>none
open Go
abbrev cD:=Nat→Nat→Prop
def dR{α:Type}(R:α→List Value→Prop):List α→List Value→Prop
 |[],b=>b=[]
 |x::l,b=>∃c a,b=c++a∧R x c∧dR R l a
def At(w:World)(Z:cD)(base:Option Addr)(c:List Value):Prop:=
 c≠[]→∃b a,base=some ⟨b,a,none⟩∧∀j u,c[j]? =some u→w.cell? ⟨b,a+j,none⟩=some u∧Z b (a+j)
def PR(w:World)(Z Zp:cD):(τ:Ty)→τ.den→List Value→Prop
 |.bool,b,c=>c=[.bool b]
 |.int k,n,c=>c=[.int k n]
 |.str,s,c=>c=[.string ⟨s.toArray⟩]
 |.sl e,l,c=>∃base p i,c=[.slice base (af l) p]∧af l≤p∧dR (PR w Z Zp e) l i∧At w Z base i
 |.pair a b,x,c=>∃i q,c=i++q∧PR w Z Zp a x.1 i∧PR w Z Zp b x.2 q
 |.unit,_,c=>c=[]
 |.ref a,x,c=>∃b o i,c=[.pointer (some ⟨b,o,none⟩)]∧PR w Z Zp a x i∧
  ∀j u,i[j]? =some u→w.cell? ⟨b,o+j,none⟩=some u∧Zp b (o+j)
 |.fn f,_,c=>c=[.func (.func f) #[] #[]]
 |.cl f a,x,c=>∃d:Array Value,c=[.func (.func f) #[] d]∧PR w Z Zp a x d.toList
theorem dR.length{α:Type}{R:α→List Value→Prop}{k:Nat}(j:∀x es,R x es→es.length=k):∀(l:List α) (vs:List Value),dR R l vs→vs.length=l.length*k
 |[],vs,h=>by simp[dR]at h;simp[h]
 |x::l,vs,⟨es,i,e,D,y⟩=>by
  subst e;simp[j x es D,dR.length j l i y,cF,Nat.add_comm]
theorem PR.length{w:World}{Z Zp:cD}:∀(τ:Ty) (x:τ.den) (vs:List Value),PR w Z Zp τ x vs→vs.length=τ.size
 |.bool,_,_,h=>by simp[PR]at h;simp[h,Ty.size]
 |.int _,_,_,h=>by simp[PR]at h;simp[h,Ty.size]
 |.str,_,_,h=>by simp[PR]at h;simp[h,Ty.size]
 |.sl _,_,_,⟨_,_,_,h,_⟩=>by simp[h,Ty.size]
 |.pair a b,x,_,⟨us,rs,h,i,j⟩=>by simp[h,Ty.size,PR.length a _ _ i,PR.length b _ _ j]
 |.unit,_,_,h=>by simp[PR]at h;simp[h,Ty.size]
 |.ref _,_,_,⟨_,_,_,h,_⟩=>by simp[h,Ty.size]
 |.fn _,_,_,h=>by simp[PR]at h;simp[h,Ty.size]
 |.cl _ _,_,_,⟨_,h,_⟩=>by simp[h,Ty.size]
theorem dR.mono{α:Type}{R j:α→List Value→Prop}(h:∀x es,R x es→j x es):∀(l:List α) (vs:List Value),dR R l vs→dR j l vs
 |[],_,hh=>hh
 |_::l,_,⟨es,i,e,D,y⟩=>⟨es,i,e,h _ _ D,dR.mono h l i y⟩
def dG(w w':World)(Z a:cD):Prop:=∀b i,Z b i→a b i∧w'.cell? ⟨b,i,none⟩=w.cell? ⟨b,i,none⟩
theorem dG.refl(w:World)(Z:cD):dG w w Z Z:=fun _ _ h=>⟨h,rfl⟩
theorem dG.trans{w w1 E:World}{Z y D:cD}(h:dG w w1 Z y)(k:dG w1 E y D):dG w E Z D:=
 fun b i j=>⟨(k b i (h b i j).1).1,(k b i (h b i j).1).2.trans (h b i j).2⟩
theorem At.mono{w w':World}{Z H:cD}(h:dG w w' Z H){base:Option Addr}{us:List Value}(I:At w Z base us):At w' H base us:=by
 intro D;obtain⟨b,E,J,i⟩:=I D;exact⟨b,E,J,fun j u y=>⟨(h _ _ (i j u y).2).2.trans (i j u y).1,(h _ _ (i j u y).2).1⟩⟩
theorem PR.mono{w w':World}{Z K Zp Uk:cD}(h:dG w w' Z K)(i:dG w w' Zp Uk):∀(τ:Ty) (x:τ.den) (vs:List Value),PR w Z Zp τ x vs→PR w' K Uk τ x vs
 |.bool,_,_,hh=>hh
 |.int _,_,_,hh=>hh
 |.str,_,_,hh=>hh
 |.sl e,l,_,⟨base,H,us,L,M,N,O⟩=>⟨base,H,us,L,M,dR.mono (fun x es P=>PR.mono h i e x es P) l us N,O.mono h⟩
 |.pair a b,_,_,⟨us,rs,e,D,E⟩=>⟨us,rs,e,PR.mono h i a _ _ D,PR.mono h i b _ _ E⟩
 |.unit,_,_,hh=>hh
 |.ref a,_,_,⟨b,J,us,e,D,E⟩=>⟨b,J,us,e,PR.mono h i a _ _ D,fun j u I=>⟨(i _ _ (E j u I).2).2.trans (E j u I).1,(i _ _ (E j u I).2).1⟩⟩
 |.fn _,_,_,hh=>hh
 |.cl _ a,_,_,⟨y,e,D⟩=>⟨y,e,PR.mono h i a _ _ D⟩
theorem PR.flat{w w':World}{Z j Zp Uk:cD}:∀(τ:Ty) (x:τ.den) (vs:List Value),τ.flat=true→PR w Z Zp τ x vs→PR w' j Uk τ x vs
 |.bool,_,_,_,hh=>hh
 |.int _,_,_,_,hh=>hh
 |.str,_,_,_,hh=>hh
 |.sl _,_,_,i,_=>by simp[Ty.flat]at i
 |.pair a b,_,_,i,⟨us,rs,e,y,D⟩=>by
  simp[Ty.flat]at i;exact⟨us,rs,e,PR.flat a _ _ i.1 y,PR.flat b _ _ i.2 D⟩
 |.unit,_,_,_,hh=>hh
 |.ref _,_,_,i,_=>by simp[Ty.flat]at i
 |.fn _,_,_,_,hh=>hh
 |.cl _ _,_,_,i,_=>by simp[Ty.flat]at i
theorem PR.cE{w:World}{Z Zp Uk:cD}:∀(τ:Ty) (x:τ.den) (vs:List Value),τ.cE=true→PR w Z Zp τ x vs→PR w Z Uk τ x vs
 |.bool,_,_,_,hh=>hh
 |.int _,_,_,_,hh=>hh
 |.str,_,_,_,hh=>hh
 |.sl e,l,_,i,⟨base,j,us,y,D,E,H⟩=>⟨base,j,us,y,D,dR.mono (fun x es K=>PR.cE e x es i K) l us E,H⟩
 |.pair a b,_,_,i,⟨us,rs,e,I,J⟩=>by
  simp[Ty.cE]at i;exact⟨us,rs,e,PR.cE a _ _ i.1 I,PR.cE b _ _ i.2 J⟩
 |.unit,_,_,_,hh=>hh
 |.ref _,_,_,i,_=>by simp[Ty.cE]at i
 |.fn _,_,_,_,hh=>hh
 |.cl _ _,_,_,i,_=>by simp[Ty.cE]at i
def Ty.vals:(τ:Ty)→τ.den→List Value
 |.bool,b=>[.bool b]
 |.int k,n=>[.int k n]
 |.str,s=>[.string ⟨s.toArray⟩]
 |.pair a b,x=>a.vals x.1++b.vals x.2
 |_,_=>[]
theorem PR.vals{w:World}{Z Zp:cD}:∀(τ:Ty) (x:τ.den) (vs:List Value),τ.isKey=true→(PR w Z Zp τ x vs↔vs=τ.vals x)
 |.bool,_,_,_=>Iff.rfl
 |.int _,_,_,_=>Iff.rfl
 |.str,_,_,_=>Iff.rfl
 |.sl _,_,_,i=>by simp[Ty.isKey]at i
 |.pair a b,x,vs,i=>by
  simp[Ty.isKey]at i;constructor
  ·rintro⟨us,rs,e,j,y⟩;rw[e,(PR.vals a _ _ i.1).1 j,(PR.vals b _ _ i.2).1 y];rfl
  ·intro e;exact⟨_,_,e,(PR.vals a _ _ i.1).2 rfl,(PR.vals b _ _ i.2).2 rfl⟩
 |.unit,_,_,_=>Iff.rfl
 |.ref _,_,_,i=>by simp[Ty.isKey]at i
 |.fn _,_,_,i=>by simp[Ty.isKey]at i
 |.cl _ _,_,_,i=>by simp[Ty.isKey]at i
def FV(τ:Ty)(x:τ.den)(v:Value):Prop:=
 match τ.isAgg with
 |true=>v= .agg (τ.vals x).toArray
 |false=>τ.vals x=[v]
def aoY(k v:Ty)(l:List (k.den×v.den))(a:List MapEntry):Prop:=
 l.length=a.length∧∀(j:Nat) (p:k.den×v.den) (e:MapEntry),l[j]? =some p→a[j]? =some e→FV k p.1 e.key∧FV v p.2 e.val
structure G where
 al:Nat→Prop
 Z:cD
 hm:Nat→Option Nat
 lo:Nat→Nat
 pm:Nat→Nat→Option (Nat×Nat×Nat×Nat)
structure W0 extends World where
 B:Nat→Prop
 pm:Nat→Nat→Option (Nat×Nat×Nat×Nat)
 ro:Nat→Option (Σ K:GK,List (Option K.xp))
 ws:Nat→Prop
structure W0.Extends (w0:W0) (w:World):Prop where
 os:w.os=w0.os
 tape:w.tape=w0.tape
 output:w.output=w0.output
 size:w0.heap.size≤w.heap.size
 block:∀i:Nat,i<w0.heap.size→¬ w0.B i→w.heap[i]? =w0.heap[i]?
theorem W0.Extends.trans{w0:W0}{w w':World}(h:w0.Extends w)(k:w.Extends w'):w0.Extends w':=
 ⟨k.os.trans h.os,k.tape.trans h.tape,k.output.trans h.output,ei h.size k.size,fun i hi j=>(k.block i (ca hi h.size)).trans (h.block i hi j)⟩
theorem W0.Extends.drew{w0:W0}{w:World}(h:w0.Extends w):w0.Extends w.drew:=⟨h.os,h.tape,h.output,h.size,h.block⟩
theorem W0.Extends.alloc{w0:W0}{w:World}(h:w0.Extends w)(o:Obj):w0.Extends (w.alloc o):=h.trans ((World.Extends.refl w).alloc o)
theorem W0.Extends.world{w0:W0}{w:World}(h:w0.Extends w)(D:∀b,¬ w0.B b):w0.toWorld.Extends w:=by
 have j:∀i:Nat,i<w0.heap.size→w.heap[i]? =w0.heap[i]? :=fun i hi=>h.block i hi (D i)
 refine⟨h.os,h.tape,h.output,h.size,fun a y=> ?_,fun a y=> ?_,j⟩
 ·simp only[World.cell?,j a.block y]
 ·simp only[World.frozen?,j a.block y]
def awU(w:World)(base:Nat)(g:G)(o:Nat)(size len:Nat)(v:Value):Prop:=
 (g.hm o=none∧v= .slice none 0 0∧len=0)∨
 (∃b a c d,g.hm o=some b∧v= .slice (some ⟨b,0,none⟩) len a∧w.heap[b]? =some (.cells c d (0,0))∧
  len≤a∧a≤maxLen∧c.size=a*size∧base≤b∧g.lo o=len*size)
def jB:Ob→Option (Ty×Nat)
 |.row e l=>some (e,af l)
 |.xq e l=>some (e,af l)
 |_=>none
def MU(v:Value):Prop:=∃a,v= .pointer a
def CR(w:World)(base:Nat)(Zp:cD)(h:bm)(g:G):C→Value→Prop
 |.undef,_=>True
 |.bool b,v=>v= .bool b
 |.int k n,v=>v= .int k n
 |.str s,v=>v= .string ⟨s.toArray⟩
 |.sl e l t,v=>PR w g.Z Zp (.sl e) l [v]∧match t with
  |.no=>True
  |.nn=>∃a n c,v= .slice (some a) n c
  |.nl=>∃n c,v= .slice none n c
  |.own o=>g.al o∧(look .dead o h= .tok→awU w base g o e.size (af l) v)
 |.nils,v=>v= .slice none 0 0
 |.vec o,v=>g.al o∧(∃a n m,v= .slice a n m)∧∀e n,jB (look .dead o h)=some (e,n)→∃b,g.hm o=some b∧v= .slice (some ⟨b,0,none⟩) n n
 |.ptr o d,v=>g.al o∧MU v∧(look .dead o h≠.dead→∃b,g.hm o=some b∧v= .pointer (some ⟨b,d,none⟩))
 |.aeY o i c,v=>g.al o∧MU v∧∀e n,jB (look .dead o h)=some (e,n)→∃b,g.hm o=some b∧v= .pointer (some ⟨b,i*e.size+c,none⟩)
 |.ap8 o d _ i,v=>g.al o∧MU v∧(look .dead o h≠.dead→∃b,g.hm o=some b∧v= .pointer (some ⟨b,d+i,none⟩))
 |.Ja a x c,v=>∃b d B,v= .pointer (some ⟨b,d+c,none⟩)∧PR w g.Z Zp a x B∧
   ∀j u,B[j]? =some u→w.cell? ⟨b,d+j,none⟩=some u∧(g.Z b (d+j)∨Zp b (d+j))
 |.clos f z,v=>∃q,v= .func (.func f) #[] q∧dR (fun o D=>g.al o∧∃u,D=[u]∧MU u∧(look .dead o h≠.dead→∃b,g.hm o=some b∧u= .pointer (some ⟨b,0,none⟩))) z q.toList
 |.nilfn,v=>v= .nilFunc
 |.nilp,v=>v= .pointer none
 |.mp o,v=>g.al o∧(∃r,v= .map (some r))∧(look .dead o h≠.dead→∃b,g.hm o=some b∧v= .map (some b))
 |.Eg f a x,v=>PR w g.Z Zp (.cl f a) x [v]
 |.gp c d x,v=>match x with
  |none=>v= .pointer none
  |some id=>∃e,g.pm c id=some e∧e.2.1=0∧v= .pointer (some ⟨e.1,d,none⟩)
 |.gs c x,v=>match x with
  |none=>v= .slice none 0 0
  |some (id,a,n)=>∃b k p y o,g.pm c id=some (b,k,p,y)∧a+n≤p∧(a<p→o=k+a*y)∧v= .slice (some ⟨b,o,none⟩) n (p -a)
 |.ge c id E d,v=>∃b k p y,g.pm c id=some (b,k,p,y)∧v= .pointer (some ⟨b,k+E*y+d,none⟩)
 |.gm c x,v=>match x with
  |none=>v= .map none
  |some id=>∃e,g.pm c id=some e∧v= .map (some e.1)
def dM(w:World)(base:Nat)(Zp:cD)(h:bm)(g:G):List C→List Value→Prop
 |[],b=>b=[]
 |c::d,b=>∃v a,b=v::a∧CR w base Zp h g c v∧dM w base Zp h g d a
def VR(w:World)(base:Nat)(Zp:cD)(h:bm)(g:G)(agg:Bool)(cs:List C)(v:Value):Prop:=
 match agg with
 |true=>∃a:List Value,v= .agg a.toArray∧dM w base Zp h g cs a
 |false=>dM w base Zp h g cs [v]
def AR(w:World)(base:Nat)(Zp:cD)(h:bm)(g:G):A→Value→Prop
 |.v agg b,v=>VR w base Zp h g agg b v
 |.jN ps,v=>∃a:List Value,v= .tuple a.toArray∧dR (fun(p:Bool×List C) c=>∃u,c=[u]∧VR w base Zp h g p.1 p.2 u) ps a
def Qf(w:World)(base:Nat)(Zp:cD)(h:bm)(g:G)(o:Nat):Ob→Prop
 |.dead=>True
 |.tok=>True
 |.cells n=>∃b a d,g.hm o=some b∧w.heap[b]? =some (.cells a d (0,0))∧dM w base Zp h g n a.toList
 |.row e l=>0<e.size∧e.cE=true∧∃b a d,g.hm o=some b∧w.heap[b]? =some (.cells a d (0,0))∧dR (PR w g.Z Zp e) l a.toList
 |.xq e l=>0<e.size∧e.cE=true∧∃b a d p,g.hm o=some b∧w.heap[b]? =some (.cells a d p)∧dR (PR w g.Z Zp e) l a.toList∧∀i,i<a.size→g.Z b i
 |.map k v l=>k.isKey=true∧v.isKey=true∧(l.map (·.1)).Nodup∧∃b j c,g.hm o=some b∧w.heap[b]? =some (.map j c)∧aoY k v l j.toList
 |.gh _ _ _=>g.hm o=none
def uI(w:World)(base:Nat)(Zp:cD)(h:bm)(g:G)(c id:Nat):(K:GK)→K.xp→Prop
 |.st V,x=>0<V.size∧∃b a d o,g.pm c id=some (b,0,a,V.size)∧w.heap[b]? =some (.cells d o (0,0))∧dM w base Zp h g (V.cells x) d.toList
 |.bf V,l=>0<V.size∧∃b k a d o,g.pm c id=some (b,k,a,V.size)∧w.heap[b]? =some (.cells d o (0,0))∧d.size=k+a*V.size∧af l≤a∧a≤maxLen∧
  dR (fun y n=>dM w base Zp h g (V.cells y) n) l ((d.toList.drop k).take (af l*V.size))
 |.mp k V,l=>k.isKey=true∧(List.map (·.1) l).Nodup∧∃b n i,g.pm c id=some (b,0,0,0)∧w.heap[b]? =some (.map n i)∧af l=n.size∧
  ∀(j:Nat) (p:k.den×V.den) (e:MapEntry),nth (α:=k.den×V.den) l j=some p→n[j]? =some e→FV k p.1 e.key∧VR w base Zp h g V.isAgg (V.cells p.2) e.val
def GL(h:bm)(g:G)(c id b:Nat):Prop:=∃wr K H x e,look .dead c h= .gh wr K H∧H[id]? =some (some x)∧g.pm c id=some e∧e.1=b
structure GHR (w0:W0) (Zp:cD) (h:bm) (g:G) (w:World):Prop where
 xp:∀c wr K H id x,look .dead c h= .gh wr K H→H[id]? =some (some x)→uI w w0.heap.size Zp h g c id K x
 fresh:∀c wr K H id,look .dead c h= .gh wr K H→H.length≤id→g.pm c id=none
 lt:∀c id b,GL h g c id b→b<w.heap.size
 own:∀c K H id x e,look .dead c h= .gh true K H→H[id]? =some (some x)→g.pm c id=some e→w0.heap.size≤e.1∨w0.B e.1
 nA:∀c id c' id' b,GL h g c id b→GL h g c' id' b→c=c'∧id=id'
 kS:∀c id b i,GL h g c id b→¬ g.Z b i
 loc:∀c id b o,GL h g c id b→look .dead o h≠.dead→g.hm o=some b→False
 psz:∀c wr V H id e,look .dead c h= .gh wr (.bf V) H→g.pm c id=some e→e.2.2.2=V.size
 old:∀c id e,w0.pm c id=some e→g.pm c id=some e
 ro:∀c K H,look .dead c h= .gh false K H→w0.ro c=some ⟨K,H⟩
 zpx:∀c id b i,GL h g c id b→¬ Zp b i
 kok:∀c wr K H,look .dead c h= .gh wr K H→K.ok=true
 wsr:∀c K H,look .dead c h= .gh true K H→w0.ws c
 new:∀c id e,g.pm c id=some e→w0.pm c id=some e∨w0.ws c
def Ob.open? :Ob→Bool
 |.cells _=>true
 |.row _ _=>true
 |.map _ _ _=>true
 |_=>false
structure HR (w0:W0) (Z0 Zp:cD) (h:bm) (g:G) (w:World):Prop where
 ext:w0.Extends w
 ob:∀o,Qf w w0.heap.size Zp h g o (look .dead o h)
 dead:∀o,¬ g.al o→look .dead o h= .dead
 home:∀o b,look .dead o h≠.dead→g.hm o=some b→w0.heap.size≤b∧b<w.heap.size
 nA:∀o p b,look .dead o h≠.dead→look .dead p h≠.dead→g.hm o=some b→g.hm p=some b→o=p
 kS:∀o b i,(look .dead o h).open? =true→g.hm o=some b→¬ g.Z b i
 Mv:∀o b i,look .dead o h= .tok→g.hm o=some b→g.Z b i→i<g.lo o
 Mw:∀b i,g.Z b i→b<w.heap.size
 Ji:∀b i,b<w0.heap.size→g.Z b i→Z0 b i∨w0.B b
 z0:∀b i,Z0 b i→g.Z b i
 zp:∀b i,Zp b i→b<w0.heap.size∧¬ w0.B b
 gh:GHR w0 Zp h g w
def Ob.to(x y:Ob):Prop:=
 y= .dead∨(x= .tok∧y= .tok)∨(∃D i,x= .cells D∧y= .cells i)∨(∃r,jB x=some r∧jB y=some r)∨(∃k v l E,x= .map k v l∧y= .map k v E)∨(∃K H j,x= .gh true K H∧y= .gh true K j)∨(∃K H,x= .gh false K H∧y= .gh false K H)
theorem Ob.to.refl(x:Ob):x.to x:=by
 cases x
 ·exact .inl rfl
 ·exact .inr (.inl ⟨rfl,rfl⟩)
 ·exact .inr (.inr (.inl ⟨_,_,rfl,rfl⟩))
 ·exact .inr (.inr (.inr (.inl ⟨_,rfl,rfl⟩)))
 ·exact .inr (.inr (.inr (.inl ⟨_,rfl,rfl⟩)))
 ·exact .inr (.inr (.inr (.inr (.inl ⟨_,_,_,_,rfl,rfl⟩))))
 ·rename_i wr K H
  cases wr
  ·exact .inr (.inr (.inr (.inr (.inr (.inr ⟨_,_,rfl,rfl⟩)))))
  ·exact .inr (.inr (.inr (.inr (.inr (.inl ⟨_,_,_,rfl,rfl⟩)))))
structure Le (Zp:cD) (h:bm) (g:G) (w:World) (h':bm) (g':G) (w':World):Prop where
 al:∀o,g.al o→g'.al o
 z:dG w w' g.Z g'.Z
 zp:dG w w' Zp Zp
 ob:∀o,g.al o→(look .dead o h).to (look .dead o h')
 hm:∀o,g.al o→look .dead o h'≠.dead→g'.hm o=g.hm o
 tok:∀o,g.al o→look .dead o h'= .tok→g'.lo o=g.lo o∧∀b,g.hm o=some b→w'.heap[b]? =w.heap[b]?
 pm:∀c id e,g.pm c id=some e→g'.pm c id=some e
theorem Le.refl(Zp:cD)(h:bm)(g:G)(w:World):Le Zp h g w h g w:=
 ⟨fun _ h=>h,dG.refl _ _,dG.refl _ _,fun _ _=>Ob.to.refl _,fun _ _ _=>rfl,fun _ _ _=>⟨rfl,fun _ _=>rfl⟩,fun _ _ _ h=>h⟩
theorem Ob.to.alive{x y:Ob}(h:x.to y)(D:y≠.dead):x≠.dead:=by
 rcases h with h |⟨rfl,rfl⟩|⟨_,_,rfl,rfl⟩|⟨r,i,E⟩|⟨_,_,_,_,rfl,rfl⟩|⟨_,_,_,rfl,rfl⟩|⟨_,_,rfl,rfl⟩
 ·exact absurd h D
 ·simp
 ·simp
 ·intro j;subst j;simp[jB]at i
 ·simp
 ·simp
 ·simp
theorem Ob.to.row{x y:Ob}(h:x.to y){r:Ty×Nat}(i:jB y=some r):jB x=some r:=by
 rcases h with rfl |⟨rfl,rfl⟩|⟨_,_,rfl,rfl⟩|⟨q,j,D⟩|⟨_,_,_,_,rfl,rfl⟩|⟨_,_,_,rfl,rfl⟩|⟨_,_,rfl,rfl⟩
 ·simp[jB]at i
 ·simp[jB]at i
 ·simp[jB]at i
 ·rw[D]at i;cases i;exact j
 ·simp[jB]at i
 ·simp[jB]at i
 ·simp[jB]at i
theorem Ob.to.tok{x y:Ob}(h:x.to y)(i:y= .tok):x= .tok:=by
 subst i;rcases h with h |⟨rfl,_⟩|⟨_,_,_,h⟩|⟨q,_,h⟩|⟨_,_,_,_,_,h⟩|⟨_,_,_,_,h⟩|⟨_,_,_,h⟩
 ·cases h
 ·rfl
 ·cases h
 ·simp[jB]at h
 ·cases h
 ·cases h
 ·cases h
section
variable {w w':World} {base:Nat} {Zp:cD} {h h':bm} {g g':G}
theorem CR.mono(L:Le Zp h g w h' g' w'):∀(c:C) (v:Value),CR w base Zp h g c v→CR w' base Zp h' g' c v
 |.undef,_,_=>trivial
 |.bool _,_,hh=>hh
 |.int _ _,_,hh=>hh
 |.str _,_,hh=>hh
 |.sl e l t,v,⟨E,y⟩=>by
  refine⟨PR.mono L.z L.zp _ _ _ E,?_⟩
  cases t with
  |no=>trivial
  |nn=>exact y
  |nl=>exact y
  |own o=>
   obtain⟨D,y⟩:=y;refine⟨L.al o D,fun S=> ?_⟩;have T:=(L.ob o D).tok S;have P:=L.hm o D (by rw[S];simp);obtain⟨R,hb⟩:=L.tok o D S;rcases y T with⟨a,b,c⟩|⟨b,I,Q,Y,a1,W,X,N⟩
   ·exact .inl ⟨P.trans a,b,c⟩
   ·exact .inr ⟨b,I,Q,Y,P.trans a1,W,(hb b a1).trans X,N.1,N.2.1,N.2.2.1,N.2.2.2.1,R.trans N.2.2.2.2⟩
 |.nils,_,hh=>hh
 |.vec o,v,⟨D,J,hr⟩=>⟨L.al o D,J,fun e n M=>by
   obtain⟨b,E,y⟩:=hr e n ((L.ob o D).row M);exact⟨b,(L.hm o D (by intro hd;rw[hd]at M;simp[jB]at M)).trans E,y⟩⟩
 |.ptr o H,v,⟨D,J,hr⟩=>⟨L.al o D,J,fun hd=>by
   obtain⟨b,E,y⟩:=hr ((L.ob o D).alive hd);exact⟨b,(L.hm o D hd).trans E,y⟩⟩
 |.aeY o i c,v,⟨D,J,hr⟩=>⟨L.al o D,J,fun e n M=>by
   obtain⟨b,E,y⟩:=hr e n ((L.ob o D).row M);exact⟨b,(L.hm o D (by intro hd;rw[hd]at M;simp[jB]at M)).trans E,y⟩⟩
 |.ap8 o H _ i,v,⟨D,J,hr⟩=>⟨L.al o D,J,fun hd=>by
   obtain⟨b,E,y⟩:=hr ((L.ob o D).alive hd);exact⟨b,(L.hm o D hd).trans E,y⟩⟩
 |.Ja a x c,v,⟨b,H,us,E,y,h3⟩=>⟨b,H,us,E,PR.mono L.z L.zp _ _ _ y,fun j u hj=>by
   obtain⟨V,K⟩:=h3 j u hj;rcases K with K |K
   ·exact⟨(L.z _ _ K).2.trans V,.inl (L.z _ _ K).1⟩
   ·exact⟨(L.zp _ _ K).2.trans V,.inr K⟩⟩
 |.clos f ids,v,⟨O,E,y⟩=>⟨O,E,dR.mono (fun o es ⟨D,u,e,hp,hr⟩=>⟨L.al o D,u,e,hp,fun hd=>by
   obtain⟨b,E,y⟩:=hr ((L.ob o D).alive hd);exact⟨b,(L.hm o D hd).trans E,y⟩⟩) _ _ y⟩
 |.nilfn,_,hh=>hh
 |.nilp,_,hh=>hh
 |.mp o,v,⟨D,J,hr⟩=>⟨L.al o D,J,fun hd=>by
   obtain⟨b,E,y⟩:=hr ((L.ob o D).alive hd);exact⟨b,(L.hm o D hd).trans E,y⟩⟩
 |.Eg _ _ _,_,hh=>PR.mono L.z L.zp _ _ _ hh
 |.gp c H none,_,hh=>hh
 |.gp c H (some id),_,⟨e,E,y⟩=>⟨e,L.pm _ _ _ E,y⟩
 |.gs c none,_,hh=>hh
 |.gs c (some (id,a,n)),_,⟨b,k,I,U,o,E,y⟩=>⟨b,k,I,U,o,L.pm _ _ _ E,y⟩
 |.ge c id ix H,_,⟨b,k,I,U,E,y⟩=>⟨b,k,I,U,L.pm _ _ _ E,y⟩
 |.gm c none,_,hh=>hh
 |.gm c (some id),_,⟨e,E,y⟩=>⟨e,L.pm _ _ _ E,y⟩
theorem dM.mono(L:Le Zp h g w h' g' w'):∀(cs:List C) (vs:List Value),dM w base Zp h g cs vs→dM w' base Zp h' g' cs vs
 |[],_,hh=>hh
 |c::cs,_,⟨v,i,e,j,y⟩=>⟨v,i,e,CR.mono L c v j,dM.mono L cs i y⟩
theorem VR.mono(L:Le Zp h g w h' g' w')(agg:Bool)(cs:List C)(v:Value)(hh:VR w base Zp h g agg cs v):VR w' base Zp h' g' agg cs v:=by
 cases agg with
 |true=>obtain⟨vs,e,i⟩:=hh;exact⟨vs,e,dM.mono L _ _ i⟩
 |false=>exact dM.mono L _ _ hh
theorem AR.mono(L:Le Zp h g w h' g' w')(a:A)(v:Value)(hh:AR w base Zp h g a v):AR w' base Zp h' g' a v:=by
 cases a with
 |v agg y=>exact VR.mono L _ _ _ hh
 |jN ps=>
  obtain⟨vs,e,i⟩:=hh;exact⟨vs,e,dR.mono (fun p es ⟨u,e,j⟩=>⟨u,e,VR.mono L _ _ _ j⟩) _ _ i⟩
end
theorem dM.length{w:World}{base:Nat}{Zp:cD}{h:bm}{g:G}:∀(cs:List C) (vs:List Value),dM w base Zp h g cs vs→vs.length=cs.length
 |[],_,hh=>by simp[dM]at hh;simp[hh]
 |_::cs,_,⟨v,i,e,_,j⟩=>by simp[e,dM.length cs i j]
theorem dM.append{w:World}{base:Nat}{Zp:cD}{h:bm}{g:G}:∀(cs ds:List C) (vs us:List Value),dM w base Zp h g cs vs→dM w base Zp h g ds us→dM w base Zp h g (cs++ds) (vs++us)
 |[],_,_,_,j,y=>by simp[dM]at j;subst j;simpa using y
 |_::cs,ds,_,us,⟨v,i,e,j,D⟩,y=>by subst e;exact⟨v,i++us,by simp,j,dM.append cs ds i us D y⟩
theorem dM.split{w:World}{base:Nat}{Zp:cD}{h:bm}{g:G}:∀(cs ds:List C) (vs:List Value),dM w base Zp h g (cs++ds) vs→∃us rs,vs=us++rs∧dM w base Zp h g cs us∧dM w base Zp h g ds rs
 |[],_,vs,hh=>⟨[],vs,by simp,by simp[dM],by simpa using hh⟩
 |_::cs,ds,_,⟨v,i,e,y,D⟩=>by
  obtain⟨us,rs,j,E,H⟩:=dM.split cs ds i D;exact⟨v::us,rs,by simp[e,j],⟨v,us,rfl,y,E⟩,H⟩
theorem dM.take{w:World}{base:Nat}{Zp:cD}{h:bm}{g:G}(n:Nat):∀(cs:List C) (vs:List Value),dM w base Zp h g cs vs→dM w base Zp h g (cs.take n) (vs.take n):=by
 induction n with
 |zero=>intro cs vs _;simp[dM]
 |succ n D=>
  intro cs vs hh
  cases cs with
  |nil=>simp[dM]at hh;subst hh;simp[dM]
  |cons c cs=>obtain⟨v,i,e,j,y⟩:=hh;subst e;exact⟨v,i.take n,by simp,j,D _ _ y⟩
theorem dM.drop{w:World}{base:Nat}{Zp:cD}{h:bm}{g:G}(n:Nat):∀(cs:List C) (vs:List Value),dM w base Zp h g cs vs→dM w base Zp h g (cs.drop n) (vs.drop n):=by
 induction n with
 |zero=>intro cs vs hh;simpa using hh
 |succ n y=>
  intro cs vs hh
  cases cs with
  |nil=>simp[dM]at hh;subst hh;simp[dM]
  |cons c cs=>obtain⟨v,i,e,D,j⟩:=hh;subst e;simpa using y _ _ j
theorem CR.one{w:World}{base:Nat}{Zp:cD}{h:bm}{g:G}:∀(c:C) (v:Value),c.known=true→CR w base Zp h g c v→v.oneCell'=true
 |.undef,_,i,_=>by simp[C.known]at i
 |.bool _,_,_,hh=>by simp[CR]at hh;subst hh;rfl
 |.int _ _,_,_,hh=>by simp[CR]at hh;subst hh;rfl
 |.str _,_,_,hh=>by simp[CR]at hh;subst hh;rfl
 |.sl _ _ _,_,_,⟨⟨_,_,_,hh,_⟩,_⟩=>by simp at hh;subst hh;rfl
 |.nils,_,_,hh=>by simp[CR]at hh;subst hh;rfl
 |.vec _,_,_,⟨_,⟨_,_,_,hh⟩,_⟩=>by subst hh;rfl
 |.ptr _ _,_,_,⟨_,⟨_,hh⟩,_⟩=>by subst hh;rfl
 |.aeY _ _ _,_,_,⟨_,⟨_,hh⟩,_⟩=>by subst hh;rfl
 |.ap8 _ _ _ _,_,_,⟨_,⟨_,hh⟩,_⟩=>by subst hh;rfl
 |.Ja _ _ _,_,_,⟨_,_,_,hh,_⟩=>by subst hh;rfl
 |.clos _ _,_,_,⟨_,hh,_⟩=>by subst hh;rfl
 |.nilfn,_,_,hh=>by simp[CR]at hh;subst hh;rfl
 |.nilp,_,_,hh=>by simp[CR]at hh;subst hh;rfl
 |.mp _,_,_,⟨_,⟨_,hh⟩,_⟩=>by subst hh;rfl
 |.Eg _ _ _,_,_,⟨_,hh,_⟩=>by simp at hh;subst hh;rfl
 |.gp _ _ none,_,_,hh=>by simp[CR]at hh;subst hh;rfl
 |.gp _ _ (some _),_,_,⟨_,_,_,hh⟩=>by subst hh;rfl
 |.gs _ none,_,_,hh=>by simp[CR]at hh;subst hh;rfl
 |.gs _ (some (_,_,_)),_,_,⟨_,_,_,_,_,_,_,_,hh⟩=>by subst hh;rfl
 |.ge _ _ _ _,_,_,⟨_,_,_,_,_,hh⟩=>by subst hh;rfl
 |.gm _ none,_,_,hh=>by simp[CR]at hh;subst hh;rfl
 |.gm _ (some _),_,_,⟨_,_,hh⟩=>by subst hh;rfl
theorem dM.one{w:World}{base:Nat}{Zp:cD}{h:bm}{g:G}:∀(cs:List C) (vs:List Value),cs.all C.known=true→dM w base Zp h g cs vs→∀v∈vs,v.oneCell'=true
 |[],_,_,hh=>by simp[dM]at hh;simp[hh]
 |c::cs,_,y,⟨v,i,e,D,E⟩=>by
  simp at y;subst e;intro u j;simp at j;rcases j with rfl |j
  ·exact CR.one c u y.1 D
  ·exact dM.one cs i (by simpa using y.2) E u j
theorem dM.ar2{w:World}{base:Nat}{Zp:cD}{h:bm}{g:G}:∀(τ:Ty) (x:τ.den) (vs:List Value),PR w g.Z Zp τ x vs→dM w base Zp h g (τ.cells x) vs
 |.bool,_,_,hh=>⟨_,[],hh,rfl,rfl⟩
 |.int _,_,_,hh=>⟨_,[],hh,rfl,rfl⟩
 |.str,_,_,hh=>⟨_,[],hh,rfl,rfl⟩
 |.sl e,l,_,⟨base,E,us,J,K⟩=>⟨_,[],J,⟨⟨base,E,us,rfl,K⟩,trivial⟩,rfl⟩
 |.pair a b,x,_,⟨us,rs,e,y,D⟩=>by subst e;exact dM.append _ _ _ _ (dM.ar2 a _ _ y) (dM.ar2 b _ _ D)
 |.unit,_,_,hh=>hh
 |.ref a,x,_,⟨b,H,us,e,y,D⟩=>⟨_,[],e,⟨b,H,us,by simp,y,fun j u I=>⟨(D j u I).1,.inr (D j u I).2⟩⟩,rfl⟩
 |.fn f,_,_,hh=>⟨_,[],hh,⟨#[],rfl,by simp[dR]⟩,rfl⟩
 |.cl f a,x,_,⟨i,e,y⟩=>⟨_,[],e,⟨i,rfl,y⟩,rfl⟩
theorem nS{a b:Ty}{l:List a.den}{m:List b.den}(c:rt a b l=some m):∃h:a=b,m=h▸l:=by
 unfold rt at c
 split at c
 ·rename_i h _;cases c;exact⟨h,rfl⟩
 ·cases c
theorem aaW{w:World}{base:Nat}{Zp:cD}{h:bm}{g:G}:∀(τ:Ty) (cs:List C) (vs:List Value) (x:τ.den) (r:List C),τ.cE=true→dM w base Zp h g cs vs→τ.take cs=some (x,r)→
  ∃u rs,vs=u++rs∧PR w g.Z Zp τ x u∧dM w base Zp h g r rs
 |.bool,cs,vs,x,r,_,n,d=>by
  cases cs with
  |nil=>simp[Ty.take]at d
  |cons c cs=>
   obtain⟨v,i,e,j,o⟩:=n
   cases c<;>simp[Ty.take]at d;obtain⟨rfl,rfl⟩:=d;simp[CR]at j;exact⟨[v],i,e,by simp[PR,j],o⟩
 |.int k,cs,vs,x,r,_,n,d=>by
  cases cs with
  |nil=>simp[Ty.take]at d
  |cons c cs=>
   obtain⟨v,i,e,j,o⟩:=n
   cases c<;>simp only[Ty.take]at d<;>try (cases d;done)
   split at d
   ·rename_i O _;subst O;simp at d;obtain⟨rfl,rfl⟩:=d;simp[CR]at j;exact⟨[v],i,e,by simp[PR,j],o⟩
   ·cases d
 |.str,cs,vs,x,r,_,n,d=>by
  cases cs with
  |nil=>simp[Ty.take]at d
  |cons c cs=>
   obtain⟨v,i,e,j,o⟩:=n
   cases c<;>simp[Ty.take]at d;obtain⟨rfl,rfl⟩:=d;simp[CR]at j;exact⟨[v],i,e,by simp[PR,j],o⟩
 |.sl e,cs,vs,x,r,_,n,d=>by
  cases cs with
  |nil=>simp[Ty.take]at d
  |cons c cs=>
   obtain⟨v,i,D,j,o⟩:=n
   cases c<;>simp only[Ty.take]at d<;>try (cases d;done)
   ·rename_i R l t
    split at d
    ·rename_i m F;obtain⟨M,F⟩:=nS F;subst M;subst F;simp at d;obtain⟨rfl,rfl⟩:=d;exact⟨[v],i,D,j.1,o⟩
    ·cases d
   ·simp at d;obtain⟨rfl,rfl⟩:=d;simp[CR]at j;exact⟨[v],i,D,⟨none,0,[],by simp[j],by simp,by simp[dR],by simp[At]⟩,o⟩
 |.pair a b,cs,vs,x,r,p,n,d=>by
  simp[Ty.cE]at p;simp only[Ty.take]at d
  split at d
  ·rename_i y r1 j
   split at d
   ·rename_i z S o
    cases d;obtain⟨u,rs,e,P,K⟩:=aaW a cs vs y r1 p.1 n j;obtain⟨B,I,E,Q,L⟩:=aaW b r1 rs z _ p.2 K o;exact⟨u++B,I,by simp[e,E],⟨u,B,rfl,P,Q⟩,L⟩
   ·cases d
  ·cases d
 |.unit,cs,vs,x,r,_,n,d=>by
  cases d;exact⟨[],vs,by simp,by simp[PR],n⟩
 |.ref a,_,_,_,_,p,_,_=>by simp[Ty.cE]at p
 |.cl _ _,_,_,_,_,p,_,_=>by simp[Ty.cE]at p
 |.fn f,cs,vs,x,r,_,n,d=>by
  cases cs with
  |nil=>simp[Ty.take]at d
  |cons c cs=>
   obtain⟨v,i,D,j,o⟩:=n
   cases c<;>try (cases d;done)
   rename_i g' H
   cases H with
   |cons _ _=>cases d
   |nil=>
   simp only[Ty.take]at d
   split at d
   ·rename_i N _;subst N
    cases d;obtain⟨q,E,J⟩:=j;simp[dR]at J;have:q= #[]:=by simpa using J
    subst this;exact⟨[v],i,D,by simp[PR,E],o⟩
   ·cases d
theorem ez{w:World}{base:Nat}{Zp:cD}{h:bm}{g:G}{τ:Ty}{cs:List C}{vs:List Value}{x:τ.den}(d:τ.cE=true)(b:dM w base Zp h g cs vs)(a:τ.dC cs=some x):PR w g.Z Zp τ x vs:=by
 unfold Ty.dC at a
 split at a
 ·rename_i y i
  cases a;obtain⟨k,j,e,p,c⟩:=aaW τ cs vs _ _ d b i;simp[dM]at c;subst c;simp at e;subst e;exact p
 ·cases a
theorem aW{α:Type}(d:α)(t u:Nat)(x:α)(r:List (Nat×α)):look d t ((u,x)::r)=if u=t then x else look d t r:=by
 by_cases h:u=t
 ·subst h;simp[look]
 ·have:bT u t=false:=by
   cases a:bT u t with
   |false=>rfl
   |true=>exact absurd (aA a) h
  simp[look,this,h]
def upd{α:Type}(f:Nat→α)(n:Nat)(x:α)(o:Nat):α:=if o=n then x else f o
theorem qd{α:Type}(f:Nat→α)(n:Nat)(x:α):upd f n x n=x:=by simp[upd]
theorem jO{α:Type}(f:Nat→α){n o:Nat}(x:α)(h:o≠n):upd f n x o=f o:=by simp[upd,h]
section
variable {w0:W0} {w w':World} {Z0 Zp:cD} {h h':bm} {g g':G}
theorem HR.alive(R:HR w0 Z0 Zp h g w){o:Nat}(hd:look .dead o h≠.dead):g.al o:=by
 by_cases i:g.al o
 ·exact i
 ·exact absurd (R.dead o i) hd
theorem HR.im(R:HR w0 Z0 Zp h g w):w0.heap.size≤w.heap.size:=R.ext.size
theorem HR.zpk(_:HR w0 Z0 Zp h g w)(D:∀b,b<w0.heap.size→¬ w0.B b→w'.heap[b]? =w.heap[b]?)(j:∀b i,Zp b i→b<w0.heap.size∧¬ w0.B b):dG w w' Zp Zp:=
 fun b i y=>⟨y,bW (D b (j b i y).1 (j b i y).2)⟩
theorem uI.mono{base:Nat}(L:Le Zp h g w h' g' w'){c id:Nat}(P:∀e,g.pm c id=some e→w'.heap[e.1]? =w.heap[e.1]?):∀(K:GK) (x:K.xp),uI w base Zp h g c id K x→uI w' base Zp h' g' c id K x
 |.st V,x,⟨H,b,y,E,N,i,I,J⟩=>⟨H,b,y,E,N,L.pm _ _ _ i,(P _ i).trans I,dM.mono L _ _ J⟩
 |.bf V,x,⟨H,b,k,y,E,N,i,I,J,M,S,T⟩=>⟨H,b,k,y,E,N,L.pm _ _ _ i,(P _ i).trans I,J,M,S,dR.mono (fun _ es U=>dM.mono L _ es U) _ _ T⟩
 |.mp k V,x,⟨H,O,b,es,D,i,I,J,M⟩=>⟨H,O,b,es,D,L.pm _ _ _ i,(P _ i).trans I,J,fun j p e R Q=>⟨(M j p e R Q).1,VR.mono L _ _ _ (M j p e R Q).2⟩⟩
theorem GHR.keep(R:GHR w0 Zp h g w)(L:Le Zp h g w h' g' w')(D:∀c wr K H,look .dead c h'= .gh wr K H→look .dead c h= .gh wr K H)(I:g'.pm=g.pm)
  (P:∀c id b,GL h g c id b→w'.heap[b]? =w.heap[b]?) (T:w.heap.size≤w'.heap.size) (hz:∀c id b i,GL h g c id b→¬ g'.Z b i) (S:∀c id b o,GL h g c id b→look .dead o h'≠.dead→g'.hm o=some b→False):
  GHR w0 Zp h' g' w':=by
 have E:∀c id b,GL h' g' c id b→GL h g c id b:=fun c id b ⟨wr,K,H,x,e,j,y,J,O⟩=>⟨wr,K,H,x,e,D _ _ _ _ j,y,I▸J,O⟩;refine⟨fun c wr K H id x j y=> ?_,fun c wr K H id j y=> ?_,fun c id b j=> ?_,fun c K H id x e j y J=> ?_,fun c id N M b j y=> ?_,fun c id b i j=>hz c id b i (E _ _ _ j),fun c id b o j=>S c id b o (E _ _ _ j),fun c wr V H id e j y=>R.psz c wr V H id e (D _ _ _ _ j) (I▸y),fun c id e j=> ?_,fun c K H j=>R.ro c K H (D _ _ _ _ j),fun c id b i j=>R.zpx c id b i (E _ _ _ j),fun c wr K H j=>R.kok c wr K H (D _ _ _ _ j),fun c K H j=>R.wsr c K H (D _ _ _ _ j),fun c id e j=>R.new c id e (I▸j)⟩
 ·exact uI.mono L (fun e Q=>P c id e.1 ⟨wr,K,H,x,e,D _ _ _ _ j,y,Q,rfl⟩) _ _ (R.xp c wr K H id x (D _ _ _ _ j) y)
 ·rw[I];exact R.fresh c wr K H id (D _ _ _ _ j) y
 ·exact ca (R.lt c id b (E _ _ _ j)) T
 ·exact R.own c K H id x e (D _ _ _ _ j) y (I▸J)
 ·exact R.nA c id N M b (E _ _ _ j) (E _ _ _ y)
 ·rw[I];exact R.old c id e j
theorem Qf.mono{base:Nat}(L:Le Zp h g w h' g' w'){o:Nat}{x:Ob}(hx:x= .dead∨g'.hm o=g.hm o)(O:x≠.dead→∀b,g.hm o=some b→w'.heap[b]? =w.heap[b]?)
  (hh:Qf w base Zp h g o x):Qf w' base Zp h' g' o x:=by
 cases x with
 |dead=>trivial
 |tok=>trivial
 |cells S=>
  obtain⟨b,j,M,D,I,J⟩:=hh;rcases hx with hx |hx
  ·cases hx
  ·exact⟨b,j,M,hx.trans D,(O (by simp) b D).trans I,dM.mono L _ _ J⟩
 |row e l=>
  obtain⟨N,y,b,j,M,D,I,J⟩:=hh;rcases hx with hx |hx
  ·cases hx
  ·exact⟨N,y,b,j,M,hx.trans D,(O (by simp) b D).trans I,dR.mono (fun x es hx=>PR.mono L.z L.zp _ _ _ hx) _ _ J⟩
 |xq e l=>
  obtain⟨N,y,b,j,M,Q,D,I,J,R⟩:=hh;rcases hx with hx |hx
  ·cases hx
  ·exact⟨N,y,b,j,M,Q,hx.trans D,(O (by simp) b D).trans I,dR.mono (fun x es hx=>PR.mono L.z L.zp _ _ _ hx) _ _ J,fun i hi=>(L.z b i (R i hi)).1⟩
 |map k v l=>
  obtain⟨N,y,P,b,es,E,D,I,J⟩:=hh;rcases hx with hx |hx
  ·cases hx
  ·exact⟨N,y,P,b,es,E,hx.trans D,(O (by simp) b D).trans I,J⟩
 |gh wr K H=>
  rcases hx with hx |hx
  ·cases hx
  ·exact hx.trans hh
def BD(g:G)(new:Nat)(b:Option Nat)(k:Nat):G:=
 { al:=fun o=>g.al o∨o=new,Z:=fun c i=>g.Z c i∨(b=some c∧i<k),hm:=upd g.hm new b,lo:=upd g.lo new k,pm:=g.pm }
theorem Le.alloc(R:HR w0 Z0 Zp h g w){y:Obj}{new:Nat}(I:¬ g.al new)(x:Ob)(k:Nat)(L:w'.heap=w.heap.push y):
  Le Zp h g w ((new,x)::h) (BD g new (some w.heap.size) k) w':=by
 have D:∀b:Nat,b<w.heap.size→w'.heap[b]? =w.heap[b]? :=fun b H=>by rw[L,Array.getElem?_push,if_neg (Nat.ne_of_lt H)]
 refine⟨fun o E=> .inl E,fun b i K=>⟨.inl K,bW (D b (R.Mw b i K))⟩,
  R.zpk (fun b H _=>D b (ca H R.im)) R.zp,fun o E=> ?_,fun o E _=> ?_,fun o E J=> ?_,fun _ _ _ h=>h⟩
 ·have j:new≠o:=fun e=>I (e▸E);rw[aW,if_neg j];exact Ob.to.refl _
 ·have j:o≠new:=fun e=>I (e▸E);exact jO _ _ j
 ·have j:o≠new:=fun e=>I (e▸E);rw[aW,if_neg (Ne.symm j)]at J;exact⟨jO _ _ j,fun b H=>D b (R.home o b (by rw[J];simp) H).2⟩
theorem HR.alloc(R:HR w0 Z0 Zp h g w){y:Obj}{new:Nat}(hn:¬ g.al new)(x:Ob)(k:Nat)(Y:w'.heap=w.heap.push y)(he:w0.Extends w')
  (hx:Qf w' w0.heap.size Zp ((new,x)::h) (BD g new (some w.heap.size) k) new x) (ho:x.open? =true→k=0):
  HR w0 Z0 Zp ((new,x)::h) (BD g new (some w.heap.size) k) w':=by
 have L:=Le.alloc R hn x k Y;have S:∀b:Nat,b<w.heap.size→w'.heap[b]? =w.heap[b]? :=fun b D=>by rw[Y,Array.getElem?_push,if_neg (Nat.ne_of_lt D)]
 have hsz:w'.heap.size=w.heap.size+1:=by rw[Y];simp
 have P:∀o,o≠new→look .dead o ((new,x)::h)=look .dead o h:=fun o j=>by rw[aW,if_neg (Ne.symm j)]
 have V:look .dead new ((new,x)::h)=x:=by rw[aW,if_pos rfl]
 have I:∀o,o≠new→(BD g new (some w.heap.size) k).hm o=g.hm o:=fun o j=>jO _ _ j;have M:(BD g new (some w.heap.size) k).hm new=some w.heap.size:=qd _ _ _;refine⟨he,fun o=> ?_,fun o ha=> ?_,fun o b hd D=> ?_,fun o p b hd Q D N=> ?_,fun o b i O D E=> ?_,fun o b i X D E=> ?_,fun b i E=> ?_,fun b i D E=> ?_,fun b i E=> .inl (R.z0 b i E),R.zp,R.gh.keep L (fun c wr K H W=> ?_) rfl (fun c id b U=>S b (R.gh.lt c id b U)) (by omega) (fun c id b i U E=> ?_) (fun c id b o U hd D=> ?_)⟩
 ·by_cases j:o=new
  ·subst j;rw[V];exact hx
  ·rw[P o j];exact Qf.mono L (.inr (I o j)) (fun hd b D=>S b (R.home o b hd D).2) (R.ob o)
 ·have j:o≠new:=fun e=>ha (.inr e);rw[P o j];exact R.dead o fun h=>ha (.inl h)
 ·by_cases j:o=new
  ·subst j;rw[M]at D;cases D;exact⟨R.im,by omega⟩
  ·rw[P o j]at hd;rw[I o j]at D;have:=R.home o b hd D;exact⟨this.1,by omega⟩
 ·by_cases J:o=new
  ·by_cases T:p=new
   ·rw[J,T]
   ·subst J;rw[M]at D;cases D;rw[P p T]at Q;rw[I p T]at N;exact absurd (R.home p _ Q N).2 (Nat.lt_irrefl _)
  ·by_cases T:p=new
   ·subst T;rw[M]at N;cases N;rw[P o J]at hd;rw[I o J]at D;exact absurd (R.home o _ hd D).2 (Nat.lt_irrefl _)
   ·rw[P o J]at hd;rw[I o J]at D;rw[P p T]at Q;rw[I p T]at N;exact R.nA o p b hd Q D N
 ·by_cases J:o=new
  ·subst J;rw[M]at D;cases D;rw[V]at O;rcases E with E |⟨_,E⟩
   ·exact absurd (R.Mw _ _ E) (Nat.lt_irrefl _)
   ·have:=ho O;omega
  ·rw[P o J]at O;rw[I o J]at D;rcases E with E |⟨e,_⟩
   ·exact R.kS o b i O D E
   ·cases e;exact absurd (R.home o _ (by intro hd;rw[hd]at O;simp[Ob.open?]at O) D).2 (Nat.lt_irrefl _)
 ·by_cases J:o=new
  ·subst J;rw[M]at D;cases D;show i<upd g.lo o k o;rw[qd];rcases E with E |⟨_,E⟩
   ·exact absurd (R.Mw _ _ E) (Nat.lt_irrefl _)
   ·exact E
  ·rw[P o J]at X;rw[I o J]at D;show i<upd g.lo new k o;rw[jO _ _ J];rcases E with E |⟨e,_⟩
   ·exact R.Mv o b i X D E
   ·cases e;exact absurd (R.home o _ (by rw[X];simp) D).2 (Nat.lt_irrefl _)
 ·rcases E with E |⟨e,_⟩
  ·have:=R.Mw b i E;omega
  ·cases e;omega
 ·rcases E with E |⟨e,_⟩
  ·exact R.Ji b i D E
  ·cases e;exact absurd D (Nat.not_lt.2 R.im)
 ·by_cases j:c=new
  ·subst j;rw[V]at W;rw[W]at hx;have hx:(BD g c (some w.heap.size) k).hm c=none:=hx;rw[M]at hx;cases hx
  ·rw[P c j]at W;exact W
 ·rcases E with E |⟨e,_⟩
  ·exact R.gh.kS c id b i U E
  ·cases e;exact absurd (R.gh.lt c id _ U) (Nat.lt_irrefl _)
 ·by_cases j:o=new
  ·subst j;rw[M]at D;cases D;exact absurd (R.gh.lt c id _ U) (Nat.lt_irrefl _)
  ·rw[P o j]at hd;rw[I o j]at D;exact R.gh.loc c id b o U hd D
theorem HR.au6(R:HR w0 Z0 Zp h g w){new:Nat}(W:¬ g.al new):HR w0 Z0 Zp ((new,.tok)::h) (BD g new none 0) w∧Le Zp h g w ((new,.tok)::h) (BD g new none 0) w:=by
 have N:∀o,o≠new→look .dead o ((new,.tok)::h)=look .dead o h:=fun o j=>by rw[aW,if_neg (Ne.symm j)]
 have S:look .dead new ((new,Ob.tok)::h)= .tok:=by rw[aW,if_pos rfl]
 have E:∀o,o≠new→(BD g new none 0).hm o=g.hm o:=fun o j=>jO _ _ j;have I:(BD g new none 0).hm new=none:=qd _ _ _;have L:Le Zp h g w ((new,.tok)::h) (BD g new none 0) w:=by
  refine⟨fun o M=> .inl M,fun b i D=>⟨.inl D,rfl⟩,dG.refl _ _,fun o M=> ?_,fun o M _=> ?_,fun o M X=> ?_,fun _ _ _ h=>h⟩
  ·rw[N o (fun e=>W (e▸M))];exact Ob.to.refl _
  ·exact E o (fun e=>W (e▸M))
  ·exact⟨jO _ _ (fun e=>W (e▸M)),fun _ _=>rfl⟩
 refine⟨⟨R.ext,fun o=> ?_,fun o M=> ?_,fun o b hd y=> ?_,fun o p b hd P y O=> ?_,fun o b i Q y D=> ?_,fun o b i X y D=> ?_,fun b i D=> ?_,fun b i y D=> ?_,fun b i D=> .inl (R.z0 b i D),R.zp,R.gh.keep L (fun c wr K H U=> ?_) rfl (fun c id b T=>rfl) (az _) (fun c id b i T D=> ?_) (fun c id b o T hd y=> ?_)⟩,L⟩
 ·by_cases j:o=new
  ·subst j;rw[S];trivial
  ·rw[N o j];exact Qf.mono L (.inr (E o j)) (fun _ _ _=>rfl) (R.ob o)
 ·have j:o≠new:=fun e=>M (.inr e);rw[N o j];exact R.dead o fun h=>M (.inl h)
 ·by_cases j:o=new
  ·subst j;rw[I]at y;cases y
  ·rw[N o j]at hd;rw[E o j]at y;exact R.home o b hd y
 ·by_cases J:o=new
  ·subst J;rw[I]at y;cases y
  ·by_cases V:p=new
   ·subst V;rw[I]at O;cases O
   ·rw[N o J]at hd;rw[E o J]at y;rw[N p V]at P;rw[E p V]at O;exact R.nA o p b hd P y O
 ·by_cases J:o=new
  ·subst J;rw[I]at y;cases y
  ·rw[N o J]at Q;rw[E o J]at y;rcases D with D |⟨e,_⟩
   ·exact R.kS o b i Q y D
   ·cases e
 ·by_cases J:o=new
  ·subst J;rw[I]at y;cases y
  ·rw[N o J]at X;rw[E o J]at y;show i<upd g.lo new 0 o;rw[jO _ _ J];rcases D with D |⟨e,_⟩
   ·exact R.Mv o b i X y D
   ·cases e
 ·rcases D with D |⟨e,_⟩
  ·exact R.Mw b i D
  ·cases e
 ·rcases D with D |⟨e,_⟩
  ·exact R.Ji b i y D
  ·cases e
 ·by_cases j:c=new
  ·subst j;rw[S]at U;cases U
  ·rw[N c j]at U;exact U
 ·rcases D with D |⟨e,_⟩
  ·exact R.gh.kS c id b i T D
  ·cases e
 ·by_cases j:o=new
  ·subst j;rw[I]at y;cases y
  ·rw[N o j]at hd;rw[E o j]at y;exact R.gh.loc c id b o T hd y
theorem HR.au7(R:HR w0 Z0 Zp h g w){new b k:Nat}(hn:¬ g.al new)(E:∀o,look .dead o h≠.dead→g.hm o≠some b)(W:∀c id,¬ GL h g c id b)(hb1:w0.heap.size≤b)(hb2:b<w.heap.size)
  (hw:∀c,c≠b→w'.heap[c]? =w.heap[c]?) (hs:w'.heap.size=w.heap.size) (he:w0.Extends w') (hk:∀i,g.Z b i→i<k∧w'.cell? ⟨b,i,none⟩=w.cell? ⟨b,i,none⟩):
  HR w0 Z0 Zp ((new,.tok)::h) (BD g new (some b) k) w'∧Le Zp h g w ((new,.tok)::h) (BD g new (some b) k) w':=by
 have O:∀o,o≠new→look .dead o ((new,Ob.tok)::h)=look .dead o h:=fun o y=>by rw[aW,if_neg (Ne.symm y)]
 have X:look .dead new ((new,Ob.tok)::h)= .tok:=by rw[aW,if_pos rfl]
 have I:∀o,o≠new→(BD g new (some b) k).hm o=g.hm o:=fun o y=>jO _ _ y;have Q:(BD g new (some b) k).hm new=some b:=qd _ _ _;have T:∀o,look .dead o h≠.dead→∀c,g.hm o=some c→w'.heap[c]? =w.heap[c]? :=fun o hd c j=>hw c (fun e=>E o hd (e▸j))
 have L:Le Zp h g w ((new,.tok)::h) (BD g new (some b) k) w':=by
  refine⟨fun o P=> .inl P,fun c i D=>⟨.inl D,?_⟩,R.zpk (fun c j _=>hw c (by omega)) R.zp,fun o P=> ?_,fun o P _=> ?_,fun o P Y=> ?_,fun _ _ _ h=>h⟩
  ·by_cases j:c=b
   ·subst j;exact(hk i D).2
   ·exact bW (hw c j)
  ·rw[O o (fun e=>hn (e▸P))];exact Ob.to.refl _
  ·exact I o (fun e=>hn (e▸P))
  ·rw[O o (fun e=>hn (e▸P))]at Y;exact⟨jO _ _ (fun e=>hn (e▸P)),fun c j=>T o (by rw[Y];simp) c j⟩
 refine⟨⟨he,fun o=> ?_,fun o P=> ?_,fun o c hd j=> ?_,fun o p c hd S j M=> ?_,fun o c i N j D=> ?_,fun o c i Y j D=> ?_,fun c i D=> ?_,fun c i j D=> ?_,fun c i D=> .inl (R.z0 c i D),R.zp,R.gh.keep L (fun c wr K H j=> ?_) rfl (fun c id b' V=>hw b' (fun e=>W c id (e▸V))) (by omega) (fun c id b' i V D=> ?_) (fun c id b' o V hd j=> ?_)⟩,L⟩
 ·by_cases y:o=new
  ·subst y;rw[X];trivial
  ·rw[O o y];exact Qf.mono L (.inr (I o y)) (fun hd c j=>T o hd c j) (R.ob o)
 ·have y:o≠new:=fun e=>P (.inr e);rw[O o y];exact R.dead o fun h=>P (.inl h)
 ·by_cases y:o=new
  ·subst y;rw[Q]at j;cases j;exact⟨hb1,by omega⟩
  ·rw[O o y]at hd;rw[I o y]at j;have:=R.home o c hd j;omega
 ·by_cases J:o=new
  ·by_cases U:p=new
   ·rw[J,U]
   ·subst J;rw[Q]at j;cases j;rw[O p U]at S;rw[I p U]at M;exact absurd M (E p S)
  ·by_cases U:p=new
   ·subst U;rw[Q]at M;cases M;rw[O o J]at hd;rw[I o J]at j;exact absurd j (E o hd)
   ·rw[O o J]at hd;rw[I o J]at j;rw[O p U]at S;rw[I p U]at M;exact R.nA o p c hd S j M
 ·by_cases J:o=new
  ·subst J;rw[X]at N;simp[Ob.open?]at N
  ·rw[O o J]at N;rw[I o J]at j;rcases D with D |⟨e,_⟩
   ·exact R.kS o c i N j D
   ·cases e;exact E o (by intro hd;rw[hd]at N;simp[Ob.open?]at N) j
 ·by_cases J:o=new
  ·subst J;rw[Q]at j;cases j;show i<upd g.lo o k o;rw[qd];rcases D with D |⟨_,D⟩
   ·exact(hk i D).1
   ·exact D
  ·rw[O o J]at Y;rw[I o J]at j;show i<upd g.lo new k o;rw[jO _ _ J];rcases D with D |⟨e,_⟩
   ·exact R.Mv o c i Y j D
   ·cases e;exact absurd j (E o (by rw[Y];simp))
 ·rcases D with D |⟨e,_⟩
  ·have:=R.Mw c i D;omega
  ·cases e;omega
 ·rcases D with D |⟨e,_⟩
  ·exact R.Ji c i j D
  ·cases e;omega
 ·by_cases y:c=new
  ·subst y;rw[X]at j;cases j
  ·rw[O c y]at j;exact j
 ·rcases D with D |⟨e,_⟩
  ·exact R.gh.kS c id b' i V D
  ·cases e;exact W c id V
 ·by_cases y:o=new
  ·subst y;rw[Q]at j;cases j;exact W c id V
  ·rw[O o y]at hd;rw[I o y]at j;exact R.gh.loc c id b' o V hd j
theorem HR.drop(R:HR w0 Z0 Zp h g w)(o:Nat):HR w0 Z0 Zp ((o,.dead)::h) g w∧Le Zp h g w ((o,.dead)::h) g w:=by
 have D:∀p,p≠o→look .dead p ((o,Ob.dead)::h)=look .dead p h:=fun p Q=>by rw[aW,if_neg (Ne.symm Q)]
 have I:look .dead o ((o,Ob.dead)::h)= .dead:=by rw[aW,if_pos rfl]
 have y:∀p,look .dead p ((o,Ob.dead)::h)≠.dead→p≠o:=fun p j e=>j (by rw[e,I]);have L:Le Zp h g w ((o,.dead)::h) g w:=by
  refine⟨fun o N=>N,dG.refl _ _,dG.refl _ _,fun p _=> ?_,fun _ _ _=>rfl,fun _ _ _=>⟨rfl,fun _ _=>rfl⟩,fun _ _ _ h=>h⟩
  by_cases j:p=o
  ·subst j;rw[I];exact .inl rfl
  ·rw[D p j];exact Ob.to.refl _
 refine⟨⟨R.ext,fun p=> ?_,fun p N=> ?_,fun p b hd J=> ?_,fun p q b hd M J O=> ?_,fun p b i E J T=> ?_,fun p b i S J T=> ?_,R.Mw,R.Ji,R.z0,R.zp,R.gh.keep L (fun c wr K H P=> ?_) rfl (fun c id b U=>rfl) (az _) R.gh.kS (fun c id b p U hd=>R.gh.loc c id b p U (by rw[←D p (y p hd)];exact hd))⟩,L⟩
 ·by_cases j:p=o
  ·subst j;rw[I];trivial
  ·rw[D p j];exact Qf.mono L (.inr rfl) (fun _ _ _=>rfl) (R.ob p)
 ·by_cases j:p=o
  ·subst j;exact I
  ·rw[D p j];exact R.dead p N
 ·exact R.home p b (by rw[←D p (y p hd)];exact hd) J
 ·exact R.nA p q b (by rw[←D p (y p hd)];exact hd) (by rw[←D q (y q M)];exact M) J O
 ·have j:=y p (by intro e;rw[e]at E;simp[Ob.open?]at E);rw[D p j]at E;exact R.kS p b i E J T
 ·have j:=y p (by rw[S];simp);rw[D p j]at S;exact R.Mv p b i S J T
 ·have j:=y c (by rw[P];simp);rw[D c j]at P;exact P
theorem HR.write(R:HR w0 Z0 Zp h g w){o b:Nat}{x:Ob}(P:g.hm o=some b)(J:(look .dead o h).open? =true)(hto:(look .dead o h).to x)(E:x.open? =true)
  (Q:∀c,c≠b→w'.heap[c]? =w.heap[c]?) (hs:w'.heap.size=w.heap.size) (he:w0.Extends w')
  (hx:Le Zp h g w ((o,x)::h) g w'→Qf w' w0.heap.size Zp ((o,x)::h) g o x):
  HR w0 Z0 Zp ((o,x)::h) g w'∧Le Zp h g w ((o,x)::h) g w':=by
 have O:∀p,p≠o→look .dead p ((o,x)::h)=look .dead p h:=fun p Y=>by rw[aW,if_neg (Ne.symm Y)]
 have I:look .dead o ((o,x)::h)=x:=by rw[aW,if_pos rfl]
 have D:look .dead o h≠.dead:=by intro hd;rw[hd]at J;simp[Ob.open?]at J
 have hxd:x≠.dead:=by intro hd;rw[hd]at E;simp[Ob.open?]at E
 have S:x≠.tok:=by intro hd;rw[hd]at E;simp[Ob.open?]at E
 have hbb:=R.home o b D P;have alive:∀p,look .dead p ((o,x)::h)≠.dead→look .dead p h≠.dead:=fun p y=>by
  by_cases e:p=o
  ·subst e;exact D
  ·rw[←O p e];exact y
 have L:Le Zp h g w ((o,x)::h) g w':=by
  refine⟨fun o U=>U,fun c i N=>⟨N,bW (Q c (fun e=>R.kS o b i J P (e▸N)))⟩,R.zpk (fun c j _=>Q c (by omega)) R.zp,fun p _=> ?_,fun _ _ _=>rfl,fun p _ M=>⟨rfl,fun c j=> ?_⟩,fun _ _ _ h=>h⟩
  ·by_cases y:p=o
   ·subst y;rw[I];exact hto
   ·rw[O p y];exact Ob.to.refl _
  ·by_cases y:p=o
   ·subst y;rw[I]at M;exact absurd M S
   ·rw[O p y]at M;exact Q c (fun e=>y (R.nA p o b (by rw[M];simp) D (e▸j) P))
 refine⟨⟨he,fun p=> ?_,fun p U=> ?_,fun p c hd j=> ?_,fun p q c hd X j W=> ?_,fun p c i y j N=> ?_,fun p c i M j N=> ?_,fun c i N=> ?_,R.Ji,R.z0,R.zp,R.gh.keep L (fun c wr K H j=> ?_) rfl (fun c id T V=>Q T (fun e=>R.gh.loc c id T o V D (e▸P))) (by omega) R.gh.kS (fun c id T p V hd=>R.gh.loc c id T p V (alive p hd))⟩,L⟩
 ·by_cases y:p=o
  ·subst y;rw[I];exact hx L
  ·rw[O p y];exact Qf.mono L (.inr rfl) (fun hd c j=>Q c (fun e=>y (R.nA p o b hd D (e▸j) P))) (R.ob p)
 ·have y:p≠o:=fun e=>U (e▸R.alive D);rw[O p y];exact R.dead p U
 ·have:=R.home p c (alive p hd) j;omega
 ·exact R.nA p q c (alive p hd) (alive q X) j W
 ·by_cases e:p=o
  ·subst e;rw[P]at j;cases j;exact R.kS p b i J P N
  ·rw[O p e]at y;exact R.kS p c i y j N
 ·by_cases e:p=o
  ·subst e;rw[I]at M;exact absurd M S
  ·rw[O p e]at M;exact R.Mv p c i M j N
 ·have:=R.Mw c i N;omega
 ·by_cases e:c=o
  ·subst e;rw[I]at j;rw[j]at E;cases E
  ·rw[O c e]at j;exact j
structure Fz (h:bm) (g:G) (h1:bm) (g1:G):Prop where
 al:g1.al=g.al
 gl:∀c id b,GL h1 g1 c id b→GL h g c id b
theorem Fz.refl(h:bm)(g:G):Fz h g h g:=⟨rfl,fun _ _ _ h=>h⟩
theorem Fz.trans{i j:bm}{g1 g2:G}(a:Fz h g i g1)(b:Fz i g1 j g2):Fz h g j g2:=⟨b.al.trans a.al,fun c id x y=>a.gl c id x (b.gl c id x y)⟩
theorem HR.freeze(R:HR w0 Z0 Zp h g w){o:Nat}{e:Ty}{l:List e.den}(ho:look .dead o h= .row e l):
  ∃g',HR w0 Z0 Zp ((o,.xq e l)::h) g' w∧Le Zp h g w ((o,.xq e l)::h) g' w∧Fz h g ((o,.xq e l)::h) g':=by
 have U:=R.ob o;rw[ho]at U;obtain⟨h0,Y,b,P,e0,S,T,hpr⟩:=U;have I:look .dead o h≠.dead:=by rw[ho];simp
 have hbb:=R.home o b I S;have M:∀p,p≠o→look .dead p ((o,Ob.xq e l)::h)=look .dead p h:=fun p hne=>by rw[aW,if_neg (Ne.symm hne)]
 have J:look .dead o ((o,Ob.xq e l)::h)= .xq e l:=by rw[aW,if_pos rfl]
 have alive:∀p,look .dead p ((o,Ob.xq e l)::h)≠.dead→look .dead p h≠.dead:=fun p E=>by
  by_cases e:p=o
  ·subst e;exact I
  ·rw[←M p e];exact E
 let g':G:={ g with Z:=fun c i=>g.Z c i∨(c=b∧i<P.size) }
 have L:Le Zp h g w ((o,.xq e l)::h) g' w:=by
  refine⟨fun o X=>X,fun c i j=>⟨.inl j,rfl⟩,dG.refl _ _,fun p _=> ?_,fun _ _ _=>rfl,fun _ _ _=>⟨rfl,fun _ _=>rfl⟩,fun _ _ _ h=>h⟩
  by_cases E:p=o
  ·subst E;rw[J,ho];exact .inr (.inr (.inr (.inl ⟨_,rfl,rfl⟩)))
  ·rw[M p E];exact Ob.to.refl _
 refine⟨g',⟨R.ext,fun p=> ?_,fun p X=> ?_,fun p c hd D=>R.home p c (alive p hd) D,fun p q c hd hd' D hc'=>R.nA p q c (alive p hd) (alive q hd') D hc',fun p c i E D j=> ?_,fun p c i V D j=> ?_,fun c i j=> ?_,fun c i D j=> ?_,fun c i j=> .inl (R.z0 c i j),R.zp,R.gh.keep L (fun c wr K H D=> ?_) rfl (fun c id b Q=>rfl) (az _) (fun c id O i Q j=> ?_) (fun c id O p Q hd=>R.gh.loc c id O p Q (alive p hd))⟩,L,rfl,fun c id O ⟨wr,K,H,x,e',W,h2,h3,h4⟩=>⟨wr,K,H,x,e',?_,h2,h3,h4⟩⟩
 ·by_cases E:p=o
  ·subst E;rw[J];exact⟨h0,Y,b,P,e0,(0,0),S,T,dR.mono (fun x es hx=>PR.mono L.z L.zp _ _ _ hx) _ _ hpr,fun i hi=> .inr ⟨rfl,hi⟩⟩
  ·rw[M p E];exact Qf.mono L (.inr rfl) (fun _ _ _=>rfl) (R.ob p)
 ·have E:p≠o:=fun e=>X (e▸R.alive I);rw[M p E];exact R.dead p X
 ·by_cases N:p=o
  ·subst N;rw[J]at E;simp[Ob.open?]at E
  ·rw[M p N]at E;rcases j with j |⟨y,_⟩
   ·exact R.kS p c i E D j
   ·exact N (R.nA p o b (by intro hd;rw[hd]at E;simp[Ob.open?]at E) I (y▸D) S)
 ·by_cases N:p=o
  ·subst N;rw[J]at V;cases V
  ·rw[M p N]at V;rcases j with j |⟨y,_⟩
   ·exact R.Mv p c i V D j
   ·exact absurd (R.nA p o b (by rw[V];simp) I (y▸D) S) N
 ·rcases j with j |⟨y,_⟩
  ·exact R.Mw c i j
  ·rw[y];exact hbb.2
 ·rcases j with j |⟨y,_⟩
  ·exact R.Ji c i D j
  ·rw[y]at D;omega
 ·by_cases e:c=o
  ·subst e;rw[J]at D;cases D
  ·rw[M c e]at D;exact D
 ·rcases j with j |⟨y,_⟩
  ·exact R.gh.kS c id O i Q j
  ·exact R.gh.loc c id O o Q I (y▸S)
 ·by_cases ec:c=o
  ·subst ec;rw[J]at W;cases W
  ·rw[M c ec]at W;exact W
theorem HR.called(R:HR w0 Z0 Zp h g w)(D:w.Extends w'):
  let g':G:={ g with Z:=fun b i=>g.Z b i∨(w.heap.size≤b∧b<w'.heap.size) }
  HR w0 Z0 Zp h g' w'∧Le Zp h g w h g' w':=by
 intro g';have L:Le Zp h g w h g' w':=by
  refine⟨fun o N=>N,fun c i j=>⟨.inl j,D.cell _ (R.Mw c i j)⟩,R.zpk (fun c y _=>D.block c (ca y R.im)) R.zp,fun p _=>Ob.to.refl _,fun _ _ _=>rfl,fun p _ H=>⟨rfl,fun c y=>D.block c (R.home p c (by rw[H];simp) y).2⟩,fun _ _ _ h=>h⟩
 have K:=D.size;refine⟨⟨R.ext.trans D,fun p=>Qf.mono L (.inr rfl) (fun hd c y=>D.block c (R.home p c hd y).2) (R.ob p),R.dead,fun p c hd y=> ?_,R.nA,fun p c i J y j=> ?_,fun p c i H y j=> ?_,fun c i j=> ?_,fun c i y j=> ?_,fun c i j=> .inl (R.z0 c i j),R.zp,R.gh.keep L (fun _ _ _ _ y=>y) rfl (fun c id b E=>D.block b (R.gh.lt c id b E)) K (fun c id b i E j=> ?_) R.gh.loc⟩,L⟩
 ·have:=R.home p c hd y;exact⟨this.1,by omega⟩
 ·rcases j with j |⟨I,_⟩
  ·exact R.kS p c i J y j
  ·have:=R.home p c (by intro hd;rw[hd]at J;simp[Ob.open?]at J) y;omega
 ·rcases j with j |⟨I,_⟩
  ·exact R.Mv p c i H y j
  ·have:=R.home p c (by rw[H];simp) y;omega
 ·rcases j with j |⟨_,M⟩
  ·have:=R.Mw c i j;omega
  ·exact M
 ·rcases j with j |⟨I,_⟩
  ·exact R.Ji c i y j
  ·have:=R.im;omega
 ·rcases j with j |⟨I,_⟩
  ·exact R.gh.kS c id b i E j
  ·have:=R.gh.lt c id b E;omega
end
def Ul{α:Type}(f:Nat→Nat→Option α)(c id:Nat)(e:α)(b a:Nat):Option α:=if b=c∧a=id then some e else f b a
theorem rK{α:Type}(f:Nat→Nat→Option α)(c id:Nat)(e:α):Ul f c id e c id=some e:=by simp[Ul]
theorem uJ{α:Type}(f:Nat→Nat→Option α){c id b a:Nat}(e:α)(h:¬ (b=c∧a=id)):Ul f c id e b a=f b a:=by simp[Ul,h]
section
variable {w0:W0} {w w':World} {Z0 Zp:cD} {h h':bm} {g g':G}
theorem HR.ajX(R:HR w0 Z0 Zp h g w){c:Nat}{K:GK}{H S:List (Option K.xp)}(ho:look .dead c h= .gh true K H)(Z':cD)(Q:Nat→Nat→Option (Nat×Nat×Nat×Nat))
  (hZ:∀b i,g.Z b i→Z' b i) (hZn:∀b i,Z' b i→g.Z b i∨∃id,GL h g c id b)
  (hpo:∀D J e,g.pm D J=some e→Q D J=some e) (Y:∀D J e,Q D J=some e→g.pm D J=some e∨(D=c∧J=H.length∧S.length=H.length+1∧(w.heap.size≤e.1∧e.1<w'.heap.size∨∃id,GL h g c id e.1∧∀x,S[id]? ≠some (some x))∧(∀V,K= .bf V→e.2.2.2=V.size)))
  (hlen:H.length≤S.length) (aAL:S.length≤H.length+1)
  (awX:∀(id:Nat) x,id<H.length→S[id]? =some (some x)→∃y,H[id]? =some (some y))
  (awY:∀id b i,GL h g c id b→Z' b i→(∃x,S[id]? =some (some x))→False)
  (au9:∀id b e x,GL h g c id b→Q c H.length=some e→e.1=b→S[H.length]? =some (some x)→∀i,¬ Z' b i)
  (hw:∀b,b<w.heap.size→(∀id,¬ GL h g c id b)→w'.heap[b]? =w.heap[b]?) (hcell:∀b i,g.Z b i→w'.cell? ⟨b,i,none⟩=w.cell? ⟨b,i,none⟩) (hs:w.heap.size≤w'.heap.size) (he:w0.Extends w')
  (azd:Le Zp h g w ((c,.gh true K S)::h) { g with Z:=Z',pm:=Q } w'→∀(id:Nat) x,S[id]? =some (some x)→uI w' w0.heap.size Zp ((c,.gh true K S)::h) { g with Z:=Z',pm:=Q } c id K x):
  HR w0 Z0 Zp ((c,.gh true K S)::h) { g with Z:=Z',pm:=Q } w'∧Le Zp h g w ((c,.gh true K S)::h) { g with Z:=Z',pm:=Q } w':=by
 have lk:∀p,p≠c→look .dead p ((c,Ob.gh true K S)::h)=look .dead p h:=fun p hne=>by rw[aW,if_neg (Ne.symm hne)]
 have N:look .dead c ((c,Ob.gh true K S)::h)= .gh true K S:=by rw[aW,if_pos rfl]
 have hal:look .dead c h≠.dead:=by rw[ho];simp
 have hmc:g.hm c=none:=by have:=R.ob c;rw[ho]at this;exact this
 have alive:∀p,look .dead p ((c,Ob.gh true K S)::h)≠.dead→look .dead p h≠.dead:=fun p P=>by
  by_cases e:p=c
  ·subst e;exact hal
  ·rw[←lk p e];exact P
 have hown:∀id b,GL h g c id b→w0.heap.size≤b∨w0.B b:=fun id b ⟨wr,K1,H1,x,e,j,E,h3,W⟩=>by
  rw[ho]at j;cases j;subst W;exact R.gh.own c K H id x e ho E h3
 have hhm:∀o b,look .dead o h≠.dead→g.hm o=some b→w'.heap[b]? =w.heap[b]? :=fun o b hd O=>hw b (R.home o b hd O).2 fun id hG=>R.gh.loc c id b o hG hd O
 have ava:∀D J b,D≠c→GL h g D J b→w'.heap[b]? =w.heap[b]? :=fun D J b hne hG=>hw b (R.gh.lt _ _ _ hG) fun id hG2=>hne (R.gh.nA _ _ _ _ _ hG hG2).1
 have L:Le Zp h g w ((c,.gh true K S)::h) { g with Z:=Z',pm:=Q } w':=by
  refine⟨fun o ha=>ha,fun b i T=>⟨hZ b i T,hcell b i T⟩,R.zpk (fun b O hB=>hw b (ca O R.im) fun id hG=> ?_) R.zp,fun p _=> ?_,fun _ _ _=>rfl,fun p _ ht=>⟨rfl,fun b O=> ?_⟩,hpo⟩
  ·rcases hown id b hG with j |j
   ·omega
   ·exact hB j
  ·by_cases P:p=c
   ·subst P;rw[N,ho];exact .inr (.inr (.inr (.inr (.inr (.inl ⟨_,_,_,rfl,rfl⟩)))))
   ·rw[lk p P];exact Ob.to.refl _
  ·have P:p≠c:=by intro P;subst P;rw[N]at ht;cases ht
   rw[lk p P]at ht;exact hhm p b (by rw[ht];simp) O
 have X:∀D J b,GL ((c,.gh true K S)::h) { g with Z:=Z',pm:=Q } D J b→(GL h g D J b∧(D=c→∃x,S[J]? =some (some x)))∨
   (D=c∧J=H.length∧(∃x,S[J]? =some (some x))∧(∃e,Q c H.length=some e∧e.1=b)∧((w.heap.size≤b∧b<w'.heap.size)∨∃id,GL h g c id b∧∀x,S[id]? ≠some (some x))):=by
  rintro D J b ⟨wr,K1,H1,x,e,j,E,h3,W⟩
  by_cases M:D=c
  ·subst M;rw[N]at j;cases j;rcases Y _ _ _ h3 with I |⟨_,I,h6,h7,_⟩
   ·have hlt:J<H.length:=by
     rcases Nat.lt_or_ge J H.length with h |h
     ·exact h
     ·rw[R.gh.fresh D true K H J ho h]at I;cases I
    obtain⟨y,hy⟩:=awX J x hlt E;exact .inl ⟨⟨true,K,H,y,e,ho,hy,I,W⟩,fun _=>⟨x,E⟩⟩
   ·subst I;subst W;exact .inr ⟨rfl,rfl,⟨x,E⟩,⟨e,h3,rfl⟩,h7⟩
  ·rw[lk D M]at j;rcases Y _ _ _ h3 with I |⟨I,_⟩
   ·exact .inl ⟨⟨wr,K1,H1,x,e,j,E,I,W⟩,fun h=>absurd h M⟩
   ·exact absurd I M
 refine⟨⟨he,fun p=> ?_,fun p ha=> ?_,fun p b hd O=> ?_,fun p q b hd hd' O hb'=>R.nA p q b (alive p hd) (alive q hd') O hb',fun p b i P O T=> ?_,fun p b i ht O T=> ?_,fun b i T=> ?_,fun b i O T=> ?_,fun b i T=>hZ b i (R.z0 b i T),R.zp,?_⟩,L⟩
 ·by_cases P:p=c
  ·subst P;rw[N];exact hmc
  ·rw[lk p P];exact Qf.mono L (.inr rfl) (fun hd b O=>hhm p b hd O) (R.ob p)
 ·have P:p≠c:=fun e=>ha (e▸R.alive hal);rw[lk p P];exact R.dead p ha
 ·have:=R.home p b (alive p hd) O;exact⟨this.1,by omega⟩
 ·by_cases e:p=c
  ·subst e;rw[N]at P;cases P
  ·rw[lk p e]at P;rcases hZn b i T with j |⟨id,j⟩
   ·exact R.kS p b i P O j
   ·exact R.gh.loc c id b p j (by intro hd;rw[hd]at P;cases P) O
 ·by_cases e:p=c
  ·subst e;rw[N]at ht;cases ht
  ·rw[lk p e]at ht;rcases hZn b i T with j |⟨id,j⟩
   ·exact R.Mv p b i ht O j
   ·exact(R.gh.loc c id b p j (by rw[ht];simp) O).elim
 ·rcases hZn b i T with j |⟨id,j⟩
  ·have:=R.Mw b i j;omega
  ·have:=R.gh.lt _ _ _ j;omega
 ·rcases hZn b i T with j |⟨id,j⟩
  ·exact R.Ji b i O j
  ·rcases hown id b j with E |E
   ·omega
   ·exact .inr E
 ·refine⟨fun D wr K1 H1 id x j E=> ?_,fun D wr K1 H1 id j E=> ?_,fun D id b j=> ?_,fun D K1 H1 id x e j E h3=> ?_,fun c1 id1 c2 U b j E=> ?_,fun D id b i j T=> ?_,fun D id b o j hd O=> ?_,fun D wr V H1 id e j E=> ?_,fun D id e j=>hpo _ _ _ (R.gh.old D id e j),fun D K1 H1 j=> ?_,fun D id b i j T=> ?_,fun D wr K1 H1 j=> ?_,fun D K1 H1 j=> ?_,fun D id e j=> ?_⟩
  ·by_cases M:D=c
   ·subst M;rw[N]at j;cases j;exact azd L id x E
   ·rw[lk D M]at j;exact uI.mono L (fun e he=>ava D id e.1 M ⟨wr,K1,H1,x,e,j,E,he,rfl⟩) _ _ (R.gh.xp D wr K1 H1 id x j E)
  ·cases P:Q D id with
   |none=>exact P
   |some e=>
    exfalso
    by_cases M:D=c
    ·subst M;rw[N]at j;cases j;rcases Y _ _ _ P with I |⟨_,I,h6,_⟩
     ·rw[R.gh.fresh D true K H id ho (by omega)]at I;cases I
     ·omega
    ·rw[lk D M]at j;rcases Y _ _ _ P with I |⟨I,_⟩
     ·rw[R.gh.fresh D wr K1 H1 id j E]at I;cases I
     ·exact M I
  ·rcases X D id b j with⟨E,_⟩|⟨_,_,_,_,E⟩
   ·have:=R.gh.lt _ _ _ E;omega
   ·rcases E with E |⟨U,E,_⟩
    ·exact E.2
    ·have:=R.gh.lt _ _ _ E;omega
  ·by_cases M:D=c
   ·subst M;rw[N]at j;cases j;rcases X D id e.1 ⟨true,K,S,x,e,N,E,h3,rfl⟩with⟨W,_⟩|⟨_,_,_,_,W⟩
    ·exact hown id _ W
    ·rcases W with W |⟨U,W,_⟩
     ·have:=R.im;exact .inl (by omega)
     ·exact hown U _ W
   ·rw[lk D M]at j;rcases Y _ _ _ h3 with I |⟨I,_⟩
    ·exact R.gh.own D K1 H1 id x e j E I
    ·exact absurd I M
  ·rcases X c1 id1 b j with⟨h3,h3'⟩|⟨h3,W,h4',_,I⟩
   ·rcases X c2 U b E with⟨k3,k3'⟩|⟨k3,k4,k4',_,k5⟩
    ·exact R.gh.nA _ _ _ _ _ h3 k3
    ·exfalso;rcases k5 with k5 |⟨id,k5,k6⟩
     ·have:=R.gh.lt _ _ _ h3;omega
     ·obtain⟨e1,e2⟩:=R.gh.nA _ _ _ _ _ h3 k5;obtain⟨x,hx⟩:=h3' e1;exact k6 x (e2▸hx)
   ·rcases X c2 U b E with⟨k3,k3'⟩|⟨k3,k4,k4',_,k5⟩
    ·exfalso;rcases I with I |⟨id,I,h6⟩
     ·have:=R.gh.lt _ _ _ k3;omega
     ·obtain⟨e1,e2⟩:=R.gh.nA _ _ _ _ _ k3 I;obtain⟨x,hx⟩:=k3' e1;exact h6 x (e2▸hx)
    ·exact⟨h3.trans k3.symm,W.trans k4.symm⟩
  ·rcases X D id b j with⟨E,h2'⟩|⟨E,h3,⟨x,hx⟩,⟨e,hpe,heb⟩,W⟩
   ·by_cases M:D=c
    ·subst M;exact awY id b i E T (h2' rfl)
    ·rcases hZn b i T with I |⟨U,I⟩
     ·exact R.gh.kS _ _ _ _ E I
     ·exact M (R.gh.nA _ _ _ _ _ E I).1
   ·rcases W with W |⟨U,W,_⟩
    ·rcases hZn b i T with I |⟨id3,I⟩
     ·have:=R.Mw b i I;omega
     ·have:=R.gh.lt _ _ _ I;omega
    ·subst h3;exact au9 U b e x W hpe heb hx i T
  ·have hd:=alive o hd;rcases X D id b j with⟨E,_⟩|⟨_,_,_,_,E⟩
   ·exact R.gh.loc _ _ _ o E hd O
   ·rcases E with E |⟨U,E,_⟩
    ·have:=(R.home o b hd O).2;omega
    ·exact R.gh.loc _ _ _ o E hd O
  ·by_cases M:D=c
   ·subst M;rw[N]at j;cases j;rcases Y _ _ _ E with I |⟨_,_,_,_,I⟩
    ·exact R.gh.psz D true V H id e ho I
    ·exact I V rfl
   ·rw[lk D M]at j;rcases Y _ _ _ E with I |⟨I,_⟩
    ·exact R.gh.psz D wr V H1 id e j I
    ·exact absurd I M
  ·by_cases M:D=c
   ·subst M;rw[N]at j;cases j
   ·rw[lk D M]at j;exact R.gh.ro D K1 H1 j
  ·rcases X D id b j with⟨E,_⟩|⟨_,_,_,_,E⟩
   ·exact R.gh.zpx _ _ _ _ E T
   ·rcases E with E |⟨U,E,_⟩
    ·have:=(R.zp b i T).1;have:=R.im;omega
    ·exact R.gh.zpx _ _ _ _ E T
  ·by_cases M:D=c
   ·subst M;rw[N]at j;cases j;exact R.gh.kok _ _ _ _ ho
   ·rw[lk D M]at j;exact R.gh.kok D wr K1 H1 j
  ·by_cases M:D=c
   ·subst M;exact R.gh.wsr _ _ _ ho
   ·rw[lk D M]at j;exact R.gh.wsr D K1 H1 j
  ·rcases Y _ _ _ j with I |⟨I,_⟩
   ·exact R.gh.new D id e I
   ·exact .inr (I▸R.gh.wsr _ _ _ ho)
theorem Le.same(i:∀o,look .dead o h=look .dead o h'):Le Zp h g w h' g w:=
 ⟨fun _ h=>h,dG.refl _ _,dG.refl _ _,fun o _=>by rw[i o];exact Ob.to.refl _,fun _ _ _=>rfl,fun _ _ _=>⟨rfl,fun _ _=>rfl⟩,fun _ _ _ h=>h⟩
theorem GHR.auA(R:GHR w0 Zp h g w)(D:∀c wr K H,look .dead c h'= .gh wr K H→look .dead c h= .gh wr K H)(I:g'.pm=g.pm)
  (hz:∀c id b i,GL h g c id b→¬ g'.Z b i) (P:∀c id b o,GL h g c id b→look .dead o h'≠.dead→g'.hm o=some b→False) (L:∀c id K x,K.ok=true→uI w w0.heap.size Zp h g c id K x→uI w w0.heap.size Zp h' g' c id K x):
  GHR w0 Zp h' g' w:=by
 have E:∀c id b,GL h' g' c id b→GL h g c id b:=fun c id b ⟨wr,K,H,x,e,j,y,J,O⟩=>⟨wr,K,H,x,e,D _ _ _ _ j,y,I▸J,O⟩;exact⟨fun c wr K H id x j y=>L c id K x (R.kok c wr K H (D _ _ _ _ j)) (R.xp c wr K H id x (D _ _ _ _ j) y),fun c wr K H id j y=>by rw[I];exact R.fresh c wr K H id (D _ _ _ _ j) y,fun c id b j=>R.lt c id b (E _ _ _ j),fun c K H id x e j y J=>R.own c K H id x e (D _ _ _ _ j) y (I▸J),
  fun c id N M b j y=>R.nA c id N M b (E _ _ _ j) (E _ _ _ y),fun c id b i j=>hz c id b i (E _ _ _ j),fun c id b o j=>P c id b o (E _ _ _ j),fun c wr V H id e j y=>R.psz c wr V H id e (D _ _ _ _ j) (I▸y),fun c id e j=>by rw[I];exact R.old c id e j,
  fun c K H j=>R.ro c K H (D _ _ _ _ j),fun c id b i j=>R.zpx c id b i (E _ _ _ j),fun c wr K H j=>R.kok c wr K H (D _ _ _ _ j),fun c K H j=>R.wsr c K H (D _ _ _ _ j),fun c id e j=>R.new c id e (I▸j)⟩
theorem HR.same(R:HR w0 Z0 Zp h g w)(j:∀o,look .dead o h=look .dead o h'):HR w0 Z0 Zp h' g w:=by
 refine⟨R.ext,fun o=> ?_,fun o D=>by rw[←j o];exact R.dead o D,fun o b hd y=>R.home o b (by rw[j o];exact hd) y,fun o p b hd I y E=>R.nA o p b (by rw[j o];exact hd) (by rw[j p];exact I) y E,
  fun o b i D y=>R.kS o b i (by rw[j o];exact D) y,fun o b i D y=>R.Mv o b i (by rw[j o];exact D) y,R.Mw,R.Ji,R.z0,R.zp,
  R.gh.keep (Le.same j) (fun c wr K H L=>by rw[j c];exact L) rfl (fun _ _ _ _=>rfl) (az _) R.gh.kS (fun c id b o J hd=>R.gh.loc c id b o J (by rw[j o];exact hd))⟩
 rw[←j o];exact Qf.mono (Le.same j) (.inr rfl) (fun _ _ _=>rfl) (R.ob o)
theorem HR.uG(R:HR w0 Z0 Zp h g w){c id b:Nat}{K:GK}{H:List (Option K.xp)}{y x:K.xp}{e:Nat×Nat×Nat×Nat}(J:look .dead c h= .gh true K H)(S:H[id]? =some (some y))(Y:g.pm c id=some e)(U:e.1=b)
  (Q:∀c,c≠b→w'.heap[c]? =w.heap[c]?) (hs:w'.heap.size=w.heap.size) (W:w0.Extends w')
  (hx:Le Zp h g w ((c,.gh true K (H.set id (some x)))::h) g w'→uI w' w0.heap.size Zp ((c,.gh true K (H.set id (some x)))::h) g c id K x):
  HR w0 Z0 Zp ((c,.gh true K (H.set id (some x)))::h) g w'∧Le Zp h g w ((c,.gh true K (H.set id (some x)))::h) g w':=by
 have N:GL h g c id b:=⟨true,K,H,y,e,J,S,Y,U⟩;have P:id<H.length:=(List.getElem?_eq_some_iff.1 S).1;refine R.ajX J g.Z g.pm (fun _ _ h=>h) (fun _ _ h=> .inl h) (fun _ _ _ h=>h) (fun _ _ _ h=> .inl h) (by simp) (by simp) (fun i z hi D=> ?_) (fun i I j E M _=>R.gh.kS _ _ _ _ E M) (fun i I T x' E M h3 h4=> ?_) (fun I V X=>Q I fun h=>X id (h▸N))
  (fun I i D=>bW (Q I fun h=>R.gh.kS _ _ _ i N (h▸D))) (by omega) W fun L i z D=> ?_
 ·by_cases E:id=i
  ·subst E;exact⟨y,S⟩
  ·rw[dq E]at D;exact⟨z,D⟩
 ·rw[R.gh.fresh c true K H H.length J (az _)]at M;cases M
 ·by_cases E:id=i
  ·subst E;rw[fl P]at D
   cases D;exact hx L
  ·rw[dq E]at D;exact uI.mono L (fun T O=>Q _ fun h=>E ((R.gh.nA _ _ _ _ _ N ⟨true,K,H,z,T,J,D,O,h⟩).2)) _ _ (R.gh.xp c true K H i z J D)
theorem HR.eE(R:HR w0 Z0 Zp h g w){c k cap sz:Nat}{K:GK}{H:List (Option K.xp)}{x:K.xp}(P:look .dead c h= .gh true K H){y:Obj}(hw:w'.heap=w.heap.push y)(he:w0.Extends w')(X:∀V,K= .bf V→sz=V.size){g':G}(hg:g'={ g with pm:=Ul g.pm c H.length (w.heap.size,k,cap,sz) })
  (hx:Le Zp h g w ((c,.gh true K (eE H x))::h) g' w'→uI w' w0.heap.size Zp ((c,.gh true K (eE H x))::h) g' c H.length K x):
  HR w0 Z0 Zp ((c,.gh true K (eE H x))::h) g' w'∧Le Zp h g w ((c,.gh true K (eE H x))::h) g' w':=by
 subst hg;have I:∀b:Nat,b<w.heap.size→w'.heap[b]? =w.heap[b]? :=fun b hb=>by rw[hw,Array.getElem?_push,if_neg (Nat.ne_of_lt hb)]
 have hws:w'.heap.size=w.heap.size+1:=by rw[hw];simp
 have U:=R.gh.fresh c true K H H.length P (az _);have W:∀M E e,g.pm M E=some e→¬ (M=c∧E=H.length):=fun M E e J ⟨N,Q⟩=>by subst N;subst Q;rw[U]at J;cases J
 refine R.ajX P g.Z (Ul g.pm c H.length (w.heap.size,k,cap,sz)) (fun _ _ h=>h) (fun _ _ h=> .inl h) (fun M E e h=>by rw[uJ _ _ (W _ _ _ h)];exact h) (fun M E e h=> ?_) (by simp[Go.Am.eE]) (by simp[Go.Am.eE]) (fun i z hi D=> ?_) (fun i O j J N _=>R.gh.kS _ _ _ _ J N) (fun i O Y x' J N Q h4=> ?_) (fun O S _=>I O S)
  (fun O i D=>bW (I O (R.Mw _ _ D))) (by omega) he fun L i z D=> ?_
 ·by_cases J:M=c∧E=H.length
  ·obtain⟨rfl,rfl⟩:=J;rw[rK]at h
   cases h;exact .inr ⟨rfl,rfl,by simp[Go.Am.eE],.inl ⟨az _,by simp only;omega⟩,X⟩
  ·rw[uJ _ _ J]at h;exact .inl h
 ·simp only[Go.Am.eE]at D;rw[aP hi]at D;exact⟨z,D⟩
 ·rw[rK]at N
  cases N;have:=R.gh.lt _ _ _ J;simp only at Q;omega
 ·simp only[Go.Am.eE]at D;rcases Nat.lt_or_ge i H.length with hi |hi
  ·rw[aP hi]at D;exact uI.mono L (fun Y T=>I _ (R.gh.lt c i _ ⟨true,K,H,z,Y,P,D,T,rfl⟩)) _ _ (R.gh.xp c true K H i z P D)
  ·rw[bc hi]at D;have:i=H.length:=by
    rcases Nat.lt_or_ge (i -H.length) 1 with h |h
    ·omega
    ·rw[bd (by simpa using h)]at D;cases D
   subst this;simp at D;subst D;exact hx L
theorem HR.auB(R:HR w0 Z0 Zp h g w){c id b k cap sz:Nat}{K:GK}{H:List (Option K.xp)}{y x:K.xp}{e:Nat×Nat×Nat×Nat}(S:look .dead c h= .gh true K H)(hy:H[id]? =some (some y))(hp:g.pm c id=some e)(hb:e.1=b)
  (hw:∀c,c≠b→w'.heap[c]? =w.heap[c]?) (hs:w'.heap.size=w.heap.size) (he:w0.Extends w') (Y:∀V,K= .bf V→sz=V.size) {g':G} (hg:g'={ g with pm:=Ul g.pm c H.length (b,k,cap,sz) })
  (hx:Le Zp h g w ((c,.gh true K (Go.Am.eE (H.set id none) x))::h) g' w'→uI w' w0.heap.size Zp ((c,.gh true K (Go.Am.eE (H.set id none) x))::h) g' c H.length K x):
  HR w0 Z0 Zp ((c,.gh true K (Go.Am.eE (H.set id none) x))::h) g' w'∧Le Zp h g w ((c,.gh true K (Go.Am.eE (H.set id none) x))::h) g' w':=by
 subst hg;have T:GL h g c id b:=⟨true,K,H,y,e,S,hy,hp,hb⟩;have Q:id<H.length:=(List.getElem?_eq_some_iff.1 hy).1;have W:=R.gh.fresh c true K H H.length S (az _);have X:∀O I e,g.pm O I=some e→¬ (O=c∧I=H.length):=fun O I e E ⟨N,h3⟩=>by subst N;subst h3;rw[W]at E;cases E
 have J:∀z:K.xp,(Go.Am.eE (H.set id none) x)[id]? ≠some (some z):=fun z D=>by
  simp only[Go.Am.eE]at D;rw[aP (by simpa using Q),fl Q]at D
  cases D
 have M:∀(i:Nat) (z:K.xp),i<H.length→(Go.Am.eE (H.set id none) x)[i]? =some (some z)→i≠id∧H[i]? =some (some z):=fun i z hi D=>by
  have E:i≠id:=by intro h;subst h;exact J z D
  simp only[Go.Am.eE]at D;rw[aP (by simpa using hi),dq (Ne.symm E)]at D;exact⟨E,D⟩
 refine R.ajX S g.Z (Ul g.pm c H.length (b,k,cap,sz)) (fun _ _ h=>h) (fun _ _ h=> .inl h) (fun O I e h=>by rw[uJ _ _ (X _ _ _ h)];exact h) (fun O I e h=> ?_) (by simp[Go.Am.eE]) (by simp[Go.Am.eE]) (fun i z hi D=>⟨z,(M i z hi D).2⟩) (fun i P j E N _=>R.gh.kS _ _ _ _ E N) (fun i P e' x' E N h3 h4 j=> ?_) (fun P hb' hn=>hw P fun h=>hn id (h▸T))
  (fun P i D=>bW (hw P fun h=>R.gh.kS _ _ _ i T (h▸D))) (by omega) he fun L i z D=> ?_
 ·by_cases E:O=c∧I=H.length
  ·obtain⟨rfl,rfl⟩:=E;rw[rK]at h
   cases h;exact .inr ⟨rfl,rfl,by simp[Go.Am.eE],.inr ⟨id,T,J⟩,Y⟩
  ·rw[uJ _ _ E]at h;exact .inl h
 ·exact R.gh.kS _ _ _ _ E
 ·rcases Nat.lt_or_ge i H.length with hi |hi
  ·obtain⟨E,N⟩:=M i z hi D;exact uI.mono L (fun e' U=>hw _ fun h=>E ((R.gh.nA _ _ _ _ _ ⟨true,K,H,z,e',S,N,U,h⟩ T).2)) _ _ (R.gh.xp c true K H i z S N)
  ·simp only[Go.Am.eE]at D;rw[bc (by simpa using hi)]at D;have:i=H.length:=by
    rcases Nat.lt_or_ge (i -H.length) 1 with h |h
    ·omega
    ·rw[bd (by simpa using h)]at D;cases D
   subst this;simp at D;subst D;exact hx L
theorem HR.aw2(R:HR w0 Z0 Zp h g w){c id b:Nat}{K:GK}{H:List (Option K.xp)}{y:K.xp}{e:Nat×Nat×Nat×Nat}(N:look .dead c h= .gh true K H)(S:H[id]? =some (some y))(V:g.pm c id=some e)(T:e.1=b)(P:Bool){g':G}(U:g'={ g with Z:=fun I i=>g.Z I i∨(P=true∧I=b) }):
  HR w0 Z0 Zp ((c,.gh true K (H.set id none))::h) g' w∧Le Zp h g w ((c,.gh true K (H.set id none))::h) g' w:=by
 subst U;have Q:GL h g c id b:=⟨true,K,H,y,e,N,S,V,T⟩;have O:id<H.length:=(List.getElem?_eq_some_iff.1 S).1;have D:∀(i:Nat) (z:K.xp),(H.set id none)[i]? =some (some z)→i≠id∧H[i]? =some (some z):=fun i z E=>by
  have M:i≠id:=by intro h;subst h;rw[fl O]at E;cases E
  rw[dq (Ne.symm M)]at E;exact⟨M,E⟩
 refine R.ajX N (fun I i=>g.Z I i∨(P=true∧I=b)) g.pm (fun _ _ h=> .inl h) (fun I i h=> ?_) (fun _ _ _ h=>h) (fun _ _ _ h=> .inl h) (by simp) (by simp) (fun i z hi E=>⟨z,(D i z E).2⟩) (fun i I j M J ⟨z,E⟩=> ?_) (fun i I W x' M J X Y=> ?_) (fun _ _ _=>rfl)
  (fun _ _ _=>rfl) (az _) R.ext fun L i z E=>uI.mono L (fun _ _=>rfl) _ _ (R.gh.xp c true K H i z N (D i z E).2)
 ·rcases h with h |⟨_,h⟩
  ·exact .inl h
  ·exact .inr ⟨id,h▸Q⟩
 ·rcases J with J |⟨_,J⟩
  ·exact R.gh.kS _ _ _ _ M J
  ·exact(D i z E).1 (R.gh.nA _ _ _ _ _ M (J▸Q)).2
 ·rw[R.gh.fresh c true K H H.length N (az _)]at J;cases J
end
def HM.eval(next:Nat):HM→bm→Log→Option (A×bm×Log)
 |.ret a,h,L=>some (a,h,L)
 |.fail,_,_=>none
 |.get o k,h,L=>(k (look .dead o h)).eval next h ((o,false)::L)
 |.set o x k,h,L=>match Nat.blt o next with
  |true=>k.eval next ((o,x)::h) ((o,true)::L)
  |false=>none
 |.opt x k,h,L=>x.bind fun b=>(k b).eval next h L
 |.br b x y,h,L=>match b with
  |true=>x.eval next h L
  |false=>y.eval next h L
theorem HM.run_eq{R:Type}(next:Nat)(K:A→bm→Log→Option R):∀(m:HM) (h:bm) (L:Log),m.run next h L K=(m.eval next h L).bind fun r=>K r.1 r.2.1 r.2.2
 |.ret a,h,L=>rfl
 |.fail,_,_=>rfl
 |.get o k,h,L=>by simp only[HM.run,HM.eval];exact HM.run_eq next K _ _ _
 |.set o x k,h,L=>by
  simp only[HM.run,HM.eval]
  cases Nat.blt o next with
  |true=>exact HM.run_eq next K _ _ _
  |false=>rfl
 |.opt x k,h,L=>by
  simp only[HM.run,HM.eval]
  cases x with
  |none=>rfl
  |some b=>exact HM.run_eq next K _ _ _
 |.br b x y,h,L=>by
  simp only[HM.run,HM.eval]
  cases b with
  |true=>exact HM.run_eq next K _ _ _
  |false=>exact HM.run_eq next K _ _ _
section
variable {next:Nat} {h:bm} {L:Log} {res:A×bm×Log}
theorem gH{a:A}(e:(HM.ret a).eval next h L=some res):res=(a,h,L):=by simp[HM.eval]at e;exact e.symm
theorem aj(e:(HM.fail).eval next h L=some res):False:=by simp[HM.eval]at e
theorem cA{o:Nat}{k:Ob→HM}(e:(HM.get o k).eval next h L=some res):(k (look .dead o h)).eval next h ((o,false)::L)=some res:=e
theorem dS{o:Nat}{x:Ob}{k:HM}(e:(HM.set o x k).eval next h L=some res):k.eval next ((o,x)::h) ((o,true)::L)=some res:=by
 simp only[HM.eval]at e;split at e
 ·exact e
 ·cases e
theorem bG{β:Type}{x:Option β}{k:β→HM}(e:(HM.opt x k).eval next h L=some res):∃b,x=some b∧(k b).eval next h L=some res:=by
 cases x with
 |none=>simp[HM.eval]at e
 |some b=>exact⟨b,rfl,e⟩
end
def Ty.lK:Ty→List Value
 |.bool=>[.bool false]
 |.int k=>[.int k 0]
 |.str=>[.string ⟨#[]⟩]
 |.sl _=>[.slice none 0 0]
 |.pair a b=>a.lK++b.lK
 |.unit=>[]
 |.ref _=>[.pointer none]
 |.fn _=>[.nilFunc]
 |.cl _ _=>[.nilFunc]
def Ty.Jj:Ty→Bool
 |.fn _=>false
 |.cl _ _=>false
 |.pair a b=>a.Jj&&b.Jj
 |_=>true
def ajY:Value→Bool
 |.agg _=>true
 |_=>false
def aqj(d:TD):Bool:=
 match d.ty with
 |some τ=>bT τ.size d.size&&(τ.isAgg==d.agg)&&τ.cE&&τ.Jj
 |none=>true
def ahV(P:Program):Nat→List Field→List Ty→Bool
 |_,[],[]=>true
 |i,f::a,τ::τs=>(f.name != "_")&&bT f.offset i&&(match P.underlying f.type,τ with
  |some (.int k),.int q=>decide (k=q)
  |some .bool,.bool=>true
  |some .string,.str=>true
  |_,_=>false)&&ahV P (i+1) a τs
 |_,_,_=>false
def agv(P:Program)(t:TypeId)(τs:List Ty):Bool:=
 match P.underlying t with
 |some (.struct a)=> !P.stoodInHeld t&& !P.eqGuardType P.depth t&&ahV P 0 a.toList τs
 |_=>false
structure eH (P:Program) (t:TypeId) (d:TD):Prop where
 und:(P.underlying t).map BI=some d.desc
 agg:aoV d.desc=d.agg
 info:(P.info? t).map (fun i=>(i.size,i.bytes))=some (d.size,d.bytes)
 ty:aqj d=true
 eq:d.eq=[]∨agv P t d.eq=true
 zero:match d.zero,d.ty with
  |true,some τ=>(P.info? t).map (fun i=>i.zero.map fun z=>(z.cells.toList,ajY z))=some (some (τ.lK,d.agg))
  |true,none=>False
  |false,_=>True
def Yk(P:Program)(tt:List (TypeId×TD)):Prop:=∀p∈tt,eH P p.1 p.2
theorem Ei{α:Type}{t:Nat}{x:α}:∀{l:List (Nat×α)},cW t l=some x→(t,x)∈l
 |[],h=>by simp[cW]at h
 |(u,y)::r,h=>by
  simp only[cW]at h
  split at h
  ·rename_i a;cases h;rw[aA a];simp
  ·exact aG _ (Ei h)
theorem Yk.get{P:Program}{tt:List (TypeId×TD)}(H:Yk P tt){t:TypeId}{d:TD}(h:cW t tt=some d):eH P t d:=H _ (Ei h)
section
variable {P:Program} {t:TypeId} {d:TD} (T:eH P t d)
theorem eH.under(T:eH P t d):∃y,P.underlying t=some y∧BI y=d.desc:=by
 have:=T.und
 cases i:P.underlying t with
 |none=>simp[i]at this
 |some y=>exact⟨y,rfl,by simpa[i]using this⟩
theorem eH.slice(T:eH P t d){e:TypeId}(hd:d.desc= .slice e):P.underlying t=some (.slice e):=by
 obtain⟨y,j,i⟩:=T.under;rw[hd]at i
 cases y<;>simp[BI]at i;rw[j,i]
theorem eH.int(T:eH P t d){k:IntKind}(hd:d.desc= .int k):P.underlying t=some (.int k):=by
 obtain⟨y,j,i⟩:=T.under;rw[hd]at i
 cases y<;>simp[BI]at i;rw[j,i]
theorem eH.string(T:eH P t d)(hd:d.desc= .str):P.underlying t=some .string:=by
 obtain⟨y,j,i⟩:=T.under;rw[hd]at i
 cases y<;>simp[BI]at i;exact j
theorem eH.array(T:eH P t d){n:Nat}{e:TypeId}(hd:d.desc= .array n e):P.underlying t=some (.array n e):=by
 obtain⟨y,j,i⟩:=T.under;rw[hd]at i
 cases y<;>simp[BI]at i;rw[j,i.1,i.2]
theorem eH.struct(T:eH P t d){j:List (TypeId×Nat)}(hd:d.desc= .struct j):∃f:Array Field,P.underlying t=some (.struct f)∧f.toList.map (fun x=>(x.type,x.offset))=j:=by
 obtain⟨y,D,i⟩:=T.under;rw[hd]at i
 cases y<;>simp[BI]at i;exact⟨_,D,i⟩
theorem eH.inf(T:eH P t d):∃i,P.info? t=some i∧i.size=d.size∧i.bytes=d.bytes:=by
 have:=T.info
 cases j:P.info? t with
 |none=>simp[j]at this
 |some i=>exact⟨i,rfl,by simpa[j]using this⟩
theorem eH.sizeOf(T:eH P t d)(w:World):(sizeOf t).run P w= .ok d.size w:=by
 obtain⟨i,j,y,_⟩:=T.inf;simp[Go.sizeOf,typeInfo,j,y]
theorem eH.isAgg(T:eH P t d)(w:World):(isAgg t).run P w= .ok d.agg w:=by
 obtain⟨y,j,D⟩:=T.under;have i:=T.agg;rw[←D]at i;simp only[Go.isAgg,Sem.run_bind,run_underlying j,Result.andThen_ok]
 cases y<;>simp[BI,aoV]at i<;>simp[←i]
theorem eH.Um(T:eH P t d){τ:Ty}(h:d.ty=some τ):τ.size=d.size∧τ.isAgg=d.agg∧τ.cE=true∧τ.Jj=true:=by
 have:=T.ty;simp only[aqj,h,ak]at this;exact⟨aA this.1.1.1,by simpa using this.1.1.2,this.1.2,this.2⟩
theorem eH.zeroV(T:eH P t d){τ:Ty}(hz:d.zero=true)(h:d.ty=some τ):∃i z,P.info? t=some i∧i.size=d.size∧i.bytes=d.bytes∧i.zero=some z∧z.cells.toList=τ.lK∧ajY z=d.agg:=by
 have y:=T.zero;rw[hz,h]at y;obtain⟨i,D,E,H⟩:=T.inf;simp only[D,Option.map_some,Option.some.injEq]at y
 cases j:i.zero with
 |none=>simp[j]at y
 |some z=>simp[j]at y;exact⟨i,z,D,E,H,j,y.1,y.2⟩
end
section
variable {P:Program} {w0:W0} {w:World} {Z0 Zp:cD} {h h':bm} {g:G} {new:Nat} {r:A}
def bY(P:Program)(w0:W0)(Z0 Zp:cD)(h:bm)(g:G)(w:World)(new:Nat)(res:Sem Next)(r:A)(h':bm):Prop:=
 ∃n v b a,res.run P w= .ok n b∧(n= .value v∨(n= .skip∧v=undef))∧HR w0 Z0 Zp h' a b∧Le Zp h g w h' a b∧AR b w0.heap.size Zp h' a r v∧∀o,a.al o→g.al o∨o=new
theorem bY.pure(R:HR w0 Z0 Zp h g w){res:Sem Next}{v:Value}(hr:res.run P w= .ok (.value v) w)(i:AR w w0.heap.size Zp h g r v):bY P w0 Z0 Zp h g w new res r h:=
 ⟨_,v,w,g,hr,.inl rfl,R,Le.refl _ _ _ _,i,fun _ h=> .inl h⟩
theorem Le.trans{w1 S:World}{j E:bm}{g1 g2:G}(a:Le Zp h g w j g1 w1)(b:Le Zp j g1 w1 E g2 S):Le Zp h g w E g2 S:=by
 refine⟨fun o D=>b.al o (a.al o D),a.z.trans b.z,a.zp.trans b.zp,fun o D=> ?_,fun o D hd=> ?_,fun o D N=> ?_,fun c id e W=>b.pm c id e (a.pm c id e W)⟩
 ·have j:=a.ob o D;have E:=b.ob o (a.al o D);rcases E with E |⟨i,y⟩|⟨c,V,i,y⟩|⟨q,i,y⟩|⟨k,v,l,X,i,y⟩|⟨K,H,Y,i,y⟩|⟨K,H,i,y⟩
  ·exact .inl E
  ·exact .inr (.inl ⟨j.tok i,y⟩)
  ·rcases j with j |⟨_,j⟩|⟨d,J,f1,f2⟩|⟨q,_,j⟩|⟨_,_,_,_,_,j⟩|⟨_,_,_,_,j⟩|⟨_,_,_,j⟩
   ·rw[j]at i;cases i
   ·rw[j]at i;cases i
   ·exact .inr (.inr (.inl ⟨d,V,f1,y⟩))
   ·rw[i]at j;simp[jB]at j
   ·rw[j]at i;cases i
   ·rw[j]at i;cases i
   ·rw[j]at i;cases i
  ·exact .inr (.inr (.inr (.inl ⟨q,j.row i,y⟩)))
  ·rcases j with j |⟨_,j⟩|⟨d,J,f1,f2⟩|⟨q,_,j⟩|⟨O,R,m,Q,f1,f2⟩|⟨_,_,_,_,j⟩|⟨_,_,_,j⟩
   ·rw[j]at i;cases i
   ·rw[j]at i;cases i
   ·rw[f2]at i;cases i
   ·rw[i]at j;simp[jB]at j
   ·rw[f2]at i
    cases i;exact .inr (.inr (.inr (.inr (.inl ⟨_,_,m,X,f1,y⟩))))
   ·rw[j]at i;cases i
   ·rw[j]at i;cases i
  ·rcases j with j |⟨_,j⟩|⟨d,J,f1,f2⟩|⟨q,_,j⟩|⟨O,R,m,Q,f1,f2⟩|⟨U,H1,H2,f1,f2⟩|⟨_,_,_,j⟩
   ·rw[j]at i;cases i
   ·rw[j]at i;cases i
   ·rw[f2]at i;cases i
   ·rw[i]at j;simp[jB]at j
   ·rw[f2]at i;cases i
   ·rw[f2]at i
    cases i;exact .inr (.inr (.inr (.inr (.inr (.inl ⟨_,_,_,f1,y⟩)))))
   ·rw[j]at i;cases i
  ·rcases j with j |⟨_,j⟩|⟨d,J,f1,f2⟩|⟨q,_,j⟩|⟨O,R,m,Q,f1,f2⟩|⟨U,H1,H2,f1,f2⟩|⟨_,_,f1,f2⟩
   ·rw[j]at i;cases i
   ·rw[j]at i;cases i
   ·rw[f2]at i;cases i
   ·rw[i]at j;simp[jB]at j
   ·rw[f2]at i;cases i
   ·rw[f2]at i;cases i
   ·rw[f2]at i
    cases i;exact .inr (.inr (.inr (.inr (.inr (.inr ⟨_,_,f1,y⟩)))))
 ·exact(b.hm o (a.al o D) hd).trans (a.hm o D ((b.ob o (a.al o D)).alive hd))
 ·have I:=(b.ob o (a.al o D)).tok N;have i:=b.tok o (a.al o D) N;have y:=a.tok o D I;exact⟨i.1.trans y.1,fun c M=>(i.2 c ((a.hm o D (by rw[I];simp)).trans M)).trans (y.2 c M)⟩
theorem bY.behind{j:bm}{g1:G}{res:Sem Next}(D:Le Zp h g w j g1 w)(i:∀o,g1.al o→g.al o)(H:bY P w0 Z0 Zp j g1 w new res r h'):bY P w0 Z0 Zp h g w new res r h':=by
 obtain⟨n,v,I,y,a,b,c,d,e,f⟩:=H;exact⟨n,v,I,y,a,b,c,D.trans d,e,fun o E=>(f o E).imp (i o) id⟩
theorem AR.c{base:Nat}{c:C}{v:Value}(hh:AR w base Zp h g (.v false [c]) v):CR w base Zp h g c v:=by
 obtain⟨u,i,e,j,_⟩:=hh
 cases e;exact j
theorem AR.qF{base:Nat}{c:C}{v:Value}(hh:CR w base Zp h g c v):AR w base Zp h g (.v false [c]) v:=⟨v,[],rfl,hh,rfl⟩
theorem AR.agg{base:Nat}{cs:List C}{v:Value}(hh:AR w base Zp h g (.v true cs) v):∃vs:List Value,v= .agg vs.toArray∧dM w base Zp h g cs vs:=hh
theorem aqk{base:Nat}(v:Value):AR w base Zp h g (aqd v) v:=by
 unfold aqd
 split<;>first
  |exact AR.qF trivial
  |(refine AR.qF ?_;simp[CR])
theorem dT{base:Nat}{env:Env}{a:Act}(b:∀t,AR w base Zp h g (look aJ t env) (a.tmps.getD t undef))(x:Operand):AR w base Zp h g (Di env x) (a.eval x):=by
 cases x with
 |tmp t=>exact b t
 |const v=>exact aqk v
 |global _=>exact AR.qF trivial
 |func f=>exact AR.qF ⟨#[],rfl,by simp[dR]⟩
end
section
variable {P:Program} {w0:W0} {w:World} {Z0 Zp:cD} {h h':bm} {g:G} {new next base:Nat} {r:A} {L L':Log} {X:Cx}
theorem cd{c:C}(e:(oF c).eval next h L=some (r,h',L')):r= .v false [c]∧h'=h∧L'=L:=by
 simp[oF,HM.eval]at e;exact⟨e.1.symm,e.2.1.symm,e.2.2.symm⟩
theorem fW{k:IntKind}{n:Int}(e:(BC k n).eval next h L=some (r,h',L')):r= .v false [.int k n]∧h'=h∧L'=L:=cd e
theorem kB{b:Bool}(e:(yv b).eval next h L=some (r,h',L')):r= .v false [.bool b]∧h'=h∧L'=L:=cd e
theorem asM{k:IntKind}{a b n:Int}(h:qt k a b=some n):b≠0∧n=k.wrap (a.tdiv b):=by
 unfold qt at h;split at h
 ·cases h
 ·rename_i c;cases h;exact⟨c,rfl⟩
theorem kT{a b n:Int}(h:rm a b=some n):b≠0∧n=a.tmod b:=by
 unfold rm at h;split at h
 ·cases h
 ·rename_i c;cases h;exact⟨c,rfl⟩
theorem aoZ{k:IntKind}{a b n:Int}(h:qc k a b=some n):¬ b<0∧n=k.wrap (a*2^(min b.toNat k.bits)):=by
 unfold qc at h;split at h
 ·cases h
 ·rename_i c;cases h;exact⟨c,rfl⟩
theorem ao0{k:IntKind}{a b n:Int}(h:ui k a b=some n):¬ b<0∧n=a.fdiv (2^(min b.toNat k.bits)):=by
 unfold ui at h;split at h
 ·cases h
 ·rename_i c;cases h;exact⟨c,rfl⟩
theorem aql {op : BinOp} {t : TypeId} {x y : Operand} {k o : IntKind} {a b : Int} (e : (Yj op (.v false [.int k a]) (.v false [.int o b])).eval next h L = some (r, h', L')) :
    h' = h ∧ ∃ c v, r = .v false [c] ∧ (do eqGuard op t x y (.int k a) (.int o b); binOp op t (.int k a) (.int o b) : Sem Value).run P w = .ok v w ∧ CR w base Zp h g c v := by
  have p : (eqGuard op t x y (.int k a) (.int o b)).run P w = .ok () w := by
    cases op <;> simp [eqGuard]
  simp only [Sem.run_bind, p, Result.andThen_ok]
  cases op
  case shl =>
    obtain ⟨n, j, e⟩ := bG e
    obtain ⟨d, i⟩ := aoZ j
    obtain ⟨rfl, rfl, _⟩ := fW e
    exact ⟨rfl, _, .int k n, rfl, by simp [binOp, Op.shift, d, i], rfl⟩
  case shr =>
    obtain ⟨n, j, e⟩ := bG e
    obtain ⟨d, i⟩ := ao0 j
    obtain ⟨rfl, rfl, _⟩ := fW e
    exact ⟨rfl, _, .int k n, rfl, by simp [binOp, Op.shift, d, i], rfl⟩
  case quo =>
    simp only [Yj] at e
    split at e
    · exact (aj e).elim
    rename_i l _
    subst l
    obtain ⟨n, j, e⟩ := bG e
    obtain ⟨d, i⟩ := asM j
    obtain ⟨rfl, rfl, _⟩ := fW e
    exact ⟨rfl, _, .int k n, rfl, by simp [binOp, Op.intDiv, d, i], rfl⟩
  case rem =>
    simp only [Yj] at e
    split at e
    · exact (aj e).elim
    rename_i l _
    subst l
    obtain ⟨n, j, e⟩ := bG e
    obtain ⟨d, i⟩ := kT j
    obtain ⟨rfl, rfl, _⟩ := fW e
    exact ⟨rfl, _, .int k n, rfl, by simp [binOp, Op.intDiv, d, i], rfl⟩
  all_goals
    simp only [Yj] at e
    split at e
    · exact (aj e).elim
    rename_i l _
    subst l
    first
      | (obtain ⟨rfl, rfl, _⟩ := fW e
         refine ⟨rfl, _, _, rfl, ?_, rfl⟩
         simp [binOp, Op.intArith, Op.intBits, r9]; done)
      | (obtain ⟨rfl, rfl, _⟩ := kB e
         refine ⟨rfl, _, _, rfl, ?_, rfl⟩
         simp [binOp, Op.intCmp]; done)
theorem ajZ(a:List UInt8):(⟨a.toArray⟩:ByteArray).toList=a:=by rw[ByteArray.toList_eq]
theorem Jk(a:List UInt8):(⟨a.toArray⟩:ByteArray).size=a.length:=by simp[ByteArray.size]
theorem amC(a b:List UInt8):(⟨a.toArray⟩:ByteArray)++⟨b.toArray⟩=⟨(a++b).toArray⟩:=by
 apply ByteArray.ext;simp
theorem abt{a b c:List UInt8}(h:cat a b=some c):a.length+b.length≤2^62∧c=a++b:=by
 unfold cat at h;split at h
 ·rename_i d;cases h;exact⟨d,rfl⟩
 ·cases h
theorem aqm {op : BinOp} {t : TypeId} {x y : Operand} {a b : List UInt8} (e : (Yj op (.v false [.str a]) (.v false [.str b])).eval next h L = some (r, h', L')) :
    h' = h ∧ ∃ c v, r = .v false [c] ∧ (do eqGuard op t x y (.string ⟨a.toArray⟩) (.string ⟨b.toArray⟩); binOp op t (.string ⟨a.toArray⟩) (.string ⟨b.toArray⟩) : Sem Value).run P w = .ok v w ∧ CR w base Zp h g c v := by
  have i : (eqGuard op t x y (.string ⟨a.toArray⟩) (.string ⟨b.toArray⟩)).run P w = .ok () w := by
    cases op <;> simp [eqGuard]
  simp only [Sem.run_bind, i, Result.andThen_ok]
  cases op <;> simp only [Yj] at e <;> first
    | exact (aj e).elim
    | (obtain ⟨rfl, rfl, _⟩ := kB e
       refine ⟨rfl, _, _, rfl, ?_, rfl⟩
       simp [binOp, Op.stringOp, P9]; done)
    | (obtain ⟨s, k, e⟩ := bG e
       obtain ⟨l, j⟩ := abt k
       subst j
       obtain ⟨rfl, rfl, _⟩ := cd e
       refine ⟨rfl, _, _, rfl, ?_, rfl⟩
       have d := run_string_add_sum (P := P) (w := w) ⟨a.toArray⟩ ⟨b.toArray⟩ (by rw [Jk, Jk]; omega)
       rw [amC] at d
       simpa [binOp] using d)
theorem run_equalIn_bool{t:TypeId}(c:P.underlying t=some .bool)(a b:Bool)(d:Nat):(Op.equalIn (d+1) t (.bool a) (.bool b)).run P w= .ok (a==b) w:=by
 unfold Op.equalIn;simp only[Sem.run_bind,run_underlying c,Result.andThen_ok,Sem.run_pure]
theorem run_equal_bool{t:TypeId}(c:P.underlying t=some .bool)(a b:Bool):(Op.equal t (.bool a) (.bool b)).run P w= .ok (a==b) w:=run_equalIn_bool c a b 9999
theorem ao1 {op : BinOp} {t : TypeId} {x y : Operand} {a b : Bool} (d : P.underlying t = some .bool) (e : (Yj op (.v false [.bool a]) (.v false [.bool b])).eval next h L = some (r, h', L')) :
    h' = h ∧ ∃ c v, r = .v false [c] ∧ (do eqGuard op t x y (.bool a) (.bool b); binOp op t (.bool a) (.bool b) : Sem Value).run P w = .ok v w ∧ CR w base Zp h g c v := by
  have i : (eqGuard op t x y (.bool a) (.bool b)).run P w = .ok () w := by
    cases op <;> simp [eqGuard]
  simp only [Sem.run_bind, i, Result.andThen_ok]
  cases op <;> simp only [Yj] at e <;> first
    | exact (aj e).elim
    | (obtain ⟨rfl, rfl, _⟩ := kB e
       refine ⟨rfl, _, _, rfl, ?_, rfl⟩
       first
         | (show ((do pure (.bool (← Op.equal t (.bool a) (.bool b))) : Sem Value)).run P w = _
            simp only [Sem.run_bind, run_equal_bool d, Result.andThen_ok, Sem.run_pure]; done)
         | (show ((do pure (.bool (!(← Op.equal t (.bool a) (.bool b)))) : Sem Value)).run P w = _
            simp only [Sem.run_bind, run_equal_bool d, Result.andThen_ok, Sem.run_pure]; done))
theorem aj0{op:BinOp}{t:TypeId}{x y:Operand}{X Y:A}{k l:Value}(n:∀a b,X= .v false [.bool a]→Y= .v false [.bool b]→P.underlying t=some .bool)(hx:AR w base Zp h g X k)(j:AR w base Zp h g Y l)
  (e:(Yj op X Y).eval next h L=some (r,h',L')):
  h'=h∧∃c v,r= .v false [c]∧(do eqGuard op t x y k l;binOp op t k l:Sem Value).run P w= .ok v w∧CR w base Zp h g c v:=by
 unfold Yj at e
 split at e
 ·have d:=hx.c;have i:=j.c;simp only[CR]at d i;subst d;subst i;exact aql e
 ·have d:=hx.c;have i:=j.c;simp only[CR]at d i;subst d;subst i;exact aqm e
 ·have d:=hx.c;have i:=j.c;simp only[CR]at d i;subst d;subst i;exact ao1 (n _ _ rfl rfl) e
 ·exact(aj e).elim
theorem asN {op : UnOp} {X : A} {b : Value} (hx : AR w base Zp h g X b) (e : (unA op X).eval next h L = some (r, h', L')) :
    h' = h ∧ ∃ c v, r = .v false [c] ∧ (Op.unary op b).run P w = .ok v w ∧ CR w base Zp h g c v := by
  unfold unA at e
  split at e <;> first
    | exact (aj e).elim
    | (have a := hx.c
       simp only [CR] at a
       subst a
       first
         | (obtain ⟨rfl, rfl, _⟩ := fW e
            refine ⟨rfl, _, _, rfl, ?_, rfl⟩
            simp [Op.unary, Op.intArith, Op.intBits, r9]; done)
         | (obtain ⟨rfl, rfl, _⟩ := kB e
            refine ⟨rfl, _, _, rfl, ?_, rfl⟩
            simp [Op.unary]; done))
end
end Go.Am
