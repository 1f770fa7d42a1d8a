import Derived.Test.YtpdgokkbljiccaaGreatA1
import Derived.Great.FillDense
import Derived.Great.BuildSlice
import Derived.Laws.MakeOwn
set_option linter.unusedVariables false
set_option linter.unusedSimpArgs false
open Array renaming getElem?_toList→aD,length_toList→ay
open Bool renaming and_eq_true→ah
open Int renaming toNat_natCast→aH
open List renaming append_assoc→bI,append_nil→ab1,cons_append→cK,getElem?_append_left→aU,getElem?_drop→bA,getElem?_eq_getElem→ai,getElem?_eq_none→bv,getElem?_set_ne→cA,getElem?_set_self→cB,getElem?_take→ax,length_append→aE,length_cons→ca,length_drop→cy,length_map→aci,length_take→aR,length→ac,map_cons→bo,nil_append→ct,replicate→aY,size_toArray→cu,take_of_length_le→bp,take_zero→abZ
open Nat renaming add_assoc→cX,add_mul→bw,add_zero→cR,beq→bh,blt_eq→cS,eq_of_beq_eq_true→aj,le_of_ble_eq_true→dc,le_refl→av,mul_le_mul_right→aW,zero_add→b9
open Go.Value renaming oneCell'→dp
namespace Go.Am
open Go
section
variable {P:Program} {w0:W0} {w:World} {Z0 Zp:bj} {h h':aP} {g:G} {new next base:Nat} {r:A} {L L':Log} {X:Cx}
theorem fi(b off j:Nat):(⟨b,off,none⟩:Addr).add j=⟨b,off+j,none⟩:=by
 unfold Addr.add;split
 ·rename_i h;subst h;rfl
 ·rfl
theorem S8{off size:Nat}{cs b:List C}(a:sub off size cs=some b):off+size≤cs.length∧b=(cs.drop off).take size:=by
 unfold sub at a
 split at a
 ·rename_i c;cases a;exact⟨dc c,rfl⟩
 ·cases a
theorem Jj{agg:Bool}{size off:Nat}{cs:List C}(e:(partOf agg size off cs .ret).eval next h L=some (r,h',L')):
  h'=h∧L'=L∧off+size≤cs.length∧r= .v agg ((cs.drop off).take size)∧(agg=false→size=1):=by
 unfold partOf at e
 split at e
 ·rename_i k j;obtain⟨b,d⟩:=S8 j;subst d
  split at e
  ·rename_i l;simp[HM.eval]at e;exact⟨e.2.1.symm,e.2.2.symm,b,by rw[←e.1],fun i=>by cases i⟩
  ·rename_i c n a;simp[HM.eval]at e;refine⟨e.2.1.symm,e.2.2.symm,b,by rw[←e.1,a],fun _=> ?_⟩;have:=congrArg ac a;simp at this;omega
  ·exact(af e).elim
 ·exact(af e).elim
theorem getElem?_sub{α:Type}(vs:List α)(c n j:Nat)(u:α)(h:((vs.drop c).take n)[j]? =some u):vs[c+j]? =some u:=by
 rw[ax]at h
 split at h
 ·rw[bA]at h;exact h
 ·cases h
theorem vH{t:TypeId}{d:TD}(T:dk P t d){cs:List C}{vs:List Value}{b off c:Nat}(q:cw w base Zp h g cs vs)
  (n:∀j u,vs[j]? =some u→w.cell? ⟨b,off+j,none⟩=some u) (e:(partOf d.agg d.size c cs .ret).eval next h L=some (r,h',L')):
  h'=h∧∃v,(loadVar t ⟨b,off+c,none⟩).run P w= .ok v w∧AR w base Zp h g r v:=by
 obtain⟨rfl,_,z,rfl,x⟩:=Jj e;have B:=q.length;have i:∀j u,((vs.drop c).take d.size)[j]? =some u→w.cell? ((⟨b,off+c,none⟩:Addr).add j)=some u:=fun j u y=>by
  rw[fi,cX];exact n (c+j) u (getElem?_sub vs c d.size j u y)
 have a:((vs.drop c).take d.size).length=d.size:=by simp;omega
 have k:=cw.take d.size _ _ (cw.drop c _ _ q);refine⟨rfl,?_⟩
 cases o:d.agg with
 |true=>
  have l:=run_loadCells_list (P:=P) w ⟨b,off+c,none⟩ ((vs.drop c).take d.size) i;rw[a]at l;refine⟨_,?_,(vs.drop c).take d.size,rfl,k⟩;simp[loadVar,T.isAgg,T.sizeOf,o,l]
 |false=>
  have p:=x o;rw[p]at k a i;obtain⟨v,n⟩:∃v,(vs.drop c).take 1=[v]:=List.length_eq_one_iff.1 a;refine⟨v,?_,?_⟩
  ·have:=i 0 v (by rw[n];rfl);rw[fi,cR]at this;simp[loadVar,T.isAgg,o,run_load,this]
  ·rw[p];rw[n]at k;exact k
theorem Za{t:TypeId}{d:TD}(T:dk P t d){cs:List C}{vs:List Value}{c:Nat}(k:cw w base Zp h g cs vs)
  (e:(partOf d.agg d.size c cs .ret).eval next h L=some (r,h',L')):
  h'=h∧∃v,(part t vs.toArray c).run P w= .ok v w∧AR w base Zp h g r v:=by
 obtain⟨rfl,_,p,rfl,n⟩:=Jj e;have q:=k.length;have b:((vs.drop c).take d.size).length=d.size:=by simp;omega
 have a:=cw.take d.size _ _ (cw.drop c _ _ k);refine⟨rfl,?_⟩
 cases i:d.agg with
 |true=>
  refine⟨.agg (vs.toArray.extract c (c+d.size)),?_,(vs.drop c).take d.size,?_,a⟩
  ·simp[part,T.isAgg,T.sizeOf,i]
  ·simp
 |false=>
  have j:=n i;rw[j]at a b;obtain⟨v,l⟩:∃v,(vs.drop c).take 1=[v]:=List.length_eq_one_iff.1 b;refine⟨v,?_,?_⟩
  ·have o:vs[c]? =some v:=by
    have:=getElem?_sub vs c 1 0 v (by rw[l];rfl);simpa using this
   simp[part,T.isAgg,i,o]
  ·rw[j];rw[l]at a;exact a
theorem bY.get{α:Type}{R:α→List Value→Prop}{k:Nat}(D:∀x es,R x es→es.length=k):∀(l:List α) (vs:List Value),bY R l vs→∀(i:Nat) (x:α),l[i]? =some x→R x ((vs.drop (i*k)).take k)
 |[],_,_,i,x,j=>by simp at j
 |y::l,_,⟨es,a,e,p,E⟩,0,x,j=>by
  simp at j;subst j;subst e;have:=D _ _ p;simp[←this];exact p
 |y::l,_,⟨es,a,e,p,E⟩,i+1,x,j=>by
  subst e;have H:=bY.get D l a E i x (by simpa using j);have I:=D _ _ p;have:(i+1)*k=es.length+i*k:=by rw[I,bw];omega
  rw[this,←List.drop_drop,List.drop_left];exact H
theorem PR.k{Z:bj}(e:Ty):∀(x:e.den) (es:List Value),PR w Z Zp e x es→es.length=e.size:=fun x es hh=>PR.length e x es hh
theorem eM{b:Nat}{cur:Array Value}{e0:TypeId}{a:Nat×Nat}(c:w.heap[b]? =some (.cells cur e0 a))(i:Nat):w.cell? ⟨b,i,none⟩=cur[i]? :=by
 simp[World.cell?,c]
theorem g8{b:Nat}{cur:Array Value}{e0:TypeId}{a:Nat×Nat}(c:w.heap[b]? =some (.cells cur e0 a))(k n:Nat):∀j u,((cur.toList.drop k).take n)[j]? =some u→w.cell? ⟨b,k+j,none⟩=some u:=by
 intro j u d;rw[eM c];have:=getElem?_sub _ k n j u d;simpa using this
def VT.g7:VT→List Value
 |.data τ=>τ.g7
 |.gp _ _=>[.pointer none]
 |.gs _=>[.slice none 0 0]
 |.gm _=>[.map none]
 |.cl _ _ _=>[.nilFunc]
 |.pair a b=>a.g7++b.g7
 |.unit=>[]
def VT.zM:VT→Bool
 |.data τ=>τ.bH&&τ.zM
 |.pair a b=>a.zM&&b.zM
 |_=>true
structure Hu (P:Program) (t:TypeId) (V:VT):Prop where
 ok:V.ok=true
 nf:V.zM=true
 pos:0<V.size
 info:(P.info? t).map (fun i=>(i.size,i.zero.map fun z=>(z.cells.toList,O1 z)))=some (V.size,some (V.g7,V.isAgg))
def O2(P:Program)(l:List (TypeId×VT)):Prop:=∀p∈l,Hu P p.1 p.2
theorem O2.get{l:List (TypeId×VT)}(H:O2 P l){t:TypeId}{V:VT}(h:bP t l=some V):Hu P t V:=H _ (vG h)
theorem Hu.inf{t:TypeId}{V:VT}(T:Hu P t V):∃i z,P.info? t=some i∧i.size=V.size∧i.zero=some z∧z.cells.toList=V.g7∧O1 z=V.isAgg:=by
 have:=T.info
 cases a:P.info? t with
 |none=>simp[a]at this
 |some i=>
  cases j:i.zero with
  |none=>simp[a,j]at this
  |some z=>simp[a,j]at this;exact⟨i,z,rfl,this.1,j,this.2.1,this.2.2⟩
theorem Hu.sizeOf{t:TypeId}{V:VT}(T:Hu P t V)(w:World):(Go.sizeOf t).run P w= .ok V.size w:=by
 obtain⟨i,z,a,j,_⟩:=T.inf;simp[Go.sizeOf,typeInfo,a,j]
theorem Ty.et:∀(τ:Ty) (x:τ.den),(τ.cells x).length=τ.size
 |.bool,_ |.int _,_ |.str,_ |.sl _,_ |.unit,_ |.ref _,_ |.fn _,_ |.cl _ _,_=>rfl
 |.pair a b,x=>by simp[Ty.cells,Ty.size,Ty.et a,Ty.et b]
theorem VT.et:∀(V:VT) (x:V.den),(V.cells x).length=V.size
 |.data τ,x=>Ty.et τ x
 |.gp _ _,_ |.gs _,_ |.gm _,_ |.cl _ _ _,_ |.unit,_=>rfl
 |.pair a b,x=>by simp[VT.cells,VT.size,VT.et a,VT.et b]
theorem eB{α:Type}{H:List (Option α)}{i:Nat}{x:α}(a:EE H i=some x):H[i]? =some (some x):=by
 unfold EE at a
 split at a
 ·rename_i h;cases a;exact h
 ·cases a
theorem BG{α:Type}{H b:List (Option α)}{i:Nat}{x:α}(a:J6 H i x=some b):(∃y,H[i]? =some (some y))∧b=H.set i (some x):=by
 unfold J6 at a
 split at a
 ·rename_i y h;cases a;exact⟨⟨y,h⟩,rfl⟩
 ·cases a
theorem dJ{K b:GK}{H:List (Option K.me)}{c:List (Option b.me)}(a:gu K b H=some c):∃h:K=b,c=h▸H:=by
 unfold gu at a
 split at a
 ·rename_i e _;subst e;cases a;exact⟨rfl,rfl⟩
 ·cases a
theorem ac0{base:Nat}{V:VT}{l:List V.den}{vs:List Value}(b:bY (fun y a=>cw w base Zp h g (V.cells y) a) l vs){i:Nat}{y:V.den}(d:l[i]? =some y):cw w base Zp h g (V.cells y) ((vs.drop (i*V.size)).take V.size):=
 bY.get (fun x a c=>(cw.length _ _ c).trans (VT.et V x)) l vs b i y d
theorem jC{α:Type}{x:α}{p:Prop}(h:none=some x):p:=by cases h
theorem VT.aaX{c off:Nat}(d:C){cs r:List C}{x:Option Nat}(i:VT.take (.gp c off) (d::cs)=some (x,r)):(d= .nilp∧x=none∧r=cs)∨(d= .gp c off x∧r=cs):=by
 cases d
 case nilp=>
  have h:some ((none:Option Nat),cs)=some (x,r):=i;have h:=Option.some.inj h;exact .inl ⟨rfl,(congrArg Prod.fst h).symm,(congrArg Prod.snd h).symm⟩
 case gp j a y=>
  have h:(match bh c j&&bh off a with |true=>some (y,cs)|false=>none)=some (x,r):=i
  split at h
  ·rename_i hb;rw[ah]at hb;have h:=Option.some.inj h;rw[aj hb.1,aj hb.2];exact .inr ⟨by rw[show y=x from congrArg Prod.fst h],(congrArg Prod.snd h).symm⟩
  ·exact jC h
 all_goals exact jC (show(none:Option (Option Nat×List C))=some (x,r)from i)
theorem VT.aaY{c:Nat}(d:C){cs r:List C}{x:Option (Nat×Nat×Nat)}(a:VT.take (.gs c) (d::cs)=some (x,r)):(d= .nils∧x=none∧r=cs)∨(d= .gs c x∧r=cs):=by
 cases d
 case nils=>
  have h:some ((none:Option (Nat×Nat×Nat)),cs)=some (x,r):=a;have h:=Option.some.inj h;exact .inl ⟨rfl,(congrArg Prod.fst h).symm,(congrArg Prod.snd h).symm⟩
 case gs i y=>
  have h:(match bh c i with |true=>some (y,cs)|false=>none)=some (x,r):=a
  split at h
  ·rename_i hb;have h:=Option.some.inj h;rw[aj hb];exact .inr ⟨by rw[show y=x from congrArg Prod.fst h],(congrArg Prod.snd h).symm⟩
  ·exact jC h
 all_goals exact jC (show(none:Option (Option (Nat×Nat×Nat)×List C))=some (x,r)from a)
theorem VT.aaZ{c:Nat}(d:C){cs r:List C}{x:Option Nat}(a:VT.take (.gm c) (d::cs)=some (x,r)):d= .gm c x∧r=cs:=by
 cases d
 case gm i y=>
  have h:(match bh c i with |true=>some (y,cs)|false=>none)=some (x,r):=a
  split at h
  ·rename_i hb;have h:=Option.some.inj h;rw[aj hb];exact⟨by rw[show y=x from congrArg Prod.fst h],(congrArg Prod.snd h).symm⟩
  ·exact jC h
 all_goals exact jC (show(none:Option (Option Nat×List C))=some (x,r)from a)
theorem VT.aa0{f:FuncId}{l m:List (Nat×Nat)}(d:C){cs r:List C}{x:Option (List Nat×List Nat)}(a:VT.take (.cl f l m) (d::cs)=some (x,r)):d= .gcl f l m x∧r=cs:=by
 cases d
 case gcl D E H y=>
  have h:(match decEq f D,decEq l E,decEq m H with |.isTrue _,.isTrue _,.isTrue _=>some (y,cs)|_,_,_=>none)=some (x,r):=a
  split at h
  ·rename_i i j p _ _ _;have h:=Option.some.inj h;rw[i,j,p];exact⟨by rw[show y=x from congrArg Prod.fst h],(congrArg Prod.snd h).symm⟩
  ·exact jC h
 all_goals exact jC (show(none:Option (Option (List Nat×List Nat)×List C))=some (x,r)from a)
theorem VT.XD{a b:VT}{cs r:List C}{x:a.den×b.den}(i:VT.take (.pair a b) cs=some (x,r)):∃y z j,a.take cs=some (y,j)∧b.take j=some (z,r)∧x=(y,z):=by
 have i:(match a.take cs with
  |some (x,r)=>(match b.take r with
   |some (y,I)=>some ((x,y),I)
   |none=>none:Option ((a.den×b.den)×List C))
  |none=>none)=some (x,r):=i
 split at i
 ·rename_i y j E
  split at i
  ·rename_i z J H;have i:=Option.some.inj i;have p:(y,z)=x:=congrArg Prod.fst i;have D:J=r:=congrArg Prod.snd i;subst D;exact⟨y,z,j,E,H,p.symm⟩
  ·exact jC i
 ·exact jC i
theorem VT.Mw{base:Nat}:∀(V:VT) (cs:List C) (vs:List Value) (x:V.den) (r:List C),V.ok=true→cw w base Zp h g cs vs→V.take cs=some (x,r)→
  ∃us rs,vs=us++rs∧cw w base Zp h g (V.cells x) us∧cw w base Zp h g r rs
 |.data τ,cs,vs,x,r,E,H,j=>by
  obtain⟨us,rs,e,p,D⟩:=LV τ cs vs x r E H j;exact⟨us,rs,e,cw.nQ τ x us p,D⟩
 |.gp c I,[],_,_,_,_,_,j=>by cases j
 |.gs c,[],_,_,_,_,_,j=>by cases j
 |.gm c,[],_,_,_,_,_,j=>by cases j
 |.cl _ _ _,[],_,_,_,_,_,j=>by cases j
 |.gp c I,d::cs,vs,x,r,_,⟨v,i,e,p,D⟩,j=>by
  rcases VT.aaX d j with⟨rfl,rfl,rfl⟩|⟨rfl,rfl⟩
  ·exact⟨[v],i,e,⟨v,[],rfl,p,rfl⟩,D⟩
  ·exact⟨[v],i,e,⟨v,[],rfl,p,rfl⟩,D⟩
 |.gs c,d::cs,vs,x,r,_,⟨v,i,e,p,D⟩,j=>by
  rcases VT.aaY d j with⟨rfl,rfl,rfl⟩|⟨rfl,rfl⟩
  ·exact⟨[v],i,e,⟨v,[],rfl,p,rfl⟩,D⟩
  ·exact⟨[v],i,e,⟨v,[],rfl,p,rfl⟩,D⟩
 |.gm c,d::cs,vs,x,r,_,⟨v,i,e,p,D⟩,j=>by
  obtain⟨rfl,rfl⟩:=VT.aaZ d j;exact⟨[v],i,e,⟨v,[],rfl,p,rfl⟩,D⟩
 |.cl _ _ _,d::cs,vs,x,r,_,⟨v,i,e,p,D⟩,j=>by
  obtain⟨rfl,rfl⟩:=VT.aa0 d j;exact⟨[v],i,e,⟨v,[],rfl,p,rfl⟩,D⟩
 |.pair a b,cs,vs,x,r,E,H,j=>by
  have E:(a.ok&&b.ok)=true:=E;rw[ah]at E;obtain⟨y,z,M,p,D,Q⟩:=VT.XD j;subst Q;obtain⟨us,rs,e,R,c1⟩:=VT.Mw a cs vs y M E.1 H p;obtain⟨K,J,O,S,N⟩:=VT.Mw b M rs z _ E.2 c1 D;exact⟨us++K,J,by rw[e,O,bI],cw.append _ _ _ _ R S,N⟩
 |.unit,cs,vs,x,r,_,H,j=>by
  cases j;exact⟨[],vs,by simp,rfl,H⟩
theorem VT.jX{base:Nat}{V:VT}{cs:List C}{vs:List Value}{x:V.den}(j:V.ok=true)(i:cw w base Zp h g cs vs)(a:V.cf cs=some x):cw w base Zp h g (V.cells x) vs:=by
 unfold VT.cf at a
 split at a
 ·rename_i y D
  cases a;obtain⟨us,rs,e,p,c⟩:=VT.Mw V cs vs _ _ j i D;simp only[cw]at c;subst c;simp at e;subst e;exact p
 ·cases a
theorem LW(R:HR w0 Z0 Zp h g w){a:C}{v:Value}(B:CR w w0.heap.size Zp h g a v){k:List C→HM}{p:A×aP×Log}(e:(atM a k).eval next h L=some p):
  ∃b off cs vs O,v= .pointer (some ⟨b,off,none⟩)∧cw w w0.heap.size Zp h g cs vs∧(∀(j:Nat) u,vs[j]? =some u→w.cell? ⟨b,off+j,none⟩=some u)∧(k cs).eval next h O=some p:=by
 unfold atM at e
 split at e
 ·rename_i c off x;obtain⟨id,E,e⟩:=aN e;rw[E]at B;have e:=bq e
  split at e
  ·rename_i wr V H F;obtain⟨y,K,e⟩:=aN e;obtain⟨S,b,t,z,Q,I,d,D⟩:=R.gh.me c wr _ H id y F (eB K);obtain⟨q,o,W,rfl⟩:=B;rw[I]at o;cases o;exact⟨b,off,_,_,_,rfl,cw.drop off _ _ D,fun j u n=>by rw[eM d];rw[bA]at n;simpa using n,e⟩
  ·exact(af e).elim
 ·rename_i c id M off;have e:=bq e
  split at e
  ·rename_i wr V H F;obtain⟨l,T,e⟩:=aN e;obtain⟨y,K,e⟩:=aN e;obtain⟨S,b,kk,t,z,Q,I,d,Y,U,_,J⟩:=R.gh.me c wr _ H id l F (eB T);obtain⟨b',k',N,Z,o,rfl⟩:=B;rw[I]at o;cases o;refine⟨b,kk+M*V.size+off,_,_,_,rfl,cw.drop off _ _ (ac0 J K),fun j u n=> ?_,e⟩;rw[eM d];rw[bA]at n;have i:=getElem?_sub _ _ _ _ _ n;rw[ax]at i
   split at i
   case isFalse=>cases i
   rw[bA]at i;rw[←aD];rw[show kk+M*V.size+off+j=kk+(M*V.size+(off+j))by omega];exact i
  ·exact(af e).elim
 ·exact(af e).elim
theorem Hv(R:HR w0 Z0 Zp h g w){t:TypeId}{d:TD}(T:dk P t d){a:A}{v:Value}(K:AR w w0.heap.size Zp h g a v)(e:(Mj d a).eval next h L=some (r,h',L')):
  h'=h∧∃u,(Instr.loadAt t v).run P w= .ok u w∧AR w w0.heap.size Zp h g r u:=by
 unfold Mj at e
 split at e
 ·rename_i o off;have e:=bq e
  split at e
  ·rename_i H E;obtain⟨M,hp,Q⟩:=K.c;obtain⟨b,N,rfl⟩:=Q (by rw[E];simp);have y:=R.ob o;rw[E]at y;obtain⟨b',J,e0,p,q,D⟩:=y;rw[N]at p;cases p;have:=vH (P:=P) T (off:=0) (b:=b) D (fun j u hj=>by rw[b9,eM q];simpa using hj) e;simpa[Instr.loadAt,Instr.sureAddr]using this
  ·exact(af e).elim
 ·rename_i τ x c;obtain⟨b,off,us,rfl,F,hce⟩:=K.c;have:=vH (P:=P) T (h:=h) (g:=g) (base:=w0.heap.size) (Zp:=Zp) (cw.nQ τ x us F) (fun j u hj=>(hce j u hj).1) e;simpa[Instr.loadAt,Instr.sureAddr]using this
 ·rename_i o i c;have e:=bq e
  split at e
  ·rename_i z l E;obtain⟨x,hx,e⟩:=aN e;obtain⟨M,hp,Q⟩:=K.c;obtain⟨b,N,rfl⟩:=Q z (ac l) (by rw[E];rfl);have y:=R.ob o;rw[E]at y;obtain⟨_,_,b',J,e0,p,q,F⟩:=y;rw[N]at p;cases p;have S:=bY.get (PR.k z) l _ F i x hx;have:=vH (P:=P) T (h:=h) (g:=g) (base:=w0.heap.size) (Zp:=Zp) (cw.nQ z x _ S) (b:=b) (off:=i*z.size) (g8 q _ _) e;simpa[Instr.loadAt,Instr.sureAddr]using this
  ·rename_i z l E;obtain⟨x,hx,e⟩:=aN e;obtain⟨M,hp,Q⟩:=K.c;obtain⟨b,N,rfl⟩:=Q z (ac l) (by rw[E];rfl);have y:=R.ob o;rw[E]at y;obtain⟨_,_,b',J,e0,fz,p,q,F,_⟩:=y;rw[N]at p;cases p;have S:=bY.get (PR.k z) l _ F i x hx;have:=vH (P:=P) T (h:=h) (g:=g) (base:=w0.heap.size) (Zp:=Zp) (cw.nQ z x _ S) (b:=b) (off:=i*z.size) (g8 q _ _) e;simpa[Instr.loadAt,Instr.sureAddr]using this
  ·exact(af e).elim
 ·rename_i o off len i
  split at e
  ·rename_i k hk;have e:=bq e
   split at e
   ·rename_i H E
    split at e
    ·rename_i ds hs
     split at e
     ·rename_i l B;obtain⟨n,I,e⟩:=aN e;obtain⟨rfl,rfl,_⟩:=dt e;obtain⟨M,hp,Q⟩:=K.c;obtain⟨b,N,rfl⟩:=Q (by rw[E];simp);have y:=R.ob o;rw[E]at y;obtain⟨b',J,e0,p,q,D⟩:=y;rw[N]at p;cases p;obtain⟨_,rfl⟩:=S8 hs;have Z:=cw.take len _ _ (cw.drop off _ _ D);have key:∀(H:List C) (U:List Value) (l:List Int),cw w w0.heap.size Zp h' g H U→Mi k H=some l→∀(i:Nat) (n:Int),l[i]? =some n→U[i]? =some (.int k n):=by
       intro H
       induction H with
       |nil=>intro U l _ B i n I;simp[Mi]at B;subst B;simp at I
       |cons c H ih=>
        intro U l D B i n I;obtain⟨v,rest,e,V,W⟩:=D;subst e
        cases c<;>simp only[Mi]at B<;>try (cases B;done)
        split at B
        ·rename_i hkk _;subst hkk
         split at B
         ·rename_i l2 hl2
          cases B
          cases i with
          |zero=>simp at I;subst I;simpa[CR]using V
          |succ i=>simp at I;simpa using ih rest l2 W hl2 i n I
         ·cases B
        ·cases B
      have h5:=getElem?_sub _ _ _ _ _ (key _ _ _ Z B i n I);have O:w.cell? ⟨b,off+i,none⟩=some (.int k n):=by rw[eM q];simpa using h5
      have Y:d.agg=false:=by have:=T.agg;rw[hk]at this;simpa[Xv]using this.symm
      refine⟨rfl,.int k n,?_,AR.jU rfl⟩;simp[Instr.loadAt,Instr.sureAddr,loadVar,T.isAgg,Y,run_load,O]
     ·exact(af e).elim
    ·exact(af e).elim
   ·exact(af e).elim
  ·exact(af e).elim
 ·rename_i c off x;obtain⟨b,o,H,U,L1,rfl,V,W,e⟩:=LW R K.c e;have:=vH (P:=P) T (off:=o) (b:=b) V W e;simpa[Instr.loadAt,Instr.sureAddr]using this
 ·rename_i c id ix off;obtain⟨b,o,H,U,L1,rfl,V,W,e⟩:=LW R K.c e;have:=vH (P:=P) T (off:=o) (b:=b) V W e;simpa[Instr.loadAt,Instr.sureAddr]using this
 ·exact(af e).elim
theorem Mx{f:Field}{a:TD}(T:dk P f.type a)(c:0<a.size)(b off:Nat):(fieldPlace ⟨b,off,none⟩ f).run P w= .ok ⟨b,off+f.offset,none⟩ w:=by
 have:a.size≠0:=by omega
 simp[fieldPlace,T.sizeOf,this,fi]
theorem My{a:A}{v:Value}{n:Nat}(hh:AR w base Zp h g a v)(e:(Rf a n).eval next h L=some (r,h',L')):
  h'=h∧∃b off,v= .pointer (some ⟨b,off,none⟩)∧AR w base Zp h g r (.pointer (some ⟨b,off+n,none⟩)):=by
 unfold Rf at e
 split at e
 ·rename_i o off;have e:=bq e
  split at e
  ·exact(af e).elim
  ·rename_i H;obtain⟨rfl,rfl,_⟩:=bz e;obtain⟨p,⟨z,D⟩,y⟩:=hh.c;obtain⟨b,d,j⟩:=y H;exact⟨rfl,b,off,j,AR.jU ⟨p,⟨_,rfl⟩,fun _=>⟨b,d,rfl⟩⟩⟩
 ·rename_i τ x c;obtain⟨rfl,rfl,_⟩:=bz e;obtain⟨b,off,Q,D,d,j⟩:=hh.c;exact⟨rfl,b,off+c,D,AR.jU ⟨b,off,Q,by rw[cX],d,j⟩⟩
 ·rename_i o i c;have e:=bq e
  split at e
  ·rename_i t l K;obtain⟨rfl,rfl,_⟩:=bz e;obtain⟨p,⟨z,D⟩,y⟩:=hh.c;obtain⟨b,d,j⟩:=y t (ac l) (by rw[K];rfl);refine⟨rfl,b,_,j,AR.jU ⟨p,⟨_,rfl⟩,fun F M I=> ?_⟩⟩;obtain⟨N,u,B⟩:=y F M I;rw[d]at u;cases u;rw[j]at B;simp at B;exact⟨b,d,by simp;try omega⟩
  ·rename_i t l K;obtain⟨rfl,rfl,_⟩:=bz e;obtain⟨p,⟨z,D⟩,y⟩:=hh.c;obtain⟨b,d,j⟩:=y t (ac l) (by rw[K];rfl);refine⟨rfl,b,_,j,AR.jU ⟨p,⟨_,rfl⟩,fun F M I=> ?_⟩⟩;obtain⟨N,u,B⟩:=y F M I;rw[d]at u;cases u;rw[j]at B;simp at B;exact⟨b,d,by simp;try omega⟩
  ·exact(af e).elim
 ·rename_i c off x;obtain⟨id,J,e⟩:=aN e;rw[J]at hh;obtain⟨rfl,rfl,_⟩:=bz e;obtain⟨q,d,j,u⟩:=hh.c;exact⟨rfl,q.1,off,u,AR.jU ⟨q,d,j,rfl⟩⟩
 ·rename_i c id R off;obtain⟨rfl,rfl,_⟩:=bz e;obtain⟨b,k,E,O,d,j⟩:=hh.c;exact⟨rfl,b,_,j,AR.jU ⟨b,k,E,O,d,by rw[cX]⟩⟩
 ·exact(af e).elim
theorem cO{α:Type}{l:List α}{i:Int}{x:α}(a:idx l i=some x):0≤i∧i<l.length∧l[i.toNat]? =some x:=by
 unfold idx at a
 split at a
 ·rename_i b;have:=(List.getElem?_eq_some_iff.1 a).1;exact⟨b,by omega,a⟩
 ·cases a
theorem wX{i:Int}{n k:Nat}(a:ck i n=some k):0≤i∧i<n∧k=i.toNat:=by
 unfold ck at a
 split at a
 ·rename_i b;cases a;exact⟨b.1,b.2,rfl⟩
 ·cases a
theorem aa1{Z:bj}{e:Ty}{l:List e.den}{v:Value}(F:PR w Z Zp (.sl e) l [v]){i:Nat}{x:e.den}(y:l[i]? =some x)(z:0<e.size):
  ∃b off cap,v= .slice (some ⟨b,off,none⟩) (ac l) cap∧ac l≤cap∧∃a,PR w Z Zp e x a∧∀j u,a[j]? =some u→w.cell? ⟨b,off+i*e.size+j,none⟩=some u∧Z b (off+i*e.size+j):=by
 obtain⟨H,cap,a,t,c,n,p⟩:=F;have d:=bY.length (PR.k e) l a n;have J:=(List.getElem?_eq_some_iff.1 y).1;have q:a≠[]:=by
  intro o;have B:a.length=0:=by rw[o];rfl
  rw[d]at B;have I:0<ac l*e.size:=Nat.mul_pos (by omega) z;omega
 obtain⟨b,off,rfl,D⟩:=p q;simp at t;refine⟨b,off,cap,t,c,_,bY.get (PR.k e) l a n i x y,fun j u E=> ?_⟩;have:=D _ _ (getElem?_sub _ _ _ _ _ E);rw[cX];exact this
theorem o8(i:EA P X.tt){t:TypeId}{n:Nat}(a:wU X t n=true):0<n∧∀w:World,(Go.sizeOf t).run P w= .ok n w:=by
 unfold wU at a
 split at a
 ·rename_i d j;simp only[ah]at a;have b:=aj a.1;have c:0<n:=by have:=a.2;simp[cS]at this;exact this
  exact⟨c,fun w=>by rw[(i.get j).sizeOf,b]⟩
 ·cases a
theorem S9{V a:VT}(h:WU V a=true):V=a:=by
 unfold WU at h;split at h
 ·assumption
 ·cases h
theorem O3(hX:EA P X.tt)(hV:O2 P X.zF)(R:HR w0 Z0 Zp h g w){t:TypeId}{d:TD}(T:dk P t d){x ix:A}{vx vi:Value}(hx:AR w w0.heap.size Zp h g x vx)(hi:AR w w0.heap.size Zp h g ix vi)
  (e:(Dz X d x ix).eval next h L=some (r,h',L')):
  h'=h∧∃u,(Instr.indexAt t vx vi).run P w= .ok u w∧AR w w0.heap.size Zp h g r u:=by
 unfold Dz at e
 split at e
 ·rename_i k i;have Z:=hi.c;simp only[CR]at Z;subst Z
  split at e
  ·rename_i _ _ te a l tk J
   split at e
   ·rename_i B;obtain⟨p,D⟩:=o8 hX B;obtain⟨y,hy,e⟩:=aN e;obtain⟨rfl,rfl,_⟩:=bz e;obtain⟨E,F,h2⟩:=cO hy;obtain⟨b,off,Q,rfl,_,us,VC,O⟩:=aa1 hx.c.1 h2 p;refine⟨rfl,_,?_,AR.jU ⟨b,off+i.toNat*a.size,us,rfl,VC,fun j u hj=>⟨(O j u hj).1,.inl (O j u hj).2⟩⟩⟩;have:i<((ac l:Nat):Int):=F;simp[Instr.indexAt,asIntOf,run_underlying (T.slice J),E,this,D,fi]
   ·exact(af e).elim
  ·rename_i _ _ te c y J;have e:=bq e
   split at e
   ·rename_i wr V H M
    split at e
    ·rename_i V' hV'
     split at e
     ·rename_i U p;have:=S9 U;subst this;obtain⟨q,hq,e⟩:=aN e;obtain⟨n,K,e⟩:=aN e;obtain⟨rfl,rfl,_⟩:=bz e;obtain⟨E,F,rfl⟩:=wX K;obtain⟨id,a0,n0⟩:=q;rw[hq]at hx;obtain⟨b,k,Q,sz,o0,hp,hle,N,rfl⟩:=hx.c;have Y:=R.gh.psz c _ V H id _ M hp;simp only at Y;subst Y;refine⟨rfl,_,?_,AR.jU ⟨b,k,Q,V.size,hp,rfl⟩⟩;have hvo:=(hV.get hV').sizeOf (P:=P);have h1':i<(n0:Int):=F;have N:=N (by omega);subst N;simp[Instr.indexAt,asIntOf,run_underlying (T.slice J),E,h1',hvo,fi,bw,cX]
     ·exact(af e).elim
    ·exact(af e).elim
   ·exact(af e).elim
  ·rename_i _ _ te o J;have e:=bq e;obtain⟨I,hs,hr⟩:=hx.c
   split at e
   ·rename_i a l M
    split at e
    ·rename_i B;obtain⟨p,D⟩:=o8 hX B;obtain⟨n,K,e⟩:=aN e;obtain⟨rfl,rfl,_⟩:=bz e;obtain⟨E,F,rfl⟩:=wX K;have z:fN (look .dead o h')=some (a,ac l):=by rw[M];rfl
     obtain⟨b,S,rfl⟩:=hr a _ z;refine⟨rfl,.pointer (some ⟨b,i.toNat*a.size,none⟩),?_,AR.jU ⟨I,⟨_,rfl⟩,fun e2 n2 W=> ?_⟩⟩
     ·simp[Instr.indexAt,asIntOf,run_underlying (T.slice J),E,F,D,fi]
     ·rw[z]at W;cases W;exact⟨b,S,rfl⟩
    ·exact(af e).elim
   ·rename_i a l M
    split at e
    ·rename_i B;obtain⟨p,D⟩:=o8 hX B;obtain⟨n,K,e⟩:=aN e;obtain⟨rfl,rfl,_⟩:=bz e;obtain⟨E,F,rfl⟩:=wX K;have z:fN (look .dead o h')=some (a,ac l):=by rw[M];rfl
     obtain⟨b,S,rfl⟩:=hr a _ z;refine⟨rfl,.pointer (some ⟨b,i.toNat*a.size,none⟩),?_,AR.jU ⟨I,⟨_,rfl⟩,fun e2 n2 W=> ?_⟩⟩
     ·simp[Instr.indexAt,asIntOf,run_underlying (T.slice J),E,F,D,fi]
     ·rw[z]at W;cases W;exact⟨b,S,rfl⟩
    ·exact(af e).elim
   ·exact(af e).elim
  ·rename_i _ _ len te o off J
   split at e
   ·rename_i de hde
    split at e
    ·rename_i O;simp only[ah]at O;have hs1:=aj O.1;have hl1:1<len:=by have:=O.2;simp[cS]at this;exact this
     have e:=bq e
     split at e
     ·rename_i cs M;obtain⟨n,K,e⟩:=aN e;obtain⟨rfl,rfl,_⟩:=bz e;obtain⟨E,F,rfl⟩:=wX K;obtain⟨I,hs,hr⟩:=hx.c;obtain⟨b,S,rfl⟩:=hr (by rw[M];simp);have Te:=hX.get hde;refine⟨rfl,_,?_,AR.jU ⟨I,⟨_,rfl⟩,fun _=>⟨b,S,rfl⟩⟩⟩;simp[Instr.indexAt,asIntOf,run_underlying (T.array J),E,F,Te.sizeOf,fi,hs1,Instr.sureAddr]
     ·exact(af e).elim
    ·exact(af e).elim
   ·exact(af e).elim
  ·exact(af e).elim
 ·exact(af e).elim
end
section
variable {P:Program} {w0:W0} {w:World} {Z0 Zp:bj} {h h':aP} {g:G} {new next base:Nat} {r:A} {L L':Log} {X:Cx}
theorem Rr{Z k:bj}{e:Ty}{l:List e.den}{b:Nat}{cur:Array Value}{e0:TypeId}{q:Nat×Nat}(a:w.heap[b]? =some (.cells cur e0 q))(n:bY (PR w Z Zp e) l cur.toList)
  (z:∀c i,Z c i→k c i) (o:∀i,i<cur.size→k b i):PR w k Zp (.sl e) l [.slice (some ⟨b,0,none⟩) (ac l) (ac l)]:=
 ⟨_,_,cur.toList,rfl,av _,bY.mono (fun x p y=>PR.mono (fun c i h=>⟨z c i h,rfl⟩) (bQ.refl _ _) e x p y) _ _ n,
  fun _=>⟨b,0,rfl,fun j u t=>by
   have d:cur[j]? =some u:=by simpa using t
   rw[b9];exact⟨by rw[eM a];exact d,o j (Array.getElem?_eq_some_iff.1 d).1⟩⟩⟩
theorem wY(R:HR w0 Z0 Zp h g w){c:C}{v:Value}(E:CR w w0.heap.size Zp h g c v){k:C→HM}{x:A×aP×Log}(e:(kr true c k).eval next h L=some x):
  ∃K p g1 y,(k K).eval next p y=some x∧HR w0 Z0 Zp p g1 w∧Le Zp h g w p g1 w∧Fz h g p g1∧CR w w0.heap.size Zp p g1 K v:=by
 cases c
 case vec o=>
  simp only[kr]at e;have e:=bq e;obtain⟨D,S,M⟩:=E
  split at e
  ·rename_i i l u;have e:=cn e;obtain⟨g1,I,y,F⟩:=R.freeze u;have d:=I.ob o;rw[aG,if_pos rfl]at d;obtain⟨Q,B,b,z,N,O,q,a,n,H⟩:=d;obtain⟨J,j,rfl⟩:=M i (ac l) (by rw[u];rfl);have:J=b:=by
    have:=y.hm o D (by rw[aG,if_pos rfl];simp);rw[this,j]at q;cases q;rfl
   subst this;exact⟨_,_,g1,_,e,I,y,F,Rr a n (fun _ _ h=>h) H,trivial⟩
  ·rename_i i l u;have d:=R.ob o;rw[u]at d;obtain⟨Q,B,b,z,N,O,q,a,n,H⟩:=d;obtain⟨J,j,rfl⟩:=M i (ac l) (by rw[u];rfl);rw[j]at q;cases q;exact⟨_,_,g,_,e,R,Le.refl _ _ _ _,Fz.refl _ _,Rr a n (fun _ _ h=>h) H,trivial⟩
  ·exact(af e).elim
 case sl i l t=>exact⟨_,h,g,L,e,R,Le.refl _ _ _ _,Fz.refl _ _,E.1,trivial⟩
 all_goals exact⟨_,h,g,L,e,R,Le.refl _ _ _ _,Fz.refl _ _,E⟩
theorem cW:∀(cs:List C) (vs:List Value) (h:aP) (g:G) (L:Log) (k:List C→HM) (a:A×aP×Log),HR w0 Z0 Zp h g w→cw w w0.heap.size Zp h g cs vs→(fh true cs k).eval next h L=some a→
  ∃b i g1 u,(k b).eval next i u=some a∧HR w0 Z0 Zp i g1 w∧Le Zp h g w i g1 w∧Fz h g i g1∧cw w w0.heap.size Zp i g1 b vs
 |[],vs,h,g,L,k,a,R,n,e=>⟨[],h,g,L,e,R,Le.refl _ _ _ _,Fz.refl _ _,n⟩
 |c::cs,vs,h,g,L,k,a,R,n,e=>by
  obtain⟨v,d,rfl,i,J⟩:=n;obtain⟨D,K,H,x,E,z,j,q,o⟩:=wY R i e;obtain⟨b,M,I,y,F,B,l,t,p⟩:=cW cs d K H x _ a z (cw.mono j _ _ J) E;exact⟨D::b,M,I,y,F,B,j.trans l,q.trans t,⟨v,d,rfl,CR.mono l _ _ o,p⟩⟩
def vI(h:aP)(g:G)(w:World):G:=
 { g with Z:=fun b i=>g.Z b i∨(∃o e,∃l:List (Ty.den e),look .dead o h= .row e l∧g.hm o=some b∧(w.cell? ⟨b,i,none⟩).isSome=true)∨∃c id,GL h g c id b∧(w.cell? ⟨b,i,none⟩).isSome=true }
theorem rC(h:aP)(g:G)(w:World):bQ w w g.Z (vI h g w).Z:=fun _ _ a=>⟨.inl a,rfl⟩
theorem Ta(h:aP)(g:G)(w:World):Le Zp h g w h (vI h g w) w:=
 ⟨fun _ h=>h,rC h g w,bQ.refl _ _,fun _ _=>Ob.to.refl _,fun _ _ _=>rfl,fun _ _ _=>⟨rfl,fun _ _=>rfl⟩,fun _ _ _ h=>h⟩
theorem Ch(R:HR w0 Z0 Zp h g w){c:C}{v:Value}(B:CR w w0.heap.size Zp h g c v){k:C→HM}{x:A×aP×Log}(e:(kr false c k).eval next h L=some x):
  ∃E H,(k E).eval next h H=some x∧CR w w0.heap.size Zp h (vI h g w) E v:=by
 cases c
 case vec o=>
  simp only[kr]at e;have e:=bq e;obtain⟨M,Q,F⟩:=B
  split at e
  ·rename_i d l q;have j:=R.ob o;rw[q]at j;obtain⟨K,z,b,y,J,u,a,p⟩:=j;obtain⟨I,n,rfl⟩:=F d (ac l) (by rw[q];rfl);rw[n]at u;cases u;exact⟨_,_,e,Rr a p (fun _ _ h=> .inl h) (fun i D=> .inr (.inl ⟨o,d,l,q,n,by rw[eM a];simp[D]⟩)),trivial⟩
  ·rename_i d l q;have j:=R.ob o;rw[q]at j;obtain⟨K,z,b,y,J,O,u,a,p,N⟩:=j;obtain⟨I,n,rfl⟩:=F d (ac l) (by rw[q];rfl);rw[n]at u;cases u;exact⟨_,_,e,Rr a p (fun _ _ h=> .inl h) (fun i D=> .inl (N i D)),trivial⟩
  ·exact(af e).elim
 case sl d l t=>exact⟨_,L,e,PR.mono (rC h g w) (bQ.refl _ _) _ _ _ B.1,trivial⟩
 all_goals exact⟨_,L,e,CR.mono (Ta h g w) _ _ B⟩
theorem mi(R:HR w0 Z0 Zp h g w):∀(cs:List C) (vs:List Value) (L:Log) (k:List C→HM) (a:A×aP×Log),cw w w0.heap.size Zp h g cs vs→(fh false cs k).eval next h L=some a→
  ∃b n,(k b).eval next h n=some a∧cw w w0.heap.size Zp h (vI h g w) b vs
 |[],vs,L,k,a,i,e=>⟨[],L,e,i⟩
 |c::cs,vs,L,k,a,i,e=>by
  obtain⟨v,d,rfl,x,y⟩:=i;obtain⟨q,o,t,j⟩:=Ch R x e;obtain⟨b,p,u,l⟩:=mi R cs d o _ a y t;exact⟨q::b,p,u,⟨v,d,rfl,j,l⟩⟩
theorem Zb(_:HR w0 Z0 Zp h g w){x:A}{v:Value}(j:AR w w0.heap.size Zp h g x v)(e:(acN x).eval next h L=some (r,h',L')):
  h'=h∧∃(n:Nat) (a:Option Addr) (c:Nat),v= .slice a n c∧r= .v false [.int .i64 n]:=by
 unfold acN at e
 split at e
 ·obtain⟨rfl,rfl,_⟩:=dt e;obtain⟨⟨D,t,H,p,_⟩,_⟩:=j.c;simp at p;exact⟨rfl,_,_,_,p,rfl⟩
 ·obtain⟨rfl,rfl,_⟩:=dt e;have:=j.c;simp only[CR]at this;exact⟨rfl,0,_,_,this,rfl⟩
 ·rename_i c y;obtain⟨rfl,rfl,_⟩:=dt e
  cases y with
  |none=>exact⟨rfl,0,_,_,j.c,rfl⟩
  |some q=>
   obtain⟨i,a,n⟩:=q;obtain⟨b,k,t,F,_,_,_,_,p⟩:=j.c;exact⟨rfl,n,_,_,p,rfl⟩
 ·rename_i o;have e:=bq e;obtain⟨B,E,z⟩:=j.c
  split at e
  ·rename_i d l u;obtain⟨rfl,rfl,_⟩:=dt e;obtain⟨b,_,rfl⟩:=z d (ac l) (by rw[u];rfl);exact⟨rfl,_,_,_,rfl,rfl⟩
  ·rename_i d l u;obtain⟨rfl,rfl,_⟩:=dt e;obtain⟨b,_,rfl⟩:=z d (ac l) (by rw[u];rfl);exact⟨rfl,_,_,_,rfl,rfl⟩
  ·exact(af e).elim
 ·exact(af e).elim
theorem EQ{α:Type}{l m:List α}{a b:Int}(c:slc l a b=some m):0≤a∧a≤b∧b≤l.length∧m=(l.take b.toNat).drop a.toNat:=by
 unfold slc at c
 split at c
 ·rename_i d;cases c;exact⟨d.1,d.2.1,d.2.2,rfl⟩
 ·cases c
theorem mj{x:Option A}{v:Option Value}{d n:Int}(b:match x,v with |none,none=>True |some a,some u=>AR w base Zp h g a u |_,_=>False)(e:YP x d=some n):
  (v=none∧n=d)∨∃k,v=some (.int k n):=by
 unfold YP at e
 split at e
 ·cases e
  cases v with
  |none=>exact .inl ⟨rfl,rfl⟩
  |some _=>exact b.elim
 ·rename_i k m
  cases e
  cases v with
  |none=>exact b.elim
  |some u=>have:=AR.c b;simp only[CR]at this;exact .inr ⟨k,by rw[this]⟩
 ·cases e
theorem kR{k:IntKind}{n:Int}{y:Nat}{a:BoundsCode}(b:0≤n)(c:n≤y):(Instr.sliceBound (.int k n) y a).run P w= .ok n.toNat w:=by
 simp[Instr.sliceBound,asIntOf,b,c]
theorem ml{isS:Bool}{len cap:Nat}{lo i:Option Value}{a b:Int}(p:len≤cap)(q:0≤a)(x:a≤b)(y:b≤len)
  (j:(lo=none∧a=0)∨∃k,lo=some (.int k a)) (d:(i=none∧b=len)∨∃k,i=some (.int k b)):
  (Instr.sliceBounds isS len cap lo i none).run P w= .ok (a.toNat,b.toNat,cap) w:=by
 have t:((b.toNat:Nat):Int)=b:=by omega
 have o:∀(c:BoundsCode) (k:IntKind),(Instr.sliceBound (.int k b) cap c).run P w= .ok b.toNat w:=fun c k=>kR (by omega) (by omega);have n:∀(c:BoundsCode) (k:IntKind),(Instr.sliceBound (.int k a) b.toNat c).run P w= .ok a.toNat w:=fun c k=>kR q (by omega);rcases j with⟨rfl,rfl⟩|⟨u,rfl⟩<;>rcases d with⟨rfl,rfl⟩|⟨z,rfl⟩
 ·simp[Instr.sliceBounds]
 ·simp[Instr.sliceBounds,o]
 ·have l:=fun c=>n c u;rw[aH]at l;simp[Instr.sliceBounds,l]
 ·simp[Instr.sliceBounds,o,n]
theorem Ka{isS:Bool}{len cap:Nat}{lo l:Option Value}{a b m:Int}{km:IntKind}{kb:IntKind}(hm:m≤cap)(n:0≤a)(q:a≤b)(t:b≤m)
  (i:(lo=none∧a=0)∨∃k,lo=some (.int k a)) (d:l=some (.int kb b)):
  (Instr.sliceBounds isS len cap lo l (some (.int km m))).run P w= .ok (a.toNat,b.toNat,m.toNat) w:=by
 have j:∀(c:BoundsCode),(Instr.sliceBound (.int km m) cap c).run P w= .ok m.toNat w:=fun c=>kR (by omega) (by omega);have p:∀(c:BoundsCode),(Instr.sliceBound (.int kb b) m.toNat c).run P w= .ok b.toNat w:=fun c=>kR (by omega) (by omega);have o:∀(c:BoundsCode) (k:IntKind),(Instr.sliceBound (.int k a) b.toNat c).run P w= .ok a.toNat w:=fun c k=>kR n (by omega);subst d;rcases i with⟨rfl,rfl⟩|⟨u,rfl⟩<;>simp[Instr.sliceBounds]<;>rw[j]<;>simp<;>rw[p]<;>simp
 rw[o];simp
theorem bY.take_drop{α:Type}{R:α→List Value→Prop}{k:Nat}(j:∀x es,R x es→es.length=k):∀(n:Nat) (l:List α) (vs:List Value),bY R l vs→bY R (l.take n) (vs.take (n*k))∧bY R (l.drop n) (vs.drop (n*k))
 |0,l,vs,hh=>by simp[bY];exact hh
 |n+1,[],vs,hh=>by simp[bY]at hh;subst hh;simp[bY]
 |n+1,x::l,vs,⟨es,a,e,i,p⟩=>by
  have y:=j _ _ i;have D:(n+1)*k=es.length+n*k:=by rw[y,bw];omega
  subst e;obtain⟨E,H⟩:=bY.take_drop j n l a p;rw[D,List.take_length_add_append,List.drop_length_add_append];exact⟨⟨es,_,rfl,i,E⟩,H⟩
theorem Tb(e:Ty)(l:List e.den):lM e e l=some l:=by
 unfold lM
 cases a:decEq e e with
 |isTrue h=>rfl
 |isFalse h=>exact absurd rfl h
theorem Ty.DC:∀(τ:Ty) (x:τ.den) (r:List C),τ.bH=true→τ.take (τ.cells x++r)=some (x,r)
 |.bool,_,_,_=>rfl
 |.int k,x,r,_=>by
  simp only[Ty.cells,cK,ct,Ty.take]
  cases hd:decEq k k with
  |isTrue h=>rfl
  |isFalse h=>exact absurd rfl h
 |.str,_,_,_=>rfl
 |.sl e,l,r,_=>by
  simp only[Ty.cells,cK,ct,Ty.take];rw[Tb e l]
 |.pair a b,x,r,i=>by
  simp only[Ty.bH,ah]at i;simp only[Ty.cells,Ty.take,bI,Ty.DC a _ _ i.1,Ty.DC b _ _ i.2];rfl
 |.unit,_,_,_=>rfl
 |.ref _,_,_,i=>by simp[Ty.bH]at i
 |.cl _ _,_,_,i=>by simp[Ty.bH]at i
 |.fn f,_,r,_=>by
  simp only[Ty.cells,cK,ct,Ty.take]
  cases hd:decEq f f with
  |isTrue h=>rfl
  |isFalse h=>exact absurd rfl h
theorem Ty.tn{base:Nat}{τ:Ty}(a:τ.bH=true){x:τ.den}{vs:List Value}(i:cw w base Zp h g (τ.cells x) vs):PR w g.Z Zp τ x vs:=by
 refine da a i ?_;unfold Ty.cf;have:=Ty.DC τ x [] a;rw[ab1]at this;rw[this]
theorem Zc{α:Type}{H:List (Option (List α))}{i a n:Nat}{l:List α}(b:gsL H (some (i,a,n))=some l):∃c,H[i]? =some (some c)∧a+n≤c.length∧l=(c.drop a).take n:=by
 unfold gsL at b;simp only at b
 split at b
 ·rename_i c j
  split at b
  ·rename_i d;cases b;exact⟨c,eB j,d,rfl⟩
  ·cases b
 ·cases b
theorem Rs(R:HR w0 Z0 Zp h g w){c:Nat}{wr:Bool}{V:VT}{H:List (Option (List V.den))}(O:look .dead c h= .gh wr (.bf V) H){i a n:Nat}{l:List V.den}{v:Value}(T:CR w w0.heap.size Zp h g (.gs c (some (i,a,n))) v)(U:gsL H (some (i,a,n))=some l):
  ∃b k cap cur e0 o,g.pm c i=some (b,k,cap,V.size)∧w.heap[b]? =some (.cells cur e0 (0,0))∧cur.size=k+cap*V.size∧a+n≤cap∧cap≤maxLen∧(a<cap→o=k+a*V.size)∧v= .slice (some ⟨b,o,none⟩) n (cap -a)∧l.length=n∧GL h g c i b∧0<V.size∧
   bY (fun y q=>cw w w0.heap.size Zp h g (V.cells y) q) l ((cur.toList.drop (k+a*V.size)).take (n*V.size))∧∃d,H[i]? =some (some d)∧a+n≤d.length∧l=(d.drop a).take n:=by
 obtain⟨d,u,p,rfl⟩:=Zc U;obtain⟨F,b,k,cap,cur,e0,E,t,J,W,B,I⟩:=R.gh.me c wr (.bf V) H i d O u;obtain⟨b',k',K,Z,o,Q,z,D,rfl⟩:=T;rw[E]at Q;cases Q;have N:∀(x:V.den) (q:List Value),cw w w0.heap.size Zp h g (V.cells x) q→q.length=V.size:=fun x q Y=>(cw.length _ _ Y).trans (VT.et V x);refine⟨b,k,cap,cur,e0,o,E,t,J,z,B,D,rfl,?_,⟨wr,.bf V,H,d,_,O,u,E,rfl⟩,F,?_,d,u,p,rfl⟩
 ·have j:a+n≤ac d:=p;rw[aR,cy];omega
 ·have M:=(bY.take_drop N n _ _ (bY.take_drop N a _ _ I).2).1;have j:a+n≤ac d:=p;have S:(List.drop (a*V.size) (List.take (ac d*V.size) (List.drop k cur.toList))).take (n*V.size)=(cur.toList.drop (k+a*V.size)).take (n*V.size):=by
   rw[List.drop_take,List.take_take,List.drop_drop];congr 1;have:(a+n)*V.size≤ac d*V.size:=aW _ j;rw[bw]at this;omega
  rw[S]at M;exact M
theorem VE(R:HR w0 Z0 Zp h g w){σ:Ty}{c:Nat}{x:Option (Nat×Nat×Nat)}{v:Value}(E:CR w w0.heap.size Zp h g (.gs c x) v){k:List σ.den→HM}{D:A×aP×Log}(e:(EF σ c x k).eval next h L=some D):
  ∃l T,(k l).eval next h T=some D∧PR w (vI h g w).Z Zp (.sl σ) l [v]:=by
 unfold EF at e;have e:=bq e
 split at e
 ·rename_i wr K H ho
  split at e
  ·rename_i H' W hn;obtain⟨Y,rfl⟩:=dJ W;subst Y;obtain⟨l,O,e⟩:=aN e;refine⟨l,_,e,?_⟩
   cases x with
   |none=>
    cases O;have E:v= .slice none 0 0:=E;subst E;exact⟨none,0,[],rfl,av _,rfl,fun h=>absurd rfl h⟩
   |some q=>
    obtain⟨i,a,n⟩:=q;obtain⟨b,kk,p,U,e0,o,hp,B,hsz,z,_,t,rfl,d,V,S,M,_⟩:=Rs R ho E O;have d: @ac σ.den l=n:=d;subst d;have I: @ac σ.den l≤p -a:=by
     have:a+ @ac σ.den l≤p:=z;omega
    refine⟨_,_,_,rfl,I,bY.mono (fun y es hy=>PR.mono (rC h g w) (bQ.refl _ _) _ _ _ (Ty.tn hn hy)) _ _ M,fun J=>⟨b,_,rfl,fun j u hj=> ?_⟩⟩;have Q:0< @ac σ.den l:=by
     rcases Nat.eq_zero_or_pos (@ac σ.den l)with F |F
     ·exfalso;apply J;rw[F];simp
     ·exact F
    have t:=t (by have:a+ @ac σ.den l≤p:=z;omega);subst t;have N:=g8 B _ _ j u hj;exact⟨N,.inr (.inr ⟨c,i,V,by rw[N];rfl⟩)⟩
  ·exact(af e).elim
 ·exact(af e).elim
theorem Rt(R:HR w0 Z0 Zp h g w){σ:Ty}{c:Nat}{x:Option (Nat×Nat×Nat)}{v:Value}(F:CR w w0.heap.size Zp h g (.gs c x) v){K:GK}{H:List (Option K.me)}(Q:look .dead c h= .gh true K H){Y:List (Option (GK.bf (.data σ)).me)}(hH:gu K (.bf (.data σ)) H=some Y)(hn:σ.bH=true)
  {r:List σ.den×List (Option (List σ.den))} (I:gsF Y x=some r):
  ∃g1,HR w0 Z0 Zp ((c,.gh true (.bf (.data σ)) r.2)::h) g1 w∧Le Zp h g w ((c,.gh true (.bf (.data σ)) r.2)::h) g1 w∧Fz h g ((c,.gh true (.bf (.data σ)) r.2)::h) g1∧PR w g1.Z Zp (.sl σ) r.1 [v]:=by
 obtain⟨hK,rfl⟩:=dJ hH;subst hK
 cases x with
 |none=>
  cases I;have F:v= .slice none 0 0:=F;subst F;have D:∀o,look .dead o h=look .dead o ((c,Ob.gh true (.bf (.data σ)) H)::h):=fun o=>by
   rw[aG]
   split
   ·rename_i F;subst F;exact Q
   ·rfl
  exact⟨g,R.same D,Le.same D,⟨rfl,fun S id b ⟨wr,K,H1,x,e,E,k⟩=>⟨wr,K,H1,x,e,(D S).trans E,k⟩⟩,none,0,[],rfl,av _,rfl,fun h=>absurd rfl h⟩
 |some q=>
  obtain⟨i,a,n⟩:=q;unfold gsF at I;simp only at I
  split at I
  ·rename_i l hl
   cases I;obtain⟨b,kk,p,cur,e0,o,hp,N,hsz,J,_,B,rfl,d,hG,hpos,W,l0,O,_⟩:=Rs R Q F hl;obtain⟨R',L'⟩:=R.aeL (K:=.bf (.data σ)) Q O hp rfl true rfl;have V:i<H.length:=(List.getElem?_eq_some_iff.1 O).1;refine⟨_,R',L',⟨rfl,fun S id b' ⟨wr,K,H1,x,e,E,k,h3,h4⟩=> ?_⟩,?_⟩
   ·by_cases M:S=c
    ·subst M;rw[aG,if_pos rfl]at E
     cases E;have k:(List.set (α:=Option (GK.bf (.data σ)).me) H i none)[id]? =some (some x):=k
     have t:id≠i:=by intro h;subst h;rw[cB V]at k;cases k
     rw[cA (Ne.symm t)]at k;exact⟨true,.bf (.data σ),H,x,e,Q,k,h3,h4⟩
    ·rw[aG,if_neg (Ne.symm M)]at E;exact⟨wr,K,H1,x,e,E,k,h3,h4⟩
   ·have d: @ac σ.den l=n:=d;subst d;have U: @ac σ.den l≤p -a:=by
     have:a+ @ac σ.den l≤p:=J;omega
    refine⟨_,_,_,rfl,U,bY.mono (fun y es hy=>PR.mono L'.z L'.zp _ _ _ (Ty.tn hn hy)) _ _ W,fun t=>⟨b,_,rfl,fun j u hj=> ?_⟩⟩;have akf:0< @ac σ.den l:=by
     rcases Nat.eq_zero_or_pos (@ac σ.den l)with T |T
     ·exfalso;apply t;rw[T];simp
     ·exact T
    have B:=B (by have:a+ @ac σ.den l≤p:=J;omega);subst B;exact⟨g8 N _ _ j u hj,.inr ⟨rfl,rfl⟩⟩
  ·cases I
theorem Zd{Z:bj}{e:Ty}{l:List e.den}{o:Option Addr}{cap:Nat}(Q:PR w Z Zp (.sl e) l [.slice o (ac l) cap]){a b:Nat}(N:a≤b)(R:b≤ac l)(m:Nat)(hm:b≤m)(_:0<e.size):
  PR w Z Zp (.sl e) ((List.take b l).drop a:List e.den) [.slice (if m=a then o else o.map (·.add (a*e.size))) (b -a) (m -a)]:=by
 obtain⟨I,D,B,H,E,x,p⟩:=Q;simp at H;obtain⟨rfl,rfl⟩:=H;have F:=PR.k (w:=w) (Z:=Z) (Zp:=Zp) e;have K:=(bY.take_drop F b l B x).1;have M:=(bY.take_drop F a _ _ K).2;have c:ac ((List.take b l).drop a)=b -a:=by simp;omega
 refine⟨_,_,_,by rw[c],by rw[c];omega,M,fun i=> ?_⟩;have y:B≠[]:=by intro J;subst J;simp at i
 obtain⟨b0,z,rfl,O⟩:=p y;have d:m≠a:=by
  intro d;have q:b=a:=by omega
  apply i;rw[List.drop_eq_nil_iff,aR,q];exact Nat.min_le_left _ _
 refine⟨b0,z+a*e.size,by simp[d,fi],fun j u n=> ?_⟩;have t:B[a*e.size+j]? =some u:=by
  rw[bA,ax]at n
  split at n
  ·exact n
  ·cases n
 have:=O _ _ t;rw[cX];exact this
theorem DD{a:Act}{env:Env}(b:∀t,AR w base Zp h g (look aA t env) (a.tmps.getD t undef))(x:Option Operand):
  match x.map (sV env),x.map a.eval with |none,none=>True |some a,some u=>AR w base Zp h g a u |_,_=>False:=by
 cases x with
 |none=>trivial
 |some x=>exact ce b x
end
section
variable {P:Program} {w0:W0} {w:World} {Z0 Zp:bj} {h h':aP} {g:G} {new next base:Nat} {r:A} {L L':Log} {X:Cx}
theorem toBeq{a b:Bool}(h:(a==b)=true):a=b:=by simpa using h
theorem VF(hX:EA P X.tt)(hV:O2 P X.zF)(R:HR w0 Z0 Zp h g w){t:TypeId}{d:TD}(T:dk P t d){x:A}{vx:Value}{lo hi mx:Option A}{vlo vhi p:Option Value}
  (hx:AR w w0.heap.size Zp h g x vx)
  (J:match lo,vlo with |none,none=>True |some a,some u=>AR w w0.heap.size Zp h g a u |_,_=>False)
  (E:match hi,vhi with |none,none=>True |some a,some u=>AR w w0.heap.size Zp h g a u |_,_=>False)
  (Q:match mx,p with |none,none=>True |some a,some u=>AR w w0.heap.size Zp h g a u |_,_=>False)
  (e:(Vy X d x lo hi mx).eval next h L=some (r,h',L')):
  ∃u g',(Instr.sliceAt t vx vlo vhi p).run P w= .ok u w∧HR w0 Z0 Zp h' g' w∧Le Zp h g w h' g' w∧Fz h g h' g'∧AR w w0.heap.size Zp h' g' r u:=by
 unfold Vy at e
 split at e
 ·rename_i W;have K:p=none:=by cases p with |none=>rfl |some _=>exact Q.elim
  subst K
  split at e
  ·rename_i s;have hs:=hx.c;simp only[CR]at hs;subst hs
   split at e
   ·rename_i a b ha hb;obtain⟨m,O,e⟩:=aN e;obtain⟨rfl,rfl,_⟩:=bz e;obtain⟨I,N,h2,rfl⟩:=EQ O;have S0:=mj E hb;refine⟨_,g,?_,R,Le.refl _ _ _ _,Fz.refl _ _,AR.jU (v:=.string ((⟨s.toArray⟩:ByteArray).extract a.toNat b.toNat)) ?_⟩
    ·have:=ml (P:=P) (w:=w) (isS:=false) (len:=s.length) (cap:=s.length) (av _) I N h2 (mj J ha) S0;simp[Instr.sliceAt,Instr.slice,run_underlying (T.string W),zN,this]
    ·simp only[CR];congr 1;apply ByteArray.ext;apply Array.ext';simp[List.drop_take]
   ·exact(af e).elim
  ·exact(af e).elim
 ·rename_i te W;have K:p=none:=by cases p with |none=>rfl |some _=>exact Q.elim
  subst K
  split at e
  ·rename_i c y
   split at e
   ·rename_i V' j F hV' Z Y;have e:=bq e
    split at e
    ·rename_i wr V H ho
     split at e
     ·rename_i ahd D;rw[←S9 ahd]at hV';obtain⟨z,M,e⟩:=aN e;obtain⟨rfl,rfl,_⟩:=bz e;have B:=(hV.get hV').sizeOf (P:=P);have hgN:=hx.c
      cases y with
      |none=>
       unfold gsS at M;simp only at M
       split at M
       ·rename_i I
        cases M;obtain⟨rfl,rfl⟩:=I;have hx:vx= .slice none 0 0:=hgN;subst hx;refine⟨.slice none 0 0,g,?_,R,Le.refl _ _ _ _,Fz.refl _ _,AR.jU rfl⟩;have S0:=mj E Y;have:=ml (P:=P) (w:=w) (isS:=true) (len:=0) (cap:=0) (av _) (Int.le_refl 0) (Int.le_refl 0) (Int.le_refl 0) (mj J Z) S0;simp at this;simp[Instr.sliceAt,Instr.slice,run_underlying (T.slice W),this,B]
       ·cases M
      |some q=>
       obtain⟨i,a0,n⟩:=q;unfold gsS at M;simp only at M
       split at M
       ·rename_i I
        cases M;obtain⟨I,N,h2⟩:=I;obtain⟨b,k,cap,sz,o,S,hac,hoo,hv⟩:=hgN;have hsz:=R.gh.psz c _ V H i _ ho S;simp only at hsz;subst hsz;subst hv;have:=ml (P:=P) (w:=w) (isS:=true) (len:=n) (cap:=cap -a0) (by omega) I N h2 (mj J Z) (mj E Y)
        by_cases O:cap -a0=j.toNat
        ·refine⟨.slice (some ⟨b,o,none⟩) (F -j).toNat (cap -(a0+j.toNat)),g,?_,R,Le.refl _ _ _ _,Fz.refl _ _,AR.jU ⟨b,k,cap,V.size,o,S,by omega,fun h=>by omega,rfl⟩⟩;have e1:F.toNat -j.toNat=(F -j).toNat:=by omega
         have e2:cap -a0 -j.toNat=cap -(a0+j.toNat):=by omega
         rw[O]at this;simp[Instr.sliceAt,Instr.slice,run_underlying (T.slice W),O,this,B,e1,←e2]
        ·have hoo:=hoo (by omega);refine⟨.slice (some ⟨b,k+(a0+j.toNat)*V.size,none⟩) (F -j).toNat (cap -(a0+j.toNat)),g,?_,R,Le.refl _ _ _ _,Fz.refl _ _,AR.jU ⟨b,k,cap,V.size,_,S,by omega,fun _=>rfl,rfl⟩⟩;have e1:F.toNat -j.toNat=(F -j).toNat:=by omega
         have e2:cap -a0 -j.toNat=cap -(a0+j.toNat):=by omega
         simp[Instr.sliceAt,Instr.slice,run_underlying (T.slice W),this,B,O,e1,←e2,hoo,fi,bw,cX]
       ·cases M
     ·exact(af e).elim
    ·exact(af e).elim
   ·exact(af e).elim
  ·rename_i c _;obtain⟨c',N,g1,L1,e,R1,XE,Ru,hc1⟩:=wY R hx.c e
   split at e
   ·rename_i ety l tk
    split at e
    ·rename_i hse;obtain⟨D,B⟩:=o8 hX hse
     split at e
     ·rename_i a b ha hb;obtain⟨m,O,e⟩:=aN e;obtain⟨rfl,rfl,_⟩:=bz e;obtain⟨I,N,h2,rfl⟩:=EQ O;obtain⟨S,_⟩:=hc1;have hp2:=S;obtain⟨bs,cap,us,hv,U,_⟩:=hp2;simp at hv;subst hv;have hsl:=Zd (w:=w) (Zp:=Zp) S (a:=a.toNat) (b:=b.toNat) (by omega) (by omega) cap (by omega) D;refine⟨_,g1,?_,R1,XE,Ru,AR.jU ⟨hsl,trivial⟩⟩;have:=ml (P:=P) (w:=w) (isS:=true) (len:=ac l) (cap:=cap) U I N h2 (mj J ha) (mj E hb);simp[Instr.sliceAt,Instr.slice,run_underlying (T.slice W),this,B]
     ·exact(af e).elim
    ·exact(af e).elim
   ·exact(af e).elim
  ·exact(af e).elim
 ·rename_i te m0 W;obtain⟨um,rfl⟩:∃um,p=some um:=by cases p with |none=>exact Q.elim |some u=>exact⟨u,rfl⟩
  split at e
  ·rename_i c;obtain⟨c',N,g1,L1,e,R1,XE,Ru,hc1⟩:=wY R hx.c e
   split at e
   ·rename_i ety l tk
    split at e
    ·rename_i hse;obtain⟨D,B⟩:=o8 hX hse
     split at e
     ·rename_i a b m ha hb hm0;obtain⟨_,hmm,e⟩:=aN e;obtain⟨m2,O,e⟩:=aN e;obtain⟨rfl,rfl,_⟩:=bz e;obtain⟨I,N,h2,rfl⟩:=EQ O;obtain⟨h3,h4,h5,_⟩:=EQ hmm;obtain⟨S,_⟩:=hc1;have hp2:=S;obtain⟨bs,cap,us,hv,U,_⟩:=hp2;simp at hv;subst hv;have hsl:=Zd (w:=w) (Zp:=Zp) S (a:=a.toNat) (b:=b.toNat) (by omega) (by omega) m.toNat (by omega) D;rcases mj (x:=some m0) (v:=some um) Q hm0 with⟨h6,_⟩|⟨km,h6⟩
      ·cases h6
      cases h6
      cases hi with
      |none=>cases hb
      |some hi0=>
      cases vhi with
      |none=>exact E.elim
      |some ahf=>
      rcases mj (x:=some hi0) (v:=some ahf) E hb with⟨h6,_⟩|⟨kb,h6⟩
      ·cases h6
      ·cases h6;refine⟨_,g1,?_,R1,XE,Ru,AR.jU ⟨hsl,trivial⟩⟩;have:=Ka (P:=P) (w:=w) (isS:=true) (len:=ac l) (cap:=cap) (km:=km) (kb:=kb) (m:=m) (a:=a) (b:=b) (by omega) I N h4 (mj J ha) rfl;simp[Instr.sliceAt,Instr.slice,run_underlying (T.slice W),this,B]
     ·exact(af e).elim
    ·exact(af e).elim
   ·exact(af e).elim
  ·exact(af e).elim
 ·exact(af e).elim
def XF(w w1:World):Prop:=w1=w∨w1=w.drew
theorem XF.heap{w1:World}(a:XF w w1):w1.heap=w.heap:=by rcases a with rfl |rfl<;>rfl
theorem XF.ext{w1:World}(i:XF w w1)(a:w0.Extends w):w0.Extends w1:=by
 rcases i with rfl |rfl
 ·exact a
 ·exact a.drew
theorem bl.alloc(R:HR w0 Z0 Zp h g w)(E:¬ g.al new){j:Sem Next}{w1:World}(D:XF w w1){cur:Array Value}{e0:TypeId}{v:Value}(x:Ob)(k:Nat)
  (hr:j.run P w= .ok (.value v) (w1.alloc (.cells cur e0)))
  (J:Le Zp h g w ((new,x)::h) (sX g new (some w.heap.size) k) (w1.alloc (.cells cur e0))→
   (w1.alloc (.cells cur e0)).heap[w.heap.size]? =some (.cells cur e0 (0,0))→
   EO (w1.alloc (.cells cur e0)) w0.heap.size Zp ((new,x)::h) (sX g new (some w.heap.size) k) new x∧
   AR (w1.alloc (.cells cur e0)) w0.heap.size Zp ((new,x)::h) (sX g new (some w.heap.size) k) r v)
  (p:x.open? =true→k=0):bl P w0 Z0 Zp h g w new j r ((new,x)::h):=by
 have y:(w1.alloc (.cells cur e0)).heap=w.heap.push (.cells cur e0):=by
  show w1.heap.push _=_;rw[D.heap]
 have a:=Le.alloc R E x k y;have i:(w1.alloc (.cells cur e0)).heap[w.heap.size]? =some (.cells cur e0 (0,0)):=by rw[y];simp
 obtain⟨H,I⟩:=J a i;exact⟨_,v,_,_,hr,.inl rfl,R.alloc E x k y ((D.ext R.ext).alloc _) H p,a,I,fun o p=>p⟩
theorem n3(g:G)(new:Nat)(b:Option Nat)(k:Nat):(sX g new b k).hm new=b:=kQ _ _ _
theorem Rv(g:G)(new:Nat)(b:Option Nat)(k:Nat):(sX g new b k).lo new=k:=kQ _ _ _
theorem Ze(new:Nat)(x:Ob)(h:aP):look .dead new ((new,x)::h)=x:=by rw[aG,if_pos rfl]
theorem ij{base:Nat}:∀τ:Ty,cw w base Zp h g τ.i6 τ.g7
 |.bool=>⟨_,[],rfl,rfl,rfl⟩
 |.int _=>⟨_,[],rfl,rfl,rfl⟩
 |.str=>⟨_,[],rfl,rfl,rfl⟩
 |.sl _=>⟨_,[],rfl,rfl,rfl⟩
 |.pair a b=>cw.append _ _ _ _ (ij a) (ij b)
 |.unit=>rfl
 |.ref _=>⟨_,[],rfl,rfl,rfl⟩
 |.fn _=>⟨_,[],rfl,rfl,rfl⟩
 |.cl _ _=>⟨_,[],rfl,rfl,rfl⟩
theorem XG(R:HR w0 Z0 Zp h g w)(k:¬ g.al new){t:TypeId}{d:TD}(T:dk P t d){τ:Ty}(l:d.zero=true)(n:d.ty=some τ):
  bl P w0 Z0 Zp h g w new (do pure (.value (←Instr.alloc t true (.tuple #[])))) (.v false [.ptr new 0]) ((new,.cells τ.i6)::h):=by
 obtain⟨i,z,j,_,_,b,c,_⟩:=T.zeroV l n;refine bl.alloc R k (w1:=w) (.inl rfl) (cur:=z.cells) (e0:=t) (v:=.pointer (some ⟨w.heap.size,0,none⟩)) _ 0 ?_ (fun o a=>⟨⟨_,_,_,n3 _ _ _ _,a,?_⟩,AR.jU ⟨.inr rfl,⟨_,rfl⟩,fun _=>⟨_,n3 _ _ _ _,rfl⟩⟩⟩) (fun _=>rfl)
 ·simp[Instr.alloc,zeroValue,typeInfo,j,b,newVar,newRow,newObj,Sem.run]
 ·rw[c];exact ij τ
theorem g9{base:Nat}{b:Bool}{cs:List C}{v:Value}(c:cs.all C.known=true)(hh:VR w base Zp h g b cs v):cw w base Zp h g cs v.cells.toList:=by
 cases b with
 |true=>obtain⟨d,rfl,a⟩:=hh;simpa[Value.cells]using a
 |false=>
  have a:v.oneCell'=true:=cw.one cs [v] c hh v (by simp);have:v.cells= #[v]:=by cases v<;>simp[dp]at a<;>rfl
  rw[this];exact hh
theorem aa3(R:HR w0 Z0 Zp h g w)(i:¬ g.al new){t:TypeId}{c:Bool}{cs:List C}{v:Value}(d:cs.all C.known=true)(hh:VR w w0.heap.size Zp h g c cs v):
  bl P w0 Z0 Zp h g w new (do pure (.value (←Instr.box t v))) (.v false [.ptr new 0]) ((new,.cells cs)::h):=by
 refine bl.alloc R i (w1:=w) (.inl rfl) (cur:=v.cells) (e0:=t) (v:=.pointer (some ⟨w.heap.size,0,none⟩)) _ 0 ?_ (fun b a=>⟨⟨_,_,_,n3 _ _ _ _,a,?_⟩,AR.jU ⟨.inr rfl,⟨_,rfl⟩,fun _=>⟨_,n3 _ _ _ _,rfl⟩⟩⟩) (fun _=>rfl)
 ·simp[Instr.box,newVar,newRow,newObj,Sem.run]
 ·exact cw.mono b _ _ (g9 d hh)
end
section
variable {P:Program} {w0:W0} {w w':World} {Z0 Zp:bj} {h h':aP} {g:G} {new next base:Nat} {r:A} {L L':Log} {X:Cx}
theorem n4(a:w0.Extends w)(d:w'.os=w.os)(j:w'.tape=w.tape)(k:w'.output=w.output)(l:w.heap.size≤w'.heap.size)(n:∀i:Nat,i<w0.heap.size→¬ w0.B i→w'.heap[i]? =w.heap[i]?):w0.Extends w':=
 ⟨d.trans a.os,j.trans a.tape,k.trans a.output,Nat.le_trans a.size l,fun i c b=>(n i c b).trans (a.block i c b)⟩
theorem setRow_size(w:World)(b:Nat)(c:Array Value):(w.setRow b c).heap.size=w.heap.size:=by simp[World.setRow]
theorem jY(j:w0.Extends w){b:Nat}(d:w0.heap.size≤b∨w0.B b)(c:Array Value):w0.Extends (w.setRow b c):=
 n4 j rfl rfl rfl (by rw[setRow_size];exact av _) fun i k a=>setRow_other w b i c (fun e=>d.elim (fun h=>by omega) (fun h=>a (e▸h)))
theorem bY.splitAt{α:Type}{R:α→List Value→Prop}{k:Nat}(K:∀x es,R x es→es.length=k):∀(l:List α) (us:List Value) (i:Nat) (x:α),bY R l us→l[i]? =some x→
  ∃a es c,us=a++es++c∧a.length=i*k∧R x es∧∀y j,R y j→bY R (l.set i y) (a++j++c)
 |[],_,i,x,_,D=>by simp at D
 |z::l,_,0,x,⟨es,p,e,E,I⟩,D=>by
  simp at D;subst D;exact⟨[],es,p,by simpa using e,by simp,E,fun y j J=>⟨j,p,by simp,J,I⟩⟩
 |z::l,_,i+1,x,⟨es,p,e,E,I⟩,D=>by
  obtain⟨a,H,c,M,N,O,Q⟩:=bY.splitAt K l p i x I (by simpa using D);refine⟨es++a,H,c,by simp[e,M],by simp[K _ _ E,N,bw];omega,O,fun y j J=>⟨es,a++j++c,by simp,E,Q y j J⟩⟩
theorem mm{base:Nat}{cs:List C}{vs:List Value}{off:Nat}{new:List C}{a:List Value}(b:cw w base Zp h g cs vs)(c:cw w base Zp h g new a):
  cw w base Zp h g (oX cs off new) (vs.take off++a++vs.drop (off+a.length)):=by
 unfold oX;rw[c.length];exact cw.append _ _ _ _ (cw.append _ _ _ _ (cw.take off _ _ b) c) (cw.drop _ _ _ b)
theorem Qg{α:Type}(a b c d:List α)(k:Nat)(i:k+d.length≤b.length):
  (a++b++c).take (a.length+k)++d++(a++b++c).drop (a.length+k+d.length)=a++(b.take k++d++b.drop (k+d.length))++c:=by
 rw[bI a b c,List.take_length_add_append,cX a.length,List.drop_length_add_append,List.take_append_of_le_length (by omega),List.drop_append_of_le_length i];simp[bI]
theorem AR.skip{base:Nat}:AR w base Zp h g nP undef:=⟨[],rfl,rfl⟩
theorem Mz{b off:Nat}{cur:Array Value}{e0:TypeId}{vs:List Value}(a:w.heap[b]? =some (.cells cur e0 (0,0)))(d:off+vs.length≤cur.size)(c:∀v∈vs,v.oneCell'=true):
  (storeCells ⟨b,off,none⟩ vs).run P w= .ok () (w.setRow b (cur.toList.take off++vs++cur.toList.drop (off+vs.length)).toArray):=by
 have:=run_storeCells_at P b off e0 vs 0 cur w a (by simpa using d) c;simpa using this
theorem tp{t:TypeId}{d:TD}(T:dk P t d){b off:Nat}{cur:Array Value}{e0:TypeId}{v:Value}(a:w.heap[b]? =some (.cells cur e0 (0,0)))(j:v.cells.size=d.size)(i:off+v.cells.toList.length≤cur.size)
  (c:∀u∈v.cells.toList,u.oneCell'=true):
  (Instr.storeAt t (.pointer (some ⟨b,off,none⟩)) v).run P w= .ok () (w.setRow b (cur.toList.take off++v.cells.toList++cur.toList.drop (off+v.cells.toList.length)).toArray):=by
 have:=Mz (P:=P) a i c;simp only[ay]at this;simp[Instr.storeAt,Instr.sureAddr,storeVar,T.sizeOf,j,this]
theorem MA{α:Type}(cur:List α)(k n:Nat)(A d C c:List α)(off:Nat)(D:k+n≤cur.length)(p:(cur.drop k).take n=A++d++C)(B:off+c.length≤d.length):
  (cur.take (k+A.length+off)++c++cur.drop (k+A.length+off+c.length)).length=cur.length∧((cur.take (k+A.length+off)++c++cur.drop (k+A.length+off+c.length)).drop k).take n=A++(d.take off++c++d.drop (off+c.length))++C:=by
 obtain⟨b,j⟩:∃b,b=cur.take k:=⟨_,rfl⟩;obtain⟨a,i⟩:∃a,a=cur.drop (k+n):=⟨_,rfl⟩;have x:cur=(b++A)++d++(C++a):=by
  have q:=List.take_append_drop k cur;have t:=List.take_append_drop n (cur.drop k);rw[List.drop_drop,p]at t;rw[←t]at q;rw[←q,j,i];simp[bI]
 have o:b.length=k:=by rw[j,aR];omega
 have z:n=(A++d++C).length:=by rw[←p,aR,cy];omega
 have l:=Qg (b++A) d (C++a) c off B;rw[←x,aE,o]at l;rw[l];have y:((A++(d.take off++c++d.drop (off+c.length))++C)).length=n:=by
  rw[z];simp only[aE,aR,cy];omega
 have u:b++A++(d.take off++c++d.drop (off+c.length))++(C++a)=b++((A++(d.take off++c++d.drop (off+c.length))++C)++a):=by simp only[bI]
 rw[u];refine⟨?_,?_⟩
 ·rw[aE,aE,y,o,i,cy];omega
 ·rw[List.drop_append_of_le_length (by omega),List.drop_eq_nil_of_le (by omega),ct,List.take_append_of_le_length (by omega),bp (by omega)]
theorem XH(R:HR w0 Z0 Zp h g w){t:TypeId}{d:TD}(T:dk P t d){a x:A}{va M:Value}(ha:AR w w0.heap.size Zp h g a va)(hx:AR w w0.heap.size Zp h g x M)
  (e:(Vx d a x).eval next h L=some (r,h',L')):bl P w0 Z0 Zp h g w new (do Instr.storeAt t va M;pure .skip) r h':=by
 unfold Vx at e
 split at e
 ·rename_i o off gg cs
  split at e
  ·rename_i J;simp only[ah]at J;obtain⟨⟨I,hk⟩,VG⟩:=J;have I:=aj I;have e:=bq e
   split at e
   ·rename_i old p
    split at e
    ·rename_i B;have B:=dc B;have e:=cn e;have e:=dg e
     cases e;obtain⟨Rp,hp,hd⟩:=ha.c;obtain⟨b,hb,rfl⟩:=hd (by rw[p];simp);have XI:=R.ob o;rw[p]at XI;obtain⟨b',j,e0,hb',n,hcs⟩:=XI;rw[hb]at hb';cases hb';have u:=g9 hk hx;have U:=u.length;have Vq:=hcs.length;simp only[ay]at Vq U;have E:=cw.one cs _ hk u;have hbb:=R.home o b (by rw[p];simp) hb;have F:=tp (P:=P) T (off:=off) (v:=M) n (by omega) (by simp only[ay];omega) E;obtain⟨R',S⟩:=R.write (w':=w.setRow b (j.toList.take off++M.cells.toList++j.toList.drop (off+M.cells.toList.length)).toArray) (x:=.cells (oX old off cs)) hb (by rw[p];rfl) (by rw[p];exact .inr (.inr (.inl ⟨_,_,rfl,rfl⟩))) rfl
      (fun c J=>setRow_other w b c _ J) (setRow_size _ _ _) (jY R.ext (.inl hbb.1) _)
      (fun L1=>⟨b,_,e0,hb,setRow_heap w b j _ e0 _ n,by
       have:=mm (off:=off) (cw.mono L1 _ _ hcs) (cw.mono L1 _ _ u);simpa using this⟩)
     exact⟨_,undef,_,_,by simp[F],.inr ⟨rfl,rfl⟩,R',S,AR.skip,fun o p=> .inl p⟩
    ·exact(af e).elim
   ·exact(af e).elim
  ·exact(af e).elim
 ·rename_i o i c gg cs
  split at e
  ·rename_i J;simp only[ah]at J;obtain⟨⟨I,hk⟩,VG⟩:=J;have I:=aj I;have u:=g9 hk hx;have E:=cw.one cs _ hk u;obtain⟨cs',h1,g1,L1,e,W,N,Ru,D⟩:=cW cs _ h g L _ _ R u e;have Z:=AR.mono N _ _ ha;have e:=bq e
   split at e
   ·rename_i O l p;obtain⟨x0,hx0,e⟩:=aN e
    split at e
    ·rename_i B;have B:=dc B
     split at e
     ·rename_i y hy;have e:=cn e;have e:=dg e
      cases e;obtain⟨Rp,hp,hd⟩:=Z.c;obtain⟨b,hb,rfl⟩:=hd O (ac l) (by rw[p];rfl);have XI:=W.ob o;rw[p]at XI;obtain⟨h0,h00,b',j,e0,hb',n,VC⟩:=XI;rw[hb]at hb';cases hb';have U:=D.length;have hbb:=W.home o b (by rw[p];simp) hb;obtain⟨A1,es,C1,hsp,hA1,hxe,ac3⟩:=bY.splitAt (PR.k O) l _ i x0 VC hx0;have hes:=PR.k _ _ _ hxe;have Q:=u.length;simp only[ay]at U Q;have hlen:i*O.size+c+M.cells.toList.length≤j.size:=by
       have h9:=congrArg ac hsp;simp only[ay,aE]at h9 ⊢;omega
      have F:=tp (P:=P) T (off:=i*O.size+c) (v:=M) n (by omega) hlen E;obtain⟨R',S⟩:=W.write (w':=w.setRow b (j.toList.take (i*O.size+c)++M.cells.toList++j.toList.drop (i*O.size+c+M.cells.toList.length)).toArray) (x:=.row O (l.set i y)) hb (by rw[p];rfl)
       (by rw[p];exact .inr (.inr (.inr (.inl ⟨_,rfl,by simp[fN]⟩)))) rfl
       (fun c J=>setRow_other w b c _ J) (setRow_size _ _ _) (jY W.ext (.inl hbb.1) _)
       (fun L2=>⟨h0,h00,b,_,e0,hb,setRow_heap w b j _ e0 _ n,by
        have ahi:=cw.nQ (base:=w0.heap.size) (h:=h1) (g:=g1) O x0 es hxe;have hcc:=mm (off:=c) ahi D;have hyp:=da h00 hcc hy;have Y:=ac3 y _ hyp;have heq:=Qg A1 es C1 M.cells.toList c (by simp only[ay];omega);rw[hA1,←hsp]at heq;rw[←heq]at Y;exact bY.mono (fun x es hx=>PR.mono L2.z L2.zp _ _ _ hx) _ _ (by simpa using Y)⟩)
      exact bl.behind N (fun o p=>Ru.al▸p) ⟨_,undef,_,_,by simp[F],.inr ⟨rfl,rfl⟩,R',S,AR.skip,fun o p=> .inl p⟩
     ·exact(af e).elim
    ·exact(af e).elim
   ·exact(af e).elim
  ·exact(af e).elim
 ·rename_i c off x gg cs
  split at e
  ·rename_i J;simp only[ah]at J;obtain⟨⟨I,hk⟩,VG⟩:=J;have I:=aj I;have u:=g9 hk hx;have E:=cw.one cs _ hk u;obtain⟨cs',h1,g1,L1,e,W,N,Ru,D⟩:=cW cs _ h g L _ _ R u e;have Z:=AR.mono N _ _ ha;obtain⟨id,hid,e⟩:=aN e;rw[hid]at Z;have e:=bq e
   split at e
   ·rename_i V H p;obtain⟨y,hy,e⟩:=aN e
    split at e
    ·rename_i B;rw[ah]at B;have aeO:=dc B.1
     split at e
     ·rename_i z hz;obtain⟨H2,hH2,e⟩:=aN e;have e:=cn e;have e:=dg e
      cases e;obtain⟨_,rfl⟩:=BG hH2;obtain⟨q,hq,hq0,rfl⟩:=Z.c;obtain⟨h0,b,cap,j,e0,hp,n,hcs⟩:=W.gh.me c true (.st V) H id y p (eB hy);rw[hp]at hq;cases hq;have U:=D.length;have Vq:=hcs.length;have Q:=u.length;rw[VT.et]at Vq;simp only[ay]at Vq U Q;have F:=tp (P:=P) T (off:=off) (v:=M) n (by omega) (by simp only[ay];omega) E;obtain⟨R',S⟩:=W.J6 (w':=w.setRow b (j.toList.take off++M.cells.toList++j.toList.drop (off+M.cells.toList.length)).toArray) (K:=.st V) (x:=z) p (eB hy) hp rfl (fun c J=>setRow_other w b c _ J) (setRow_size _ _ _)
       (jY W.ext (W.gh.own c (.st V) H id y _ p (eB hy) hp) _) (fun L2=>⟨h0,b,cap,_,e0,hp,setRow_heap w b j _ e0 _ n,by
        have:=mm (off:=off) (cw.mono L2 _ _ hcs) (cw.mono L2 _ _ D);have:=VT.jX B.2 this hz;simpa using this⟩)
      exact bl.behind N (fun o p=>Ru.al▸p) ⟨_,undef,_,_,by simp[F],.inr ⟨rfl,rfl⟩,R',S,AR.skip,fun o p=> .inl p⟩
     ·exact(af e).elim
    ·exact(af e).elim
   ·exact(af e).elim
  ·exact(af e).elim
 ·rename_i c id ix off gg cs
  split at e
  ·rename_i J;simp only[ah]at J;obtain⟨⟨I,hk⟩,VG⟩:=J;have I:=aj I;have u:=g9 hk hx;have E:=cw.one cs _ hk u;obtain⟨cs',h1,g1,L1,e,W,N,Ru,D⟩:=cW cs _ h g L _ _ R u e;have Z:=AR.mono N _ _ ha;have e:=bq e
   split at e
   ·rename_i V H p;obtain⟨l,hl,e⟩:=aN e;obtain⟨y,hy,e⟩:=aN e
    split at e
    ·rename_i B;rw[ah]at B;have aeO:=dc B.1
     split at e
     ·rename_i z hz;obtain⟨H2,hH2,e⟩:=aN e;have e:=cn e;have e:=dg e
      cases e;obtain⟨_,rfl⟩:=BG hH2;obtain⟨b,k,cap,sz',hq,rfl⟩:=Z.c;obtain⟨h0,b2,k2,ahj,j,e0,hp,n,ahk,hll,hmx,VC⟩:=W.gh.me c true (.bf V) H id l p (eB hl);rw[hp]at hq;cases hq;have U:=D.length;have Q:=u.length;simp only[ay]at U Q;have hkk:∀(x:V.den) (es:List Value),cw w w0.heap.size Zp h1 g1 (V.cells x) es→es.length=V.size:=fun x es hx=>(cw.length _ _ hx).trans (VT.et V x);obtain⟨A1,es,C1,hsp,hA1,hxe,ac3⟩:=bY.splitAt hkk l _ ix y VC hy;have hes:=hkk _ _ hxe;have hmul: @ac V.den l*V.size≤cap*V.size:=aW _ hll;have Vq:j.toList.length=j.size:=ay;have hms:=MA j.toList k (@ac V.den l*V.size) A1 es C1 M.cells.toList off (by omega) hsp (by rw[ay];omega);rw[hA1]at hms;have aja:ix*V.size+V.size≤@ac V.den l*V.size:=by
       have h9:=congrArg ac hsp;simp only[aE,aR,cy]at h9;omega
      have F:=tp (P:=P) T (off:=k+ix*V.size+off) (v:=M) n (by omega) (by simp only[ay];omega) E;obtain⟨R',S⟩:=W.J6 (w':=w.setRow b (j.toList.take (k+ix*V.size+off)++M.cells.toList++j.toList.drop (k+ix*V.size+off+M.cells.toList.length)).toArray) (K:=.bf V) (x:=(l.set ix z:List V.den)) p (eB hl) hp rfl (fun c J=>setRow_other w b c _ J) (setRow_size _ _ _)
       (jY W.ext (W.gh.own c (.bf V) H id l _ p (eB hl) hp) _) (fun L2=>⟨h0,b,k,cap,_,e0,hp,setRow_heap w b j _ e0 _ n,by
        rw[cu,hms.1,Vq];exact ahk,by simpa using hll,hmx,by
        have hcc:=mm (off:=off) hxe D;have hyp:=VT.jX B.2 hcc hz;have Y:=ac3 z _ hyp;have e8: @ac V.den (l.set ix z)= @ac V.den l:=List.length_set;rw[e8];show bY _ _ (List.take _ (List.drop k (List.take (k+ix*V.size+off) j.toList++M.cells.toList++List.drop (k+ix*V.size+off+M.cells.toList.length) j.toList)));rw[hms.2];exact bY.mono (fun x es hx=>cw.mono L2 _ _ hx) _ _ Y⟩)
      exact bl.behind N (fun o p=>Ru.al▸p) ⟨_,undef,_,_,by simp[F],.inr ⟨rfl,rfl⟩,R',S,AR.skip,fun o p=> .inl p⟩
     ·exact(af e).elim
    ·exact(af e).elim
   ·exact(af e).elim
  ·exact(af e).elim
 ·exact(af e).elim
end
section
variable {P:Program} {w0:W0} {w w':World} {Z0 Zp:bj} {h h':aP} {g:G} {new next base:Nat} {r:A} {L L':Log} {X:Cx}
theorem wZ{Z:bj}:∀τ:Ty,τ.bH=true→τ.zM=true→PR w Z Zp τ τ.zero τ.g7
 |.bool,_,_=>rfl
 |.int _,_,_=>rfl
 |.str,_,_=>rfl
 |.sl e,_,_=>⟨none,0,[],rfl,av _,rfl,fun h=>absurd rfl h⟩
 |.pair a b,c,d=>by
  simp[Ty.bH]at c;simp[Ty.zM]at d;exact⟨_,_,rfl,wZ a c.1 d.1,wZ b c.2 d.2⟩
 |.unit,_,_=>rfl
 |.ref _,c,_=>by simp[Ty.bH]at c
 |.fn _,_,d=>by simp[Ty.zM]at d
theorem zO{b:Nat}{n:Int}{k:Nat}(a:ED b n=some k):0≤n∧n.toNat*b≤room∧n≤140737488355328∧k=n.toNat:=by
 unfold ED at a
 split at a
 ·rename_i c;cases a;exact⟨c.1,c.2.1,c.2.2,rfl⟩
 ·cases a
theorem bY.replicate{α:Type}{R:α→List Value→Prop}{x:α}{a:List Value}(i:R x a):∀n,bY R (aY n x) (aY n a).flatten
 |0=>by simp[bY]
 |n+1=>by rw[List.replicate_succ,List.replicate_succ,List.flatten_cons];exact⟨a,_,rfl,i,bY.replicate i n⟩
theorem Qh(z:Array Value)(o:0<z.size)(n:Nat):(madeCells z (n*z.size)).toList=(aY n z.toList).flatten:=by
 induction n with
 |zero=>simp[madeCells]
 |succ n k=>
  rw[List.replicate_succ',List.flatten_append,←k];apply List.ext_getElem?;intro i;have e:(n+1)*z.size=n*z.size+z.size:=by rw[bw,Nat.one_mul]
  rw[List.getElem?_append];simp only[madeCells,ay,Array.size_map,Array.size_range,aD,Array.getElem?_map,Array.getElem?_range,List.flatten_cons,List.flatten_nil,ab1]
  by_cases c:i<n*z.size
  ·have a:i<(n+1)*z.size:=by omega
   simp[c,a]
  ·simp only[c,if_false]
   by_cases a:i<(n+1)*z.size
   ·have b:i -n*z.size<z.size:=by omega
    have j:i % z.size=i -n*z.size:=by
     have l:z.size*n=n*z.size:=Nat.mul_comm _ _;have:i=i -n*z.size+z.size*n:=by omega
     have d:(i -n*z.size+z.size*n) % z.size=i -n*z.size:=by rw[Nat.add_mul_mod_self_left,Nat.mod_eq_of_lt b]
     rw[←this]at d;exact d
    simp[a,j,b]
   ·have b:¬ i -n*z.size<z.size:=by omega
    simp[a,b]
theorem Zf(R:HR w0 Z0 Zp h g w)(N:¬ g.al new){t e:TypeId}{d a:TD}(T:dk P t d)(x:dk P e a)(I:d.desc= .slice e){τ:Ty}(Q:a.zero=true)(B:a.ty=some τ)(O:0<a.size)
  {E D:IntKind} {n:Int} {k:Nat} (M:ED a.bytes n=some k):
  bl P w0 Z0 Zp h g w new (do pure (.value (←Instr.makeSlice t (.int E n) (.int D n)))) (.v false [.vec new]) ((new,.row τ (aY k τ.zero))::h):=by
 obtain⟨i,z,J,K,q,u,l,_⟩:=x.zeroV Q B;obtain⟨y,F,h2,rfl⟩:=zO M;obtain⟨W,Y,o,b⟩:=x.Ht B;have S:z.cells.size=a.size:=by
  have:=congrArg ac l;rw[ay,PR.length τ _ _ (wZ (w:=w) (Z:=Z0) (Zp:=Zp) τ o b)]at this;omega
 have H:(i.bytes:Int)*n≤281474976710656:=by
  have h3:n.toNat*i.bytes≤140737488355328:=by rw[q];exact F
  have h4:((n.toNat*i.bytes:Nat):Int)=(i.bytes:Int)*n:=by rw[Int.natCast_mul,Int.toNat_of_nonneg y,Int.mul_comm]
  omega
 have j:=run_make (P:=P) w t e i z (T.slice I) J u E D n n y (Int.le_refl _) H (by omega);refine bl.alloc R N (w1:=w) (.inl rfl) (cur:=madeCells z.cells (n.toNat*i.size)) (e0:=e) (v:=.slice (some ⟨w.heap.size,0,none⟩) n.toNat n.toNat) _ 0 (by simp[j]) (fun U c=>⟨⟨by omega,o,_,_,_,n3 _ _ _ _,c,?_⟩,AR.jU ⟨.inr rfl,⟨_,_,_,rfl⟩,fun V n' p=> ?_⟩⟩) (fun _=>rfl)
 ·have:i.size=z.cells.size:=by omega
  rw[this,Qh z.cells (by omega),l];exact bY.replicate (wZ τ o b) _
 ·rw[Ze]at p;simp[fN]at p;exact⟨_,n3 _ _ _ _,by rw[←p.2]⟩
theorem AR.own{e:Ty}{l:List e.den}{b cap:Nat}{cur:Array Value}{e0:TypeId}{base:Nat}(y:g.al new)(D:g.hm new=some b)(E:g.lo new=ac l*e.size)(hb:base≤b)
  (p:w.heap[b]? =some (.cells cur e0 (0,0))) (a:ac l≤cap) (I:cap≤maxLen) (K:cur.size=cap*e.size) (J:bY (PR w g.Z Zp e) l (cur.toList.take (ac l*e.size)))
  (M:∀i,i<ac l*e.size→g.Z b i):AR w base Zp h g (.v false [.sl e l (.own new)]) (.slice (some ⟨b,0,none⟩) (ac l) cap):=by
 refine AR.jU ⟨⟨_,cap,_,rfl,a,J,fun _=>⟨b,0,rfl,fun j u x=> ?_⟩⟩,y,fun _=> .inr ⟨b,cap,cur,e0,D,rfl,p,a,I,K,hb,E⟩⟩;rw[b9,eM p];rw[ax]at x
 split at x
 ·rename_i H;exact⟨by simpa using x,M j H⟩
 ·cases x
theorem ER(g:G)(new:Nat)(b:Option Nat)(k:Nat):(sX g new b k).al new:=.inr rfl
theorem XJ(R:HR w0 Z0 Zp h g w)(K:¬ g.al new){t e:TypeId}{d c:TD}(T:dk P t d)(p:dk P e c)(E:d.desc= .slice e){τ:Ty}(M:c.zero=true)(u:c.ty=some τ)
  {y x:IntKind} {n:Int} {k:Nat} (J:ED c.bytes n=some k):
  bl P w0 Z0 Zp h g w new (do pure (.value (←Instr.makeSlice t (.int y 0) (.int x n)))) (.v false [.sl τ [] (.own new)]) ((new,.tok)::h):=by
 obtain⟨i,z,H,I,j,o,N,_⟩:=p.zeroV M u;obtain⟨q,B,V,rfl⟩:=zO J;obtain⟨Q,S,U,F⟩:=p.Ht u;have D:(i.bytes:Int)*n≤281474976710656:=by
  have W:n.toNat*i.bytes≤140737488355328:=by rw[j];exact B
  have Y:((n.toNat*i.bytes:Nat):Int)=(i.bytes:Int)*n:=by rw[Int.natCast_mul,Int.toNat_of_nonneg q,Int.mul_comm]
  omega
 have b:=run_make (P:=P) w t e i z (T.slice E) H o y x 0 n (Int.le_refl _) q D (by omega);refine bl.alloc R K (w1:=w) (.inl rfl) (cur:=madeCells z.cells (n.toNat*i.size)) (e0:=e) (v:=.slice (some ⟨w.heap.size,0,none⟩) 0 n.toNat) _ 0 (by simp[b]) (fun O a=>⟨trivial,?_⟩) (fun _=>rfl);have:=AR.own (h:=(new,.tok)::h) (base:=w0.heap.size) (e:=τ) (l:=[]) (Zp:=Zp) (ER g new (some w.heap.size) 0) (n3 _ _ _ _) (by rw[Rv];simp) R.eL a (cap:=n.toNat) (by simp) (by simp only[maxLen];omega)
  (by rw[size_madeCells];congr 1;omega) (by simp[bY]) (by simp)
 simpa using this
theorem MB{τ:Ty}(D:τ.bH=true):∀(ps:List (Nat×A)) (vs:List Value) (n:Nat) (h:aP) (g:G) (L:Log) (k:List τ.den→HM) (b:A×aP×Log),HR w0 Z0 Zp h g w→
  bY (fun(p:Nat×A) I=>∃u,I=[u]∧AR w w0.heap.size Zp h g p.2 u) ps vs→(Mh τ n ps k).eval next h L=some b→
  ∃l o g1 H,(k l).eval next o H=some b∧HR w0 Z0 Zp o g1 w∧Le Zp h g w o g1 w∧Fz h g o g1∧ac l=ps.length∧bY (PR w g1.Z Zp τ) l (vs.flatMap fun v=>v.cells.toList)∧
   ps.map (·.1)=(List.range' n ps.length)∧∀v∈vs,v.cells.size=τ.size
 |[],vs,n,h,g,L,k,b,R,j,e=>by
  simp only[bY]at j;subst j;exact⟨[],h,g,L,e,R,Le.refl _ _ _ _,Fz.refl _ _,rfl,rfl,rfl,by simp⟩
 |(i,a)::ps,vs,n,h,g,L,k,b,R,⟨I,F,e1,⟨u,e2,T⟩,Q⟩,e=>by
  subst e2;subst e1;unfold Mh at e
  split at e
  ·rename_i d;cases d
  ·rename_i i' gg Y r' d
   cases d
   split at e
   ·rename_i J;simp only[ah]at J;have hi:=aj J.1.1;subst hi;have K:=g9 J.2 T;obtain⟨cs',o,g1,H,e,V,q,M,t⟩:=cW Y _ h g L _ _ R K e
    split at e
    ·rename_i x hx;have E:=da D t hx;obtain⟨l,h2,g2,U,e,W,c,N,y,O,B,S⟩:=MB D ps F _ o g1 H _ b V
      (bY.mono (fun p I ⟨u,e,T⟩=>⟨u,e,AR.mono q _ _ T⟩) _ _ Q) e
     refine⟨x::l,h2,g2,U,e,W,q.trans c,M.trans N,by simp[y],?_,?_,?_⟩
     ·simp only[List.singleton_append,List.flatMap_cons];exact⟨_,_,rfl,PR.mono c.z c.zp _ _ _ E,O⟩
     ·simp only[bo,ca,List.range'_succ,B]
     ·intro v j;simp at j;rcases j with rfl |j
      ·have:=PR.length _ _ _ E;simpa using this
      ·exact S v j
    ·exact(af e).elim
   ·exact(af e).elim
  ·exact(af e).elim
theorem O4{vs:List Value}:∀(ps:List (Nat×Value)) (n:Nat),ps.map (·.1)=List.range' n ps.length→ps.map (·.2)=vs→ps=(vs.zipIdx n).map fun x=>(x.2,x.1):=by
 induction vs with
 |nil=>intro ps n _ a;cases ps with |nil=>rfl |cons _ _=>simp at a
 |cons v vs c=>
  intro ps n b a
  cases ps with
  |nil=>simp at a
  |cons p ps=>
   simp only[bo,List.cons.injEq]at a;simp only[bo,ca,List.range'_succ,List.cons.injEq]at b;simp only[List.zipIdx_cons,bo];rw[←c ps (n+1) b.2 a.2];congr 1
   cases p;simp_all
theorem Tc{base:Nat}{env:Env}{a:Act}(b:∀t,AR w base Zp h g (look aA t env) (a.tmps.getD t undef)):∀(ps:List (Nat×Operand)),
  bY (fun(p:Nat×A) c=>∃u,c=[u]∧AR w base Zp h g p.2 u) (ps.map fun(i,x)=>(i,sV env x)) (ps.map fun p=>a.eval p.2)
 |[]=>rfl
 |(_,x)::ps=>⟨[a.eval x],_,rfl,⟨_,rfl,ce b x⟩,Tc b ps⟩
theorem MC(R:HR w0 Z0 Zp h g w)(hn:¬ g.al new){t e:TypeId}{d q:TD}(T:dk P t d)(N:dk P e q)(hd:d.desc= .slice e){τ:Ty}(hτ:q.ty=some τ){len:Nat}{parts:Array (Nat×Operand)}
  {env:Env} {a:Act} (he:∀t,AR w w0.heap.size Zp h g (look aA t env) (a.tmps.getD t undef))
  (hc:(bh parts.size len&&Nat.ble (len*q.size) 16777216&&Nat.blt 0 q.size&&(len==0||q.zero))=true)
  (e1:(Mh τ 0 (parts.toList.map fun(i,x)=>(i,sV env x)) fun l=> .set new .tok (jq (.sl τ l (.own new)))).eval next h L=some (r,h',L')):
  bl P w0 Z0 Zp h g w new (do pure (.value (←Instr.buildSlice t len (parts.map fun(i,x)=>(i,a.eval x))))) r h':=by
 simp only[ah]at hc;obtain⟨⟨⟨c,B⟩,j⟩,O⟩:=hc;have c:=aj c;have B:=dc B;have j:0<q.size:=by simpa[cS]using j
 obtain⟨t1,t2,t3,t4⟩:=N.Ht hτ;obtain⟨l,h1,g1,L1,e2,R1,M,E,b,H,u,V⟩:=MB t3 _ _ 0 h g L _ _ R (Tc he parts.toList) e1;have e3:=cn e2;obtain⟨rfl,rfl,_⟩:=bz e3;have U:¬ g1.al new:=by rw[E.al];exact hn
 simp only[aci,ay,c]at b;have hvs:(parts.toList.map fun p=>a.eval p.2).length=len:=by simp[c]
 have y:(parts.map fun(i,x)=>(i,a.eval x)).toList=((parts.toList.map fun p=>a.eval p.2).zipIdx 0).map fun x=>(x.2,x.1):=by
  apply O4
  ·simp only[Array.toList_map,List.map_map,aci,ay];simp only[List.map_map,aci,ay]at u;exact u
  ·simp only[Array.toList_map,List.map_map];rfl
 have D:=bY.length (PR.k τ) _ _ H;refine bl.behind M (fun o ho=>E.al▸ho) ?_;have J:(Instr.buildSlice t len (parts.map fun(i,x)=>(i,a.eval x))).run P w= .ok (.slice (some ⟨w.heap.size,0,none⟩) len len) (w.alloc (.cells ((parts.toList.map fun p=>a.eval p.2).flatMap fun v=>v.cells.toList).toArray e)):=by
  obtain⟨ie,Q,his,_⟩:=N.inf
  by_cases h0:len=0
  ·subst h0;have:parts= #[]:=Array.eq_empty_of_size_eq_zero c;subst this;simp[Instr.buildSlice,run_underlying (T.slice hd),Go.sizeOf,typeInfo,Q,Instr.fill,newRow,Array.range_zero']
  ·have Y:q.zero=true:=by simpa[h0]using O
   obtain⟨i,z,K,n,hib,S,W,_⟩:=N.zeroV Y hτ;have hzs:z.cells.size=q.size:=by
    have:=congrArg ac W;rw[ay,PR.length τ _ _ (wZ (w:=w) (Z:=Z0) (Zp:=Zp) τ t3 t4)]at this;omega
   have I:¬ len*i.size=0:=by rw[n];exact Nat.ne_of_gt (Nat.mul_pos (by omega) j)
   refine run_buildSlice w t e len _ _ i z (T.slice hd) K S (by rw[n];omega) I ?_;rw[y,n];exact Go.Great.fill_whole j _ _ (fun v hv=>by rw[V v hv,t1]) (by simp[c])
 refine bl.alloc R1 U (w1:=w) (.inl rfl) (cur:=((parts.toList.map fun p=>a.eval p.2).flatMap fun v=>v.cells.toList).toArray) (e0:=e) (v:=.slice (some ⟨w.heap.size,0,none⟩) len len) _ (len*τ.size) (by simp[J]) (fun L2 F=>⟨trivial,?_⟩) (fun h=>by cases h);have:=AR.own (h:=(new,.tok)::h1) (base:=w0.heap.size) (e:=τ) (l:=l) (Zp:=Zp) (ER g1 new (some w.heap.size) (len*τ.size)) (n3 _ _ _ _) (by rw[Rv,b]) R.eL F (cap:=len) (by omega)
  (by
   have:len*1≤len*q.size:=Nat.mul_le_mul_left _ j;simp only[maxLen];omega) (by rw[cu,D,b])
  (by
   rw[←D];simp only[List.take_length];exact bY.mono (fun x es hx=>PR.mono L2.z L2.zp _ _ _ hx) _ _ H)
  (fun i K=> .inr ⟨rfl,by rw[b]at K;exact K⟩)
 rw[b]at this;exact this
end
section
variable {P:Program} {w0:W0} {w w':World} {Z0 Zp:bj} {h h':aP} {g:G} {new next base:Nat} {r:A} {L L':Log} {X:Cx}
theorem Rw(off:Nat)(v:Array Value)(cells:Array Value)(d:off+v.size≤cells.size):
  (v.zipIdx.foldl (fun cs (x:Value×Nat)=>cs.setIfInBounds (off+x.2) x.1) cells).toList=cells.toList.take off++v.toList++cells.toList.drop (off+v.size):=by
 have e:v.zipIdx.foldl (fun cs (x:Value×Nat)=>cs.setIfInBounds (off+x.2) x.1) cells=(v.toList.zipIdx 0).foldl (fun cs (x:Value×Nat)=>cs.setIfInBounds (off+x.2) x.1) cells:=by
  rw[←Array.foldl_toList,Array.toList_zipIdx]
 rw[e];obtain⟨i,a⟩:=Go.Great.foldl_set off v.toList 0 cells;apply List.ext_getElem?;intro k;rw[aD,a k];simp only[cR,ay,List.getElem?_append,aE,aR]
 by_cases b:k<off
 ·rw[if_neg (by omega),if_pos (by omega),if_pos (by omega),ax,if_pos b,aD]
 ·by_cases c:k<off+v.size
  ·rw[if_pos ⟨by omega,c,by omega⟩,if_pos (by omega),if_neg (by omega)];congr 1;omega
  ·rw[if_neg (by omega),if_neg (by omega),bA,aD];congr 1;omega
theorem ES{base:Nat}{F pc:Nat→Option (Nat×Nat)}(D:∀i q,F i=some q→pc i=some q){env:Env}{a:Act}(B:∀t,AR w base Zp h g (look aA t env) (a.tmps.getD t undef)):
  ∀(ps:List (Nat×Operand)) (cs c:List C) (cells:Array Value),cw w base Zp h g cs cells.toList→EI F cs (ps.map fun(i,x)=>(i,sV env x))=some c→
   ∃b,Instr.fill pc cells (ps.map fun(i,x)=>(i,a.eval x))=some b∧cw w base Zp h g c b.toList
 |[],cs,c,cells,n,e=>by
  cases e;exact⟨cells,rfl,n⟩
 |(i,x)::ps,cs,c,cells,n,e=>by
  simp only[bo]at e ⊢;have E:=ce B x;unfold EI at e
  split at e
  ·rename_i j;cases j
  ·rename_i N J O Q j;simp only[List.cons.injEq,Prod.mk.injEq]at j;obtain⟨⟨rfl,z⟩,rfl⟩:=j
   split at e
   ·rename_i off size u
    split at e
    ·rename_i k;simp only[ah]at k;have K:=aj k.1.1;have M:=dc k.1.2;rw[z]at E;have l:=g9 k.2 E;have p:=l.length;have o:=n.length;simp only[ay]at p o;have y:=Rw off (a.eval x).cells cells (by omega);have d:=mm (off:=off) n l;simp only[ay]at d;rw[←y]at d;obtain⟨b,H,I⟩:=ES D B ps _ c _ d e;refine⟨b,?_,I⟩;unfold Instr.fill;rw[D _ _ u];simp only;rw[if_neg (by simp;omega)];exact H
    ·cases e
   ·cases e
  ·rename_i j
   cases e
theorem DE(l:EA P X.tt):∀(a:List Field) (b:List (Nat×Nat)),
  nZ (fun f:TypeId×Nat=>match bP f.1 X.tt with |some k=>some (f.2,k.size)|none=>none) (a.map fun x=>(x.type,x.offset))=some b→
  a.mapM (fun f=>(P.info? f.type).map fun i=>(f.offset,i.size))=some b
 |[],b,e=>by simp[nZ]at e;subst e;rfl
 |f::a,b,e=>by
  simp only[bo,nZ]at e
  cases d:bP f.type X.tt with
  |none=>simp[d]at e
  |some k=>
   simp only[d]at e
   split at e
   ·rename_i n c
    cases e;obtain⟨i,o,j,_⟩:=(l.get d).inf;have p:=DE l a n c;simp[List.mapM_cons,o,j,p]
   ·cases e
theorem Rx(E:EA P X.tt)(R:HR w0 Z0 Zp h g w){t:TypeId}{d:TD}(T:dk P t d){u:List (TypeId×Nat)}(H:d.desc= .struct u)(O:d.zero=true){τ:Ty}(Q:d.ty=some τ){p:List (Nat×Nat)}
  (c:nZ (fun f:TypeId×Nat=>match bP f.1 X.tt with |some y=>some (f.2,y.size)|none=>none) u=some p) {parts:Array (Nat×Operand)}
  {env:Env} {a:Act} (I:∀t,AR w w0.heap.size Zp h g (look aA t env) (a.tmps.getD t undef)) {cs:List C} (J:EI (fun i=>p[i]?) τ.i6 (parts.toList.map fun(i,x)=>(i,sV env x))=some cs):
  bl P w0 Z0 Zp h g w new (do pure (.value (←Instr.build t (parts.map fun(i,x)=>(i,a.eval x))))) (.v true cs) h:=by
 obtain⟨f,N,j⟩:=T.struct H;obtain⟨i,z,K,_,_,k,o,_⟩:=T.zeroV O Q;have n:cw w w0.heap.size Zp h g τ.i6 z.cells.toList:=by rw[o];exact ij τ
 rw[←j]at c;have l:=DE E _ _ c;obtain⟨b,B,D⟩:=ES (pc:=fun i=>p.toArray[i]?) (fun i q M=>by simpa using M) I parts.toList _ _ z.cells n J;refine bl.pure R (v:=.agg b) ?_ ⟨b.toList,by simp,D⟩;have F:P.built t (parts.map fun(i,x)=>(i,a.eval x)).toList=some b:=by
  unfold Program.built;simp only[K,N,k,l,Array.toList_map];exact B
 simp[run_build w t _ b F]
theorem Td(R:HR w0 Z0 Zp h g w){t e:TypeId}{d j:TD}(T:dk P t d)(B:dk P e j){n:Nat}(H:d.desc= .array n e)(M:d.zero=true){τ:Ty}(N:d.ty=some τ){parts:Array (Nat×Operand)}
  {env:Env} {a:Act} (I:∀t,AR w w0.heap.size Zp h g (look aA t env) (a.tmps.getD t undef)) {cs:List C}
  (J:EI (fun i=>match Nat.blt i n with |true=>some (i*j.size,j.size)|false=>none) τ.i6 (parts.toList.map fun(i,x)=>(i,sV env x))=some cs):
  bl P w0 Z0 Zp h g w new (do pure (.value (←Instr.build t (parts.map fun(i,x)=>(i,a.eval x))))) (.v true cs) h:=by
 obtain⟨i,z,K,_,_,l,u,_⟩:=T.zeroV M N;obtain⟨y,k,c,_⟩:=B.inf;have p:cw w w0.heap.size Zp h g τ.i6 z.cells.toList:=by rw[u];exact ij τ
 obtain⟨b,D,E⟩:=ES (pc:=fun i=>some (i*y.size,y.size)) (fun i q o=>by
  split at o
  ·rw[c];exact o
  ·cases o) I parts.toList _ _ z.cells p J
 refine bl.pure R (v:=.agg b) ?_ ⟨b.toList,by simp,E⟩;have F:P.built t (parts.map fun(i,x)=>(i,a.eval x)).toList=some b:=by
  unfold Program.built;simp only[K,T.array H,l,k,Array.toList_map];exact D
 simp[run_build w t _ b F]
theorem VH{Z:bj}:∀(τ:Ty) (x:τ.den) (vs:List Value),PR w Z Zp τ x vs→∀u∈vs,u.oneCell'=true
 |.bool,_,_,c=>by simp[PR]at c;subst c;simp[dp]
 |.int _,_,_,c=>by simp[PR]at c;subst c;simp[dp]
 |.str,_,_,c=>by simp[PR]at c;subst c;simp[dp]
 |.sl _,_,_,⟨_,_,_,c,_⟩=>by subst c;simp[dp]
 |.pair a b,_,_,⟨l,k,e,i,j⟩=>by
  subst e;intro u d;rcases List.mem_append.1 d with d |d
  ·exact VH a _ _ i u d
  ·exact VH b _ _ j u d
 |.unit,_,_,c=>by simp[PR]at c;subst c;simp
 |.ref _,_,_,⟨_,_,_,c,_⟩=>by subst c;simp[dp]
 |.fn _,_,_,c=>by simp[PR]at c;subst c;simp[dp]
 |.cl _ _,_,_,⟨_,c,_⟩=>by subst c;simp[dp]
theorem LX{Z:bj}{e:Ty}:∀(l:List e.den) (vs:List Value),bY (PR w Z Zp e) l vs→∀u∈vs,u.oneCell'=true
 |[],_,c=>by simp[bY]at c;subst c;simp
 |x::l,_,⟨i,b,d,j,k⟩=>by
  subst d;intro u a;rcases List.mem_append.1 a with a |a
  ·exact VH e x i j u a
  ·exact LX l b k u a
theorem ac6{Z:bj}{e:Ty}{m:List e.den}{v:Value}{D t:TypeId}(z:P.underlying D=some (.slice t))(I:PR w Z Zp (.sl e) m [v]):
  ∃a,Src P e.size D v (ac m) a w∧bY (PR w Z Zp e) m a:=by
 obtain⟨F,o,a,B,x,d,l⟩:=I;simp at B;subst B;have c:=bY.length (PR.k e) m a d;have n:=LX m a d;refine⟨a,?_,d⟩
 cases F with
 |some E=>
  refine Src.ofSlice w z E _ o a c (fun j u y=> ?_) n;obtain⟨b,q,p,H⟩:=l (by intro i;subst i;simp at y)
  cases p;rw[fi];exact(H j u y).1
 |none=>
  have i:a=[]:=by
   by_cases i:a=[]
   ·exact i
   ·obtain⟨b,q,p,_⟩:=l i
    cases p
  subst i;refine⟨.inl ⟨t,z⟩,fun _=>rfl,run_firstCells_none w _ _ _ _,run_firstCells_none w.drew _ _ _ _,c,by simp⟩
theorem Hw{t p ty e:TypeId}{i:TypeInfo}(u:P.underlying t=some (.slice e))(q:P.info? e=some i){b sLen sCap:Nat}{cur:Array Value}{e0:TypeId}(d:w.heap[b]? =some (.cells cur e0 (0,0))){x:Value}{n:Nat}{a:List Value}
  (l:Src P i.size p x n a w) (c:sLen+n≤sCap) (j:sLen*i.size+a.length≤cur.size):
  (Builtin.append_ #[t,p] ty #[.slice (some ⟨b,0,none⟩) sLen sCap,x]).run P w= .ok (.slice (some ⟨b,0,none⟩) (sLen+n) sCap) (w.setRow b (cur.toList.take (sLen*i.size)++a++cur.toList.drop (sLen*i.size+a.length)).toArray):=by
 have k:=run_storeCells_at P b (sLen*i.size) e0 a 0 cur w d (by simpa using j) l.one;simp only[cR]at k;rcases l.kind with⟨y,o⟩|o<;>simp[Builtin.append_,run_underlying u,run_underlying o,sizeOf,typeInfo,q,l.len,c,l.cells,Addr.add_lit,k]
theorem vJ{t d ty e:TypeId}{i:TypeInfo}(k:P.underlying t=some (.slice e))(j:P.info? e=some i){x:Value}{a:List Value}(b:Src P i.size d x 0 a w):
  (Builtin.append_ #[t,d] ty #[.slice none 0 0,x]).run P w= .ok (.slice none 0 0) w:=by
 rcases b.kind with⟨l,c⟩|c<;>simp[Builtin.append_,run_underlying k,run_underlying c,sizeOf,typeInfo,j,b.len,b.cells]
def aa4(w:World)(base:Nat)(Zp:bj)(h:aP)(g:G)(e:Ty)(l:List e.den)(v:Value):Prop:=
 (v= .slice none 0 0∧l=[])∨
 (∃b a d j,v= .slice (some ⟨b,0,none⟩) (ac l) a∧w.heap[b]? =some (.cells d j (0,0))∧ac l≤a∧a≤maxLen∧d.size=a*e.size∧base≤b∧b<w.heap.size∧
  (∀o,look .dead o h≠.dead→g.hm o≠some b)∧(∀c id,¬ GL h g c id b)∧(∀i,g.Z b i→i<ac l*e.size)∧bY (PR w g.Z Zp e) l (d.toList.take (ac l*e.size)))
theorem hA{α:Type}{b:Nat}{l m n:List α}(h:app b l m=some n):(l.length+m.length)*b≤140737488355328∧l.length+m.length≤140737488355328∧n=l++m:=by
 unfold app at h;split at h
 ·rename_i a;cases h;exact⟨a.1,a.2,rfl⟩
 ·cases h
theorem bY.app{α:Type}{R:α→List Value→Prop}:∀(l m:List α) (vs us:List Value),bY R l vs→bY R m us→bY R (l++m) (vs++us)
 |[],_,_,_,j,i=>by simp[bY]at j;subst j;simpa using i
 |x::l,m,_,us,⟨es,a,e,y,p⟩,i=>by subst e;exact⟨es,a++us,by simp,y,bY.app l m a us p i⟩
theorem zP(z:Array Value)(n:Nat):(Builtin.zeroCells z n).size=n*z.size:=by simp[Builtin.zeroCells]
theorem zQ(R:HR w0 Z0 Zp h g w)(hn:¬ g.al new){t tx e ty:TypeId}{d de:TD}(T:dk P t d)(Te:dk P e de)(hd:d.desc= .slice e){τ:Ty}(hz:de.zero=true)(hτ:de.ty=some τ)
  {l m n:List τ.den} {v x:Value} {J:List Value} (hon:aa4 w w0.heap.size Zp h g τ l v) (D:Src P τ.size tx x (ac m) J w) (Tg:bY (PR w g.Z Zp τ) m J) (ac7:app de.bytes l m=some n):
  bl P w0 Z0 Zp h g w new (do pure (.value (←Builtin.append_ #[t,tx] ty #[v,x]))) (.v false [.sl τ n (.own new)]) ((new,.tok)::h):=by
 obtain⟨hb1,S0,rfl⟩:=hA ac7;obtain⟨t1,t2,t3,t4⟩:=Te.Ht hτ;obtain⟨i,z,hi,his,hib,hiz,hzv,_⟩:=Te.zeroV hz hτ;have hzs:z.cells.size=i.size:=by
  have:=congrArg ac hzv;rw[ay,PR.length τ _ _ (wZ (w:=w) (Z:=Z0) (Zp:=Zp) τ t3 t4)]at this;omega
 have y:τ.size=i.size:=by omega
 rw[y]at D;have N:=D.newsLen;have O:∀(bs:Option Addr) (a:Nat) (q:List Value),v= .slice bs (ac l) a→a<ac l+ac m→bY (PR w g.Z Zp τ) l q→
   (Builtin.firstCells i.size (ac l) (.slice bs (ac l) a)).run P w.drew= .ok q.toArray w.drew→
   bl P w0 Z0 Zp h g w new (do pure (.value (←Builtin.append_ #[t,tx] ty #[v,x]))) (.v false [.sl τ (l++m) (.own new)]) ((new,.tok)::h):=by
  intro bs a q hv hlt K hfc;subst hv;have hr:=run_append_grow_src (P:=P) w t tx ty e i z (T.slice hd) hi hiz bs (ac l) a q hfc x _ J D hlt (by omega) (growslice_fits hlt (by rw[hib];exact hb1));have hge:=grownCap_ge w (ac l+ac m) a e;have V:=grownCap_le_maxLen w (ac l+ac m) a e (by simp only[maxLen];omega);have M:=bY.length (PR.k τ) l q K;have p:ac (l++m)=ac l+ac m:=aE;have Q:(ac l+ac m)*τ.size=ac l*τ.size+ac m*τ.size:=bw _ _ _;rw[y]at Q M;refine bl.alloc R hn (w1:=w.drew) (.inr rfl) (cur:=(q++J).toArray++Builtin.zeroCells z.cells (grownCap w (ac l+ac m) a e -(ac l+ac m))) (e0:=e)
   (v:=.slice (some ⟨w.heap.size,0,none⟩) (ac l+ac m) (grownCap w (ac l+ac m) a e)) _ ((ac l+ac m)*τ.size) (by simp[hr]) (fun L2 hnew=>⟨trivial,?_⟩) (fun h=>by cases h)
  have:=AR.own (h:=(new,.tok)::h) (base:=w0.heap.size) (e:=τ) (l:=l++m) (Zp:=Zp) (ER g new (some w.heap.size) ((ac l+ac m)*τ.size)) (n3 _ _ _ _) (by rw[Rv,p]) R.eL hnew
   (cap:=grownCap w (ac l+ac m) a e) (by rw[p];exact hge) V
   (by
    rw[Array.size_append,zP,cu,aE,M,N,hzs,y,Nat.sub_mul];have:(ac l+ac m)*i.size≤grownCap w (ac l+ac m) a e*i.size:=aW _ hge;omega)
   (by
    have e1:ac (l++m)*τ.size=(q++J).length:=by rw[p,y,aE,M,N,Q]
    rw[e1,Array.toList_append,List.take_left];exact bY.mono (fun x es hx=>PR.mono L2.z L2.zp _ _ _ hx) _ _ (bY.app _ _ _ _ K Tg))
   (fun j E=> .inr ⟨rfl,by rw[p]at E;exact E⟩)
  rw[p]at this;exact this
 rcases hon with⟨rfl,rfl⟩|⟨b,cap,cur,e0,rfl,H,hlc,V,hcs,S,hbl,W,hgl,Y,I⟩
 ·by_cases hm:m=[]
  ·subst hm;have hr:=vJ (P:=P) (ty:=ty) (T.slice hd) hi D;obtain⟨R1,L1⟩:=R.acW hn;refine⟨_,.slice none 0 0,w,_,by simp[hr],.inl rfl,R1,L1,AR.jU ⟨⟨none,0,[],rfl,av _,rfl,fun h=>absurd rfl h⟩,ER _ _ _ _,fun _=> .inl ⟨n3 _ _ _ _,rfl,rfl⟩⟩,fun o ho=>ho⟩
  ·have:0<ac m:=List.length_pos_iff.2 hm;exact O none 0 [] rfl (by simpa using this) rfl (run_firstCells_none w.drew _ _ _ _)
 ·by_cases F:ac l+ac m≤cap
  ·have hfit:ac l*i.size+J.length≤cur.size:=by
    rw[N,hcs,←bw,y];exact aW _ F
   have hr:=Hw (P:=P) (ty:=ty) (T.slice hd) hi H D F hfit;rw[y]at I Y hcs;have htl:(cur.toList.take (ac l*i.size)).length=ac l*i.size:=by simp;omega
   have U:∀j,j<ac l*i.size→(cur.toList.take (ac l*i.size)++J++cur.toList.drop (ac l*i.size+J.length)).toArray[j]? =cur[j]? :=by
    intro j E;rw[List.getElem?_toArray,bI,aU (by omega),ax,if_pos E,aD]
   have B:=setRow_heap w b cur (cur.toList.take (ac l*i.size)++J++cur.toList.drop (ac l*i.size+J.length)).toArray e0 (0,0) H;obtain⟨R1,L1⟩:=R.acX (w':=w.setRow b (cur.toList.take (ac l*i.size)++J++cur.toList.drop (ac l*i.size+J.length)).toArray) (k:=(ac l+ac m)*τ.size) hn W hgl S hbl
    (fun c hc=>setRow_other w b c _ hc) (setRow_size _ _ _) (jY R.ext (.inl S) _) (fun j E=>⟨by
     have:=Y j E;rw[y,bw];omega,by rw[eM B,eM H,U j (Y j E)]⟩)
   have p:ac (l++m)=ac l+ac m:=aE;refine⟨_,.slice (some ⟨b,0,none⟩) (ac l+ac m) cap,_,_,by simp[hr],.inl rfl,R1,L1,?_,fun o ho=>ho⟩;have:=AR.own (h:=(new,.tok)::h) (base:=w0.heap.size) (e:=τ) (l:=l++m) (Zp:=Zp) (ER g new (some b) ((ac l+ac m)*τ.size)) (n3 _ _ _ _) (by rw[Rv,p]) S B
    (cap:=cap) (by rw[p];exact F) V (by rw[y];simp;omega)
    (by
     have e1:ac (l++m)*τ.size=(cur.toList.take (ac l*i.size)++J).length:=by rw[p,y,aE,htl,N,bw]
     rw[e1];simp only[List.take_left];exact bY.mono (fun x es hx=>PR.mono L1.z L1.zp _ _ _ hx) _ _ (bY.app _ _ _ _ I Tg))
    (fun j E=> .inr ⟨rfl,by rw[p]at E;exact E⟩)
   rw[p]at this;exact this
  ·refine O _ cap _ rfl (by omega) I ?_;have K:=bY.length (PR.k τ) _ _ I;rw[y]at K ⊢;refine run_firstCells_some w.drew i.size _ _ _ cap _ K fun j u E=> ?_;rw[fi,b9];show w.cell? _=_;rw[eM H];rw[ax]at E
   split at E
   ·simpa using E
   ·cases E
theorem W4{e:Ty}{l:List e.den}{b:Nat}{cur:Array Value}{e0:TypeId}{o:Nat×Nat}{d i:TypeId}(q:P.underlying d=some (.slice i))(a:w.heap[b]? =some (.cells cur e0 o))(c:bY (PR w g.Z Zp e) l cur.toList)(n:Nat):
  Src P e.size d (.slice (some ⟨b,0,none⟩) (ac l) n) (ac l) cur.toList w:=
 Src.ofSlice w q _ _ _ _ (bY.length (PR.k e) l _ c) (fun j u p=>by rw[fi,b9,eM a];simpa using p) (LX l _ c)
theorem Ty.jZ:∀(τ:Ty) (x:τ.den),(τ.cells x).all C.known=true
 |.bool,_ |.int _,_ |.str,_ |.sl _,_ |.unit,_ |.ref _,_ |.fn _,_ |.cl _ _,_=>rfl
 |.pair a b,x=>by simp only[Ty.cells,List.all_append,Ty.jZ a,Ty.jZ b,Bool.and_self]
theorem VT.jZ:∀(V:VT) (x:V.den),(V.cells x).all C.known=true
 |.data τ,x=>Ty.jZ τ x
 |.gp _ _,_ |.gs _,_ |.gm _,_ |.cl _ _ _,_ |.unit,_=>rfl
 |.pair a b,x=>by simp only[VT.cells,List.all_append,VT.jZ a,VT.jZ b,Bool.and_self]
theorem Th{base:Nat}{V:VT}:∀(l:List V.den) (vs:List Value),bY (fun y c=>cw w base Zp h g (V.cells y) c) l vs→∀u∈vs,u.oneCell'=true
 |[],_,d=>by simp[bY]at d;subst d;simp
 |x::l,_,⟨c,b,i,j,k⟩=>by
  subst i;intro u a;rcases List.mem_append.1 a with a |a
  ·exact cw.one _ _ (VT.jZ V x) j u a
  ·exact Th l b k u a
theorem kV{base:Nat}(V:VT):∀(x:V.den) (a:List Value),cw w base Zp h g (V.cells x) a→a.length=V.size:=fun x _ b=>(cw.length _ _ b).trans (VT.et V x)
theorem Zg(R:HR w0 Z0 Zp h g w){c:Nat}{wr:Bool}{V:VT}{H:List (Option (List V.den))}(U:look .dead c h= .gh wr (.bf V) H){y:Option (Nat×Nat×Nat)}{l:List V.den}{v:Value}(z:CR w w0.heap.size Zp h g (.gs c y) v)(F:gsL H y=some l){K Q:TypeId}(J:P.underlying K=some (.slice Q)):
  ∃M,Src P V.size K v l.length M w∧bY (fun y S=>cw w w0.heap.size Zp h g (V.cells y) S) l M:=by
 cases y with
 |none=>
  cases F;have z:v= .slice none 0 0:=z;subst z;exact⟨[],Src.ofNil w J 0,rfl⟩
 |some q=>
  obtain⟨i,a,n⟩:=q;obtain⟨b,k,N,O,Y,o,hp,t,W,T,_,E,rfl,x,Z,I,p,_⟩:=Rs R U z F;refine⟨_,?_,p⟩;have d:=bY.length (kV V) l _ p;subst x;refine Src.ofSlice w J ⟨b,o,none⟩ _ _ _ d (fun j u D=> ?_) (Th l _ p);have hn:0<l.length:=by
   rcases Nat.eq_zero_or_pos l.length with B |B
   ·rw[B]at D;simp at D
   ·exact B
  rw[E (by omega),fi];exact g8 t _ _ j u D
theorem MD(R:HR w0 Z0 Zp h g w){τ:Ty}{x:A}{v:Value}{T W:TypeId}(E:P.underlying T=some (.slice W))(S:AR w w0.heap.size Zp h g x v){k:List τ.den→HM}{F:A×aP×Log}(e:(Xx false τ x k).eval next h L=some F):
  ∃m u U,(k m).eval next h U=some F∧Src P τ.size T v (ac m) u w∧bY (PR w g.Z Zp τ) m u:=by
 unfold Xx at e
 split at e
 ·rename_i c y;unfold EF at e;have e:=bq e
  split at e
  ·rename_i wr K H q
   split at e
   ·rename_i H' hH hn;obtain⟨hK,rfl⟩:=dJ hH;subst hK;obtain⟨l,hl,e⟩:=aN e;obtain⟨u,N,O⟩:=Zg R q S.c hl E;exact⟨l,u,_,e,N,bY.mono (fun y es hy=>Ty.tn hn hy) _ _ O⟩
   ·exact(af e).elim
  ·exact(af e).elim
 ·rename_i c p;have I:=S.c;clear p
  cases c
  case vec o=>
   simp only[kr]at e;have e:=bq e;obtain⟨Rp,hs,Q⟩:=I
   split at e
   ·rename_i j l q;have d:=R.ob o;rw[q]at d;obtain⟨h0,M,b,J,Y,z,a,i⟩:=d;obtain⟨V,n,rfl⟩:=Q j (ac l) (by rw[q];rfl);rw[n]at z;cases z
    split at e
    ·rename_i m D;obtain⟨B,rfl⟩:=jB D;subst B;exact⟨_,_,_,e,W4 E a i _,i⟩
    ·exact(af e).elim
   ·rename_i j l q;have d:=R.ob o;rw[q]at d;obtain⟨h0,M,b,J,Y,fz,z,a,i,_⟩:=d;obtain⟨V,n,rfl⟩:=Q j (ac l) (by rw[q];rfl);rw[n]at z;cases z
    split at e
    ·rename_i m D;obtain⟨B,rfl⟩:=jB D;subst B;exact⟨_,_,_,e,W4 E a i _,i⟩
    ·exact(af e).elim
   ·exact(af e).elim
  case sl j l t=>
   simp only[kr]at e
   split at e
   ·rename_i m D;obtain⟨B,rfl⟩:=jB D;subst B;obtain⟨u,N,O⟩:=ac6 (P:=P) E I.1;exact⟨_,u,_,e,N,O⟩
   ·exact(af e).elim
  case nils=>
   simp only[kr]at e;simp only[CR]at I;subst I;exact⟨[],[],_,e,Src.ofNil w E 0,rfl⟩
  all_goals (simp only[kr]at e;exact(af e).elim)
 ·exact(af e).elim
theorem GL.drop{o c id b:Nat}(j:GL ((o,.dead)::h) g c id b):GL h g c id b:=by
 obtain⟨wr,K,H,x,e,a,i⟩:=j;rw[aG]at a
 split at a
 ·cases a
 ·exact⟨wr,K,H,x,e,a,i⟩
theorem Zh(R:HR w0 Z0 Zp h g w){o:Nat}{e:Ty}{l:List e.den}{v:Value}(u:look .dead o h= .tok)(H:CR w w0.heap.size Zp h g (.sl e l (.own o)) v):aa4 w w0.heap.size Zp ((o,.dead)::h) g e l v:=by
 obtain⟨a,Rp,ht⟩:=H;rcases ht u with⟨q,y,z⟩|⟨b,O,n,Q,q,y,z,T,U,V,W,Y⟩
 ·exact .inl ⟨y,List.length_eq_zero_iff.1 z⟩
 ·obtain⟨bs,d,B,N,_,x,D⟩:=a;simp at N;subst N;simp at y;obtain⟨rfl,rfl⟩:=y;have K:=bY.length (PR.k e) l B x;have F:=(R.home o b (by rw[u];simp) q).2;refine .inr ⟨b,d,n,Q,rfl,z,T,U,V,W,F,fun p a J=> ?_,fun c id Z=>R.gh.loc c id b o (GL.drop Z) (by rw[u];simp) q,fun i hi=>Y▸R.BZ o b i u q hi,?_⟩
  ·rw[aG]at a
   split at a
   ·exact a rfl
   ·rename_i I;exact I (R.iW o p b (by rw[u];simp) a q J)
  ·have:n.toList.take (ac l*e.size)=B:=by
    rw[←K];apply List.ext_getElem?;intro j;rw[ax]
    by_cases t:j<B.length
    ·rw[if_pos t];obtain⟨b2,off,E,H⟩:=D (by intro S;subst S;simp at t)
     cases E;have M:=(H j B[j] (ai t)).1;rw[b9,eM z]at M;rw[ai t,aD,M]
    ·rw[if_neg t,bv (by omega)]
   rw[this];exact x
theorem Zi(R:HR w0 Z0 Zp h g w){o:Nat}{e:Ty}{l:List e.den}{v:Value}(a:look .dead o h= .row e l)(J:CR w w0.heap.size Zp h g (.vec o) v)(M:ac l≤maxLen):aa4 w w0.heap.size Zp ((o,.dead)::h) g e l v:=by
 obtain⟨I,S,N⟩:=J;obtain⟨b,d,rfl⟩:=N e (ac l) (by rw[a];rfl);have t:=R.ob o;rw[a]at t;obtain⟨Q,F,O,z,E,j,q,u⟩:=t;rw[d]at j;cases j;have x:=bY.length (PR.k e) l _ u;have n:=R.home o b (by rw[a];simp) d;refine .inr ⟨b,ac l,z,E,rfl,q,av _,M,by simpa using x,n.1,n.2,fun p y D=> ?_,fun c id H=>R.gh.loc c id b o (GL.drop H) (by rw[a];simp) d,fun i K=>absurd K (R.gI o b i (by rw[a];rfl) d),?_⟩
 ·rw[aG]at y
  split at y
  ·exact y rfl
  ·rename_i B;exact B (R.iW o p b (by rw[a];simp) y d D)
 ·rw[←x,List.take_length];exact u
theorem Zj{e:Ty}:aa4 w base Zp h g e ([]:List e.den) (.slice none 0 0):=.inl ⟨rfl,rfl⟩
theorem VI(R:HR w0 Z0 Zp h g w)(I:¬ g.al new){t Q e V ty:TypeId}{d N u:TD}(T:dk P t d)(U:dk P Q N)(q:dk P e u)(E:d.desc= .slice e)(F:N.desc= .slice V){τ:Ty}(M:u.zero=true)(y:u.ty=some τ)
  {s x:A} {v S:Value} (K:AR w w0.heap.size Zp h g s v) (Y:AR w w0.heap.size Zp h g x S) (B:(Rd new τ u.bytes s x).eval next h L=some (r,h',L')):
  bl P w0 Z0 Zp h g w new (do pure (.value (←Builtin.append_ #[t,Q] ty #[v,S]))) r h':=by
 obtain⟨t1,t2,t3,t4⟩:=q.Ht y;unfold Rd at B;obtain⟨m,us,L1,a,i,p⟩:=MD R (U.slice F) Y B;clear B
 split at a
 ·obtain⟨n,b,a⟩:=aN a;have a:=cn a;obtain⟨rfl,rfl,_⟩:=bz a;have O:=K.c;simp only[CR]at O;subst O;exact zQ R I T q E M y Zj i p b
 ·rename_i D l o
  split at a
  ·rename_i Z k;obtain⟨H,rfl⟩:=jB k;subst H;have a:=bq a
   split at a
   ·rename_i J;obtain⟨n,b,a⟩:=aN a;have a:=cn a;have a:=cn a;obtain⟨rfl,rfl,_⟩:=bz a;obtain⟨z,j⟩:=R.drop o;exact bl.behind j (fun _ h=>h) (zQ z I T q E M y (Zh R J K.c) i p b)
   ·exact(af a).elim
  ·exact(af a).elim
 ·rename_i o;have a:=bq a
  split at a
  ·rename_i D l J
   split at a
   ·rename_i Z k;obtain⟨H,rfl⟩:=jB k;subst H;obtain⟨n,b,a⟩:=aN a;have a:=cn a;have a:=cn a;obtain⟨rfl,rfl,_⟩:=bz a;obtain⟨z,j⟩:=R.drop o;have W:ac l+ac m≤140737488355328:=(hA b).2.1;exact bl.behind j (fun _ h=>h) (zQ z I T q E M y (Zi R J K.c (by simp only[maxLen];omega)) i p b)
   ·exact(af a).elim
  ·exact(af a).elim
 ·exact(af a).elim
end
section
variable {P:Program} {w0:W0} {w w':World} {Z0 Zp:bj} {h h':aP} {g:G} {new next base:Nat} {r:A} {L L':Log} {X:Cx}
theorem Ty.hP:∀τ:Ty,τ.g7.length=τ.size
 |.bool |.int _ |.str |.sl _ |.unit |.ref _ |.fn _ |.cl _ _=>rfl
 |.pair a b=>by simp[Ty.g7,Ty.size,Ty.hP a,Ty.hP b]
theorem VT.hP:∀V:VT,V.g7.length=V.size
 |.data τ=>Ty.hP τ
 |.gp _ _ |.gs _ |.gm _ |.cl _ _ _ |.unit=>rfl
 |.pair a b=>by simp[VT.g7,VT.size,VT.hP a,VT.hP b]
theorem VT.zR{base:Nat}:∀V:VT,V.zM=true→cw w base Zp h g (V.cells V.zero) V.g7
 |.data τ,i=>by
  have i:(τ.bH&&τ.zM)=true:=i;rw[ah]at i;exact cw.nQ τ _ _ (wZ τ i.1 i.2)
 |.gp _ _,_=>⟨_,[],rfl,rfl,rfl⟩
 |.gs _,_=>⟨_,[],rfl,rfl,rfl⟩
 |.gm _,_=>⟨_,[],rfl,rfl,rfl⟩
 |.cl _ _ _,_=>⟨_,[],rfl,rfl,rfl⟩
 |.pair a b,i=>by
  have i:(a.zM&&b.zM)=true:=i;rw[ah]at i;exact cw.append _ _ _ _ (VT.zR a i.1) (VT.zR b i.2)
 |.unit,_=>rfl
theorem VT.ij{base:Nat}:∀V:VT,cw w base Zp h g V.i6 V.g7
 |.data τ=>Go.Am.ij τ
 |.gp _ _=>⟨_,[],rfl,rfl,rfl⟩
 |.gs _=>⟨_,[],rfl,rfl,rfl⟩
 |.gm _=>⟨_,[],rfl,rfl,rfl⟩
 |.cl _ _ _=>⟨_,[],rfl,rfl,rfl⟩
 |.pair a b=>cw.append _ _ _ _ (VT.ij a) (VT.ij b)
 |.unit=>rfl
theorem bl.ME(R:HR w0 Z0 Zp h g w){c k cap sz:Nat}{K:GK}{H:List (Option K.me)}{x:K.me}(p:look .dead c h= .gh true K H){j:Sem Next}{w1:World}(E:XF w w1){cur:Array Value}{e0:TypeId}{v:Value}
  (hr:j.run P w= .ok (.value v) (w1.alloc (.cells cur e0 (0,0)))) (D:∀V,K= .bf V→sz=V.size)
  (J:∀(g':G) (w':World) (h':aP),Le Zp h g w h' g' w'→g'.pm c H.length=some (w.heap.size,k,cap,sz)→w'.heap[w.heap.size]? =some (.cells cur e0 (0,0))→mh w' w0.heap.size Zp h' g' c H.length K x∧AR w' w0.heap.size Zp h' g' r v):
  bl P w0 Z0 Zp h g w new j r ((c,.gh true K (fH H x))::h):=by
 have I:(w1.alloc (.cells cur e0 (0,0))).heap=w.heap.push (.cells cur e0 (0,0)):=by
  show w1.heap.push _=_;rw[E.heap]
 have a:(w1.alloc (.cells cur e0 (0,0))).heap[w.heap.size]? =some (.cells cur e0 (0,0)):=by rw[I];simp
 obtain⟨g',y⟩:∃g':G,g'={ g with pm:=EP g.pm c H.length (w.heap.size,k,cap,sz) }:=⟨_,rfl⟩;have i:g'.pm c H.length=some (w.heap.size,k,cap,sz):=by rw[y];exact ku _ _ _ _
 obtain⟨M,L'⟩:=R.fH (x:=x) p I ((E.ext R.ext).alloc _) D y (fun L=>(J g' _ _ L i a).1);exact⟨_,v,_,_,hr,.inl rfl,M,L',(J g' _ _ L' i a).2,fun o p=> .inl (by rw[y]at p;exact p)⟩
theorem Hx{t q ty e:TypeId}{i:TypeInfo}(y:P.underlying t=some (.slice e))(u:P.info? e=some i){b o sLen sCap:Nat}{cur:Array Value}{e0:TypeId}(d:w.heap[b]? =some (.cells cur e0 (0,0))){x:Value}{n:Nat}{a:List Value}
  (l:Src P i.size q x n a w) (c:sLen+n≤sCap) (j:o+sLen*i.size+a.length≤cur.size):
  (Builtin.append_ #[t,q] ty #[.slice (some ⟨b,o,none⟩) sLen sCap,x]).run P w= .ok (.slice (some ⟨b,o,none⟩) (sLen+n) sCap) (w.setRow b (cur.toList.take (o+sLen*i.size)++a++cur.toList.drop (o+sLen*i.size+a.length)).toArray):=by
 have k:=run_storeCells_at P b (o+sLen*i.size) e0 a 0 cur w d (by simpa using j) l.one;simp only[cR]at k;rcases l.kind with⟨z,p⟩|p<;>simp[Builtin.append_,run_underlying y,run_underlying p,sizeOf,typeInfo,u,l.len,c,l.cells,fi,k]
theorem Hy{t d ty e:TypeId}{i:TypeInfo}(k:P.underlying t=some (.slice e))(j:P.info? e=some i){base:Option Addr}{sLen sCap:Nat}(a:sLen≤sCap){x:Value}(b:Src P i.size d x 0 [] w):
  (Builtin.append_ #[t,d] ty #[.slice base sLen sCap,x]).run P w= .ok (.slice base sLen sCap) w:=by
 rcases b.kind with⟨l,c⟩|c<;>cases base<;>simp[Builtin.append_,run_underlying k,run_underlying c,sizeOf,typeInfo,j,b.len,b.cells,a,storeCells]
theorem Ti(R:HR w0 Z0 Zp h g w){V:VT}{x:A}{v:Value}{u z:TypeId}(o:P.underlying u=some (.slice z))(p:AR w w0.heap.size Zp h g x v){k:List V.den→HM}{a:A×aP×Log}(e:(aaQ V x k).eval next h L=some a):
  ∃m b d,(k m).eval next h d=some a∧Src P V.size u v (ac m) b w∧bY (fun y i=>cw w w0.heap.size Zp h g (V.cells y) i) m b:=by
 by_cases t:∃τ,V= .data τ
 ·obtain⟨τ,rfl⟩:=t;have e:(Xx false τ x k).eval next h L=some a:=e
  obtain⟨m,b,d,e,j,n⟩:=MD R o p e;exact⟨m,b,d,e,j,bY.mono (fun y i I=>cw.nQ τ y i I) _ _ n⟩
 unfold aaQ at e
 split at e
 ·exact absurd ⟨_,rfl⟩ t
 ·rename_i V c y k _;have e:=bq e
  split at e
  ·rename_i wr K H F
   split at e
   ·rename_i J B;obtain⟨D,rfl⟩:=dJ B;subst D;obtain⟨l,E,e⟩:=aN e;obtain⟨b,j,n⟩:=Zg R F p.c E o;exact⟨l,b,_,e,j,n⟩
   ·exact(af e).elim
  ·exact(af e).elim
 ·have q:=p.c;simp only[CR]at q;subst q;exact⟨[],[],_,e,Src.ofNil w o 0,rfl⟩
 ·exact(af e).elim
theorem Tj(R:HR w0 Z0 Zp h g w){t tx e ex ty:TypeId}{d dx de:TD}(T:dk P t d)(Tx:dk P tx dx)(Te:dk P e de)(hd:d.desc= .slice e)(hdx:dx.desc= .slice ex){V:VT}(hV:Hu P e V)(hpos:0<de.size){c:Nat}{y:Option (Nat×Nat×Nat)}
  {x:A} {v vx:Value} (hs:CR w w0.heap.size Zp h g (.gs c y) v) (hx:AR w w0.heap.size Zp h g x vx) (e1:(Re V c de.bytes y x).eval next h L=some (r,h',L')):
  bl P w0 Z0 Zp h g w new (do pure (.value (←Builtin.append_ #[t,tx] ty #[v,vx]))) r h':=by
 unfold Re at e1;obtain⟨m,N,L1,Y,F,Tg⟩:=Ti R (Tx.slice hdx) hx e1;clear e1;have Y:=bq Y
 split at Y
 ·rename_i K H U
  split at Y
  ·rename_i H' hH;obtain⟨hK,rfl⟩:=dJ hH;subst hK;obtain⟨r1,p,Y⟩:=aN Y;have Y:=cn Y;obtain⟨rfl,rfl,_⟩:=bz Y;obtain⟨i,z,hi,J,hiz,hzv,_⟩:=hV.inf;obtain⟨i',hi',akn,hib⟩:=Te.inf;rw[hi]at hi';cases hi';have hzs:z.cells.size=i.size:=by
    have:=congrArg ac hzv;rw[ay,VT.hP]at this;omega
   rw[←J]at F;have hul:=F.newsLen;have hVp:0<V.size:=by omega
   have grow:∀(l:List V.den) (n:List V.den) (bs:Option Addr) (sCap:Nat) (E:List Value) (H1:List (Option (List V.den))) (h1:aP),v= .slice bs (ac l) sCap→sCap<ac l+ac m→bY (fun y es=>cw w w0.heap.size Zp h g (V.cells y) es) l E→
     app de.bytes l m=some n→(Builtin.firstCells i.size (ac l) (.slice bs (ac l) sCap)).run P w.drew= .ok E.toArray w.drew→HR w0 Z0 Zp h1 g w→Le Zp h g w h1 g w→look .dead c h1= .gh true (.bf V) H1→
     bl P w0 Z0 Zp h1 g w new (do pure (.value (←Builtin.append_ #[t,tx] ty #[v,vx]))) (.v false [.gs c (some (H1.length,0,ac n))]) ((c,.gh true (.bf V) (fH H1 n))::h1):=by
    intro l n bs sCap E H1 h1 hv hlt hol ac7 hfc R1 XE ho1;subst hv;obtain⟨hb1,S0,rfl⟩:=hA ac7;have hr:=run_append_grow_src (P:=P) w t tx ty e i z (T.slice hd) hi hiz bs (ac l) sCap E hfc vx _ N F hlt (by omega) (growslice_fits hlt (by rw[hib];exact hb1));have hge:=grownCap_ge w (ac l+ac m) sCap e;have hcm:=grownCap_le_maxLen w (ac l+ac m) sCap e (by simp only[maxLen];omega);have aeQ:=bY.length (kV V) l E hol;have B:ac (l++m)=ac l+ac m:=aE;refine bl.ME R1 ho1 (w1:=w.drew) (.inr rfl) (cur:=(E++N).toArray++Builtin.zeroCells z.cells (grownCap w (ac l+ac m) sCap e -(ac l+ac m))) (e0:=e) (k:=0) (cap:=grownCap w (ac l+ac m) sCap e) (sz:=V.size)
     (v:=.slice (some ⟨w.heap.size,0,none⟩) (ac l+ac m) (grownCap w (ac l+ac m) sCap e)) (K:=.bf V) (by simp[hr]) (fun V' h=>by cases h;rfl) (fun g' w' h' L2 O hnew=>⟨⟨hVp,_,_,_,_,_,O,hnew,?_,?_,hcm,?_⟩,?_⟩)
    ·rw[Array.size_append,zP,cu,aE,aeQ,hul,hzs,Nat.sub_mul,←J,b9];have:=aW i.size hge;rw[bw]at this ⊢;omega
    ·show ac (l++m)≤_;rw[B];exact hge
    ·have e1:ac (l++m)*V.size=(E++N).length:=by rw[B,aE,aeQ,hul,←J,bw]
     rw[List.drop_zero];show bY _ (l++m) (List.take (ac (l++m)*V.size) _);rw[e1,Array.toList_append,List.take_left];exact bY.mono (fun x es hx=>cw.mono L2 _ _ (cw.mono XE _ _ hx)) _ _ (bY.app _ _ _ _ hol Tg)
    ·refine AR.jU ⟨_,_,_,_,0,O,?_,fun _=>by simp,?_⟩
     ·show 0+ac (l++m)≤_;rw[B];omega
     ·show Value.slice _ _ _=Value.slice _ (ac (l++m)) _;rw[B];rfl
   cases y with
   |none=>
    have hv:v= .slice none 0 0:=hs;unfold gsA at p;simp only at p
    split at p
    ·cases p;subst hv;have XK:N=[]:=Tg;subst XK;have hr:=vJ (P:=P) (ty:=ty) (T.slice hd) hi F;have W:∀o,look .dead o h=look .dead o ((c,Ob.gh true (.bf V) H)::h):=fun o=>by
      rw[aG]
      split
      ·rename_i hc;subst hc;exact U
      ·rfl
     exact⟨_,.slice none 0 0,w,g,by simp[hr],.inl rfl,R.same W,Le.same W,AR.jU rfl,fun o U=> .inl U⟩
    ·rename_i y0 m0
     split at p
     ·rename_i n hn
      cases p;exact grow [] n none 0 [] H h hv (by simp) rfl hn (run_firstCells_none w.drew _ _ _ _) R (Le.refl _ _ _ _) U
     ·cases p
   |some q=>
    obtain⟨id,a,D⟩:=q;unfold gsA at p;simp only at p
    split at p
    ·rename_i l hl
     split at p
     ·rename_i n hn
      cases p;obtain⟨b,k,cap,cur,e0,o,hp,Q,hsz,hac,hmx,hoo,rfl,M,hG,_,VC,l0,hl0,aeO,_⟩:=Rs R U hs hl;obtain⟨hb1,S0,Z⟩:=hA hn;have M:ac l=D:=M
      by_cases I:D+ac m≤cap -a
      ·
       have B:ac n=D+ac m:=by rw[Z,aE,M]
       obtain⟨g',hg⟩:∃g':G,g'={ g with pm:=EP g.pm c H.length (b,k+a*V.size,cap -a,V.size) }:=⟨_,rfl⟩;have O:g'.pm c H.length=some (b,k+a*V.size,cap -a,V.size):=by rw[hg];exact ku _ _ _ _
       have aeR:(cap -a)*V.size+a*V.size=cap*V.size:=by rw[←bw];congr 1;omega
       have ada:g'.al=g.al:=by rw[hg]
       by_cases ahp:a<cap
       ·have hoo:=hoo ahp;subst hoo;have hfit:k+a*V.size+D*i.size+N.length≤cur.size:=by
         rw[hul,J,cX,←bw,hsz];have:=aW V.size I;omega
        have hr:=Hx (P:=P) (ty:=ty) (T.slice hd) hi Q F I hfit;have S:=setRow_heap w b cur (cur.toList.take (k+a*V.size+D*i.size)++N++cur.toList.drop (k+a*V.size+D*i.size+N.length)).toArray e0 (0,0) Q;obtain⟨R',L'⟩:=R.acn (w':=w.setRow b (cur.toList.take (k+a*V.size+D*i.size)++N++cur.toList.drop (k+a*V.size+D*i.size+N.length)).toArray) (x:=n) (K:=.bf V) U hl0 hp rfl (fun c hc=>setRow_other w b c _ hc) (setRow_size _ _ _) (jY R.ext (R.gh.own c (.bf V) H id _ _ U hl0 hp) _) (fun V' h=>by cases h;rfl) hg (fun L2=>by
         have Vq:cur.toList.length=cur.size:=ay;have htl:(cur.toList.take (k+a*V.size+D*i.size)).length=k+a*V.size+D*i.size:=by
          rw[aR,Vq];omega
         refine⟨hVp,b,_,_,_,e0,O,S,?_,?_,by omega,?_⟩
         ·rw[cu,aE,aE,htl,cy,Vq];omega
         ·show ac n≤_;rw[B];exact I
         ·have e3:((cur.toList.take (k+a*V.size+D*i.size)++N++cur.toList.drop (k+a*V.size+D*i.size+N.length)).drop (k+a*V.size)).take (ac n*V.size)=(cur.toList.drop (k+a*V.size)).take (D*V.size)++N:=by
           have e4:cur.toList.take (k+a*V.size+D*i.size)=cur.toList.take (k+a*V.size)++(cur.toList.drop (k+a*V.size)).take (D*i.size):=by
            rw[List.take_add]
           rw[e4,bI,bI,List.drop_append_of_le_length (by rw[aR,ay];omega),List.drop_eq_nil_of_le (by rw[aR,ay];omega),ct,←bI,B,J];have e5:((cur.toList.drop (k+a*V.size)).take (D*V.size)++N).length=(D+ac m)*V.size:=by
            rw[aE,aR,cy,ay,hul,J,bw];rw[hul,J]at hfit;omega
           rw[←e5,List.take_left]
          show bY _ n (List.take (ac n*V.size) _);show bY _ n (List.take (ac n*V.size) (List.drop (k+a*V.size) (cur.toList.take (k+a*V.size+D*i.size)++N++cur.toList.drop (k+a*V.size+D*i.size+N.length))));rw[e3];have Ry:=bY.mono (fun x es hx=>cw.mono L2 _ _ hx) _ _ (bY.app _ _ _ _ VC Tg);rw[←Z]at Ry;exact Ry)
        refine⟨_,.slice (some ⟨b,k+a*V.size,none⟩) (D+ac m) (cap -a),_,_,by simp[hr],.inl rfl,R',L',AR.jU ⟨b,_,_,_,k+a*V.size,O,?_,fun _=>by simp,?_⟩,fun o U=> .inl (ada▸U)⟩
        ·show 0+ac n≤_;rw[B];omega
        ·show _=Value.slice _ (ac n) _;rw[B];rfl
       ·
        have hca:cap -a=0:=by omega
        have hm0:ac m=0:=by omega
        have adb:D=0:=by omega
        have hmn:m=[]:=List.length_eq_zero_iff.1 hm0;subst hmn;have XK:N=[]:=Tg;subst XK;have ahq:l=[]:=List.length_eq_zero_iff.1 (M.trans adb);have hr:=Hy (P:=P) (ty:=ty) (T.slice hd) hi (base:=some ⟨b,o,none⟩) (sLen:=D) (sCap:=cap -a) (by omega) F;obtain⟨R',L'⟩:=R.acn (w':=w) (x:=n) (K:=.bf V) U hl0 hp rfl (fun _ _=>rfl) rfl R.ext (fun V' h=>by cases h;rfl) hg (fun L2=>by
         refine⟨hVp,b,_,_,cur,e0,O,Q,?_,?_,by omega,?_⟩
         ·omega
         ·show ac n≤_;rw[B];exact I
         ·rw[Z,ahq];show bY _ [] _;simp[bY])
        refine⟨_,.slice (some ⟨b,o,none⟩) D (cap -a),_,_,by simp[hr],.inl rfl,R',L',AR.jU ⟨b,_,_,_,o,O,?_,fun h=>by omega,?_⟩,fun o U=> .inl (ada▸U)⟩
        ·show 0+ac n≤_;rw[B];omega
        ·show _=Value.slice _ (ac n) _;rw[B];rfl
      ·
       obtain⟨R1,XE⟩:=R.aeL (K:=.bf V) U hl0 hp rfl false (g':=g) (by simp);have hlk:look .dead c ((c,Ob.gh true (.bf V) (H.set id none))::h)= .gh true (.bf V) (H.set id none):=by rw[aG,if_pos rfl]
       have hol:=bY.length (kV V) l _ VC;have Ru:=grow l n (some ⟨b,o,none⟩) (cap -a) _ (H.set id none) _ (by rw[M]) (by omega) VC hn (by
        refine run_firstCells_some w.drew i.size _ _ _ (cap -a) _ (by rw[J];exact hol) fun j u hj=> ?_;have hn0:0<D:=by
         rcases Nat.eq_zero_or_pos D with h0 |h0
         ·subst h0;simp at hj
         ·exact h0
        rw[hoo (by omega),fi];exact g8 Q _ _ j u hj) R1 XE hlk
       obtain⟨nn,vv,w2,g2,q1,q2,q3,q4,q5,q6⟩:=bl.behind XE (fun _ h=>h) Ru;have W:∀o,look .dead o ((c,Ob.gh true (.bf V) (fH (H.set id none) n))::(c,Ob.gh true (.bf V) (H.set id none))::h)=look .dead o ((c,Ob.gh true (.bf V) (fH (H.set id none) n))::h):=fun o=>by
        rw[aG,aG,aG]
        split
        ·rfl
        ·rfl
       have hL: @ac (Option (List V.den)) (@List.set (Option (GK.bf V).me) H id none)= @ac (Option (List V.den)) H:=List.length_set;rw[hL]at q5;exact⟨nn,vv,w2,g2,q1,q2,q3.same W,q4.trans (Le.same W),AR.mono (Le.same W) _ _ q5,q6⟩
     ·cases p
    ·cases p
  ·exact(af Y).elim
 ·exact(af Y).elim
theorem VJ(R:HR w0 Z0 Zp h g w){t:TypeId}{V:VT}(d:Hu P t V){c:Nat}{H:List (Option V.den)}(p:look .dead c h= .gh true (.st V) H):
  bl P w0 Z0 Zp h g w new (do pure (.value (←Instr.alloc t true (.tuple #[])))) (.v false [.gp c 0 (some H.length)]) ((c,.gh true (.st V) (fH (α:=V.den) H V.zero))::h):=by
 obtain⟨i,z,n,o,j,l,_⟩:=d.inf;refine bl.ME R (K:=.st V) p (w1:=w) (.inl rfl) (cur:=z.cells) (e0:=t) (k:=0) (cap:=0) (sz:=V.size) (v:=.pointer (some ⟨w.heap.size,0,none⟩)) ?_ (fun _ h=>by cases h) (fun u w' h' q b a=>⟨⟨d.pos,_,_,_,_,b,a,?_⟩,AR.jU ⟨_,b,rfl,rfl⟩⟩)
 ·simp[Instr.alloc,zeroValue,typeInfo,n,j,newVar,newRow,newObj,Sem.run]
 ·rw[l];exact VT.zR V d.nf
theorem Zk(R:HR w0 Z0 Zp h g w){t:TypeId}{V:VT}(d:Hu P t V){c:Nat}{H:List (Option V.den)}(l:look .dead c h= .gh true (.st V) H){cs:List C}{v:Value}(j:cw w w0.heap.size Zp h g cs v.cells.toList){z:V.den}(n:V.cf cs=some z):
  bl P w0 Z0 Zp h g w new (do pure (.value (←Instr.box t v))) (.v false [.gp c 0 (some H.length)]) ((c,.gh true (.st V) (fH (α:=V.den) H z))::h):=by
 refine bl.ME R (K:=.st V) l (w1:=w) (.inl rfl) (cur:=v.cells) (e0:=t) (k:=0) (cap:=0) (sz:=V.size) (v:=.pointer (some ⟨w.heap.size,0,none⟩)) ?_ (fun _ h=>by cases h) (fun o w' h' i b a=>⟨⟨d.pos,_,_,_,_,b,a,?_⟩,AR.jU ⟨_,b,rfl,rfl⟩⟩)
 ·simp[Instr.box,newVar,newRow,newObj,Sem.run]
 ·exact cw.mono i _ _ (VT.jX d.ok j n)
theorem bY.MF{base:Nat}{V:VT}(a:V.zM=true):∀n,bY (fun y es=>cw w base Zp h g (V.cells y) es) (aY n V.zero) (aY n V.g7).flatten
 |0=>rfl
 |n+1=>⟨V.g7,(aY n V.g7).flatten,by simp[List.replicate_succ],VT.zR V a,bY.MF a n⟩
theorem XL(R:HR w0 Z0 Zp h g w){t e:TypeId}{d F:TD}(T:dk P t d)(Q:dk P e F)(W:d.desc= .slice e){V:VT}(B:Hu P e V){c:Nat}{H:List (Option (List V.den))}(ho:look .dead c h= .gh true (.bf V) H)
  {O N:IntKind} {n:Int} {k:Nat} (Z:ED F.bytes n=some k):
  bl P w0 Z0 Zp h g w new (do pure (.value (←Instr.makeSlice t (.int O n) (.int N n)))) (.v false [.gs c (some (H.length,0,k))]) ((c,.gh true (.bf V) (fH (α:=List V.den) H (aY k V.zero)))::h):=by
 obtain⟨i,z,J,Y,E,x,_⟩:=B.inf;obtain⟨i',b,M,D⟩:=Q.inf;rw[J]at b;cases b;obtain⟨I,S,h2,rfl⟩:=zO Z;have p:=B.pos;have hzs:z.cells.size=V.size:=by
  have:=congrArg ac x;rw[ay,VT.hP]at this;omega
 have U:(i.bytes:Int)*n≤281474976710656:=by
  have h3:n.toNat*i.bytes≤140737488355328:=by rw[D];exact S
  have h4:((n.toNat*i.bytes:Nat):Int)=(i.bytes:Int)*n:=by rw[Int.natCast_mul,Int.toNat_of_nonneg I,Int.mul_comm]
  omega
 have u:=run_make (P:=P) w t e i z (T.slice W) J E O N n n I (Int.le_refl _) U (by omega);have a:(madeCells z.cells (n.toNat*i.size)).toList=(aY n.toNat V.g7).flatten:=by
  have:i.size=z.cells.size:=by omega
  rw[this,Qh z.cells (by omega),x]
 have q:=fun(y:G) (w':World) (h':aP)=>bY.MF (w:=w') (base:=w0.heap.size) (Zp:=Zp) (h:=h') (g:=y) B.nf n.toNat;have j:((aY n.toNat V.g7).flatten).length=n.toNat*V.size:=by
  have:=bY.length (kV (w:=w) (base:=w0.heap.size) (Zp:=Zp) (h:=h) (g:=g) V) _ _ (q g w h);rw[List.length_replicate]at this;exact this
 refine bl.ME R (K:=.bf V) ho (w1:=w) (.inl rfl) (cur:=madeCells z.cells (n.toNat*i.size)) (e0:=e) (k:=0) (cap:=n.toNat) (sz:=V.size) (v:=.slice (some ⟨w.heap.size,0,none⟩) n.toNat n.toNat) (by simp[u]) (fun V' h=>by cases h;rfl)
  (fun y w' h' L2 o l=>⟨⟨p,_,_,_,_,_,o,l,?_,?_,by simp only[maxLen];omega,?_⟩,AR.jU ⟨_,_,_,_,0,o,by omega,fun _=>by simp,by simp⟩⟩)
 ·rw[←ay,a,j,b9]
 ·show @ac V.den (aY n.toNat V.zero)≤_;rw[List.length_replicate];exact av _
 ·show bY _ (aY n.toNat V.zero) (List.take (@ac V.den (aY n.toNat V.zero)*V.size) _);rw[List.length_replicate,List.drop_zero,a,←j,List.take_length];exact q y w' h'
theorem VK(R:HR w0 Z0 Zp h g w){t e:TypeId}{d n:TD}(T:dk P t d)(l:dk P e n)(p:d.desc= .slice e){V:VT}(o:Hu P e V){c:Nat}{H:List (Option (List V.den))}(u:look .dead c h= .gh true (.bf V) H){ps:Array (Nat×Value)}(x:ps= #[]):
  bl P w0 Z0 Zp h g w new (do pure (.value (←Instr.buildSlice t 0 ps))) (.v false [.gs c (some (H.length,0,0))]) ((c,.gh true (.bf V) (fH (α:=List V.den) H []))::h):=by
 subst x;obtain⟨D,j,q,_⟩:=l.inf;have i:(Instr.buildSlice t 0 #[]).run P w= .ok (.slice (some ⟨w.heap.size,0,none⟩) 0 0) (w.alloc (.cells #[] e)):=by
  simp[Instr.buildSlice,run_underlying (T.slice p),Go.sizeOf,typeInfo,j,Instr.fill,newRow,Array.range_zero']
 refine bl.ME R (K:=.bf V) u (w1:=w) (.inl rfl) (cur:= #[]) (e0:=e) (k:=0) (cap:=0) (sz:=V.size) (v:=.slice (some ⟨w.heap.size,0,none⟩) 0 0) (by simp[i]) (fun z h=>by cases h;rfl)
  (fun B w' h' y b a=>⟨⟨o.pos,_,_,_,_,_,b,a,by simp,av _,by simp only[maxLen];omega,by simp[bY]⟩,AR.jU ⟨_,_,_,_,0,b,by omega,fun _=>by simp,by simp⟩⟩)
theorem O5(F:EA P X.tt)(R:HR w0 Z0 Zp h g w){t:TypeId}{d:TD}(T:dk P t d){u:List (TypeId×Nat)}(I:d.desc= .struct u){V:VT}(E:Hu P t V){p:List (Nat×Nat)}
  (c:nZ (fun f:TypeId×Nat=>match bP f.1 X.tt with |some y=>some (f.2,y.size)|none=>none) u=some p) {parts:Array (Nat×Operand)}
  {env:Env} {a:Act} (J:∀t,AR w w0.heap.size Zp h g (look aA t env) (a.tmps.getD t undef)) {cs:List C} (K:EI (fun i=>p[i]?) V.i6 (parts.toList.map fun(i,x)=>(i,sV env x))=some cs):
  bl P w0 Z0 Zp h g w new (do pure (.value (←Instr.build t (parts.map fun(i,x)=>(i,a.eval x))))) (.v true cs) h:=by
 obtain⟨f,O,j⟩:=T.struct I;obtain⟨i,z,M,_,k,o,_⟩:=E.inf;have n:cw w w0.heap.size Zp h g V.i6 z.cells.toList:=by rw[o];exact VT.ij V
 rw[←j]at c;have l:=DE F _ _ c;obtain⟨b,B,D⟩:=ES (pc:=fun i=>p.toArray[i]?) (fun i q N=>by simpa using N) J parts.toList _ _ z.cells n K;refine bl.pure R (v:=.agg b) ?_ ⟨b.toList,by simp,D⟩;have H:P.built t (parts.map fun(i,x)=>(i,a.eval x)).toList=some b:=by
  unfold Program.built;simp only[M,O,k,l,Array.toList_map];exact B
 simp[run_build w t _ b H]
end
section
variable {P:Program} {w0:W0} {w w':World} {Z0 Zp:bj} {h h':aP} {g:G} {new next base:Nat} {r:A} {L L':Log} {X:Cx}
theorem Tk{x:A}{v:Value}(i:aaR x=true)(d:AR w base Zp h g x v):∃a n c,v= .slice a n c:=by
 unfold aaR at i
 split at i
 ·obtain⟨⟨b,c,l,k,_⟩,_⟩:=d.c;exact⟨b,_,c,by simpa using k⟩
 ·exact⟨none,0,0,d.c⟩
 ·rename_i c y
  cases y with
  |none=>exact⟨none,0,0,d.c⟩
  |some q=>obtain⟨_,_,_,_,_,_,_,_,j⟩:=d.c;exact⟨_,_,_,j⟩
 ·obtain⟨_,⟨a,n,m,j⟩,_⟩:=d.c;exact⟨a,n,m,j⟩
 ·cases i
theorem aa6{a:Addr}{v:Value}{w1:World}(b:(load a).run P w= .ok v w1):w1=w:=by
 rw[run_load]at b
 split at b
 ·cases b;rfl
 ·split at b
  ·cases b;rfl
  ·cases b
theorem Ci{a:Addr}:∀(n i:Nat) (b r:Array Value),(loadCellsFrom a i n b).run P w= .ok r w→∀k,k≤n→(loadCellsFrom a i k b).run P w= .ok (r.toList.take (b.size+k)).toArray w∧r.size=b.size+n∧r.toList.take b.size=b.toList
 |0,i,b,r,c,k,q=>by
  simp[loadCellsFrom]at c;subst c;obtain rfl:k=0:=by omega
  refine⟨?_,by simp,?_⟩
  ·have:b.toList.take (b.size+0)=b.toList:=bp (by simp);rw[this];simp[loadCellsFrom]
  ·exact bp (by simp)
 |n+1,i,b,r,c,k,q=>by
  simp only[loadCellsFrom,Sem.run_bind]at c
  cases d:(load (a.add i)).run P w with
  |ok v u=>
   have t:=aa6 d;rw[t]at d;rw[d]at c;simp only[Result.andThen_ok]at c;obtain⟨l,o,p⟩:=Ci n (i+1) (b.push v) r c (k -1) (by omega);have j:r.toList.take b.size=b.toList:=by
    have:=congrArg (List.take b.size) p;rw[List.take_take,Nat.min_eq_left (by simp)]at this;rw[this];simp
   refine⟨?_,by rw[o];simp;omega,j⟩
   cases k with
   |zero=>rw[cR,j];simp[loadCellsFrom]
   |succ k=>
    simp only[loadCellsFrom,Sem.run_bind,d,Result.andThen_ok];have:b.size+(k+1)=(b.push v).size+k:=by simp;omega
    rw[this];simpa using l
  |_=>rw[d]at c;simp[Result.andThen]at c
theorem ya{size n:Nat}{x:Value}{d:List Value}(l:∃a k c,x= .slice a k c)(j:d.length=n*size)(b:(Builtin.firstCells size n x).run P w= .ok d.toArray w){k:Nat}(i:k≤n):
  (Builtin.firstCells size k x).run P w= .ok (d.take (k*size)).toArray w:=by
 obtain⟨a,m,c,rfl⟩:=l
 cases a with
 |none=>
  simp[Builtin.firstCells]at b ⊢;rw[←b];simp
 |some a=>
  simp only[Builtin.firstCells,loadCells]at b ⊢;have:=(Ci (P:=P) _ _ _ _ b (k*size) (aW _ i)).1;simpa using this
theorem Qi{t z ty e:TypeId}{i:TypeInfo}(E:P.underlying t=some (.slice e))(D:P.info? e=some i){b o dLen dCap:Nat}{cur:Array Value}{e0:TypeId}(j:w.heap[b]? =some (.cells cur e0 (0,0))){x:Value}{n:Nat}{d:List Value}
  (y:Src P i.size z x n d w) (H:∃a k c,x= .slice a k c) (l:o+(d.take (min n dLen*i.size)).length≤cur.size):
  (Builtin.copy_ #[t,z] ty #[.slice (some ⟨b,o,none⟩) dLen dCap,x]).run P w= .ok (goInt (min n dLen:Nat)) (w.setRow b (cur.toList.take o++d.take (min n dLen*i.size)++cur.toList.drop (o+(d.take (min n dLen*i.size)).length)).toArray):=by
 have B:=ya (P:=P) H y.newsLen y.cells (Nat.min_le_left n dLen);have q:=run_storeCells_at P b o e0 (d.take (min n dLen*i.size)) 0 cur w j (by simpa using l) (fun u F=>y.one u (List.mem_of_mem_take F));simp only[cR]at q;have p:Nat.min n dLen=min n dLen:=rfl;simp[Builtin.copy_,run_underlying E,sizeOf,typeInfo,D,y.len,p,B,q]
theorem Qj{t o ty e:TypeId}{i:TypeInfo}(u:P.underlying t=some (.slice e))(q:P.info? e=some i){base:Option Addr}{dLen dCap:Nat}{x:Value}{n:Nat}{d:List Value}
  (j:Src P i.size o x n d w) (y:∃a k c,x= .slice a k c) (p:min n dLen=0):
  (Builtin.copy_ #[t,o] ty #[.slice base dLen dCap,x]).run P w= .ok (goInt 0) w:=by
 have l:=ya (P:=P) y j.newsLen j.cells (Nat.zero_le n);simp only[Nat.zero_mul,abZ]at l;have b:Nat.min n dLen=0:=p
 cases base<;>simp[Builtin.copy_,run_underlying u,sizeOf,typeInfo,q,j.len,b,l,storeCells]
theorem Zl{α:Type}(H:List (Option α))(id:Nat)(l:α)(h:H[id]? =some (some l)):H.set id (some l)=H:=by
 apply List.ext_getElem?;intro j
 by_cases a:id=j
 ·subst a;rw[cB (List.getElem?_eq_some_iff.1 h).1];exact h.symm
 ·rw[cA a]
theorem Zm{α:Type}(l:List α)(a:Nat):zE l a []=l:=by simp[zE]
theorem zS{α:Type}(l:List α)(a:Nat)(m:List α)(h:a+m.length≤l.length):(zE l a m).length=l.length:=by
 simp[zE];omega
theorem Tl{α:Type}{R:α→List Value→Prop}{s:Nat}(j:∀x t,R x t→t.length=s){l m:List α}{a k:Nat}{c:List Value}{cur:List Value}(n:bY R l ((cur.drop k).take (l.length*s)))(hm:bY R m c)
  (D:k+l.length*s≤cur.length) (o:a+m.length≤l.length):
  (cur.take (k+a*s)++c++cur.drop (k+a*s+c.length)).length=cur.length∧bY R (zE l a m) (((cur.take (k+a*s)++c++cur.drop (k+a*s+c.length)).drop k).take (l.length*s)):=by
 have q:=bY.length j m c hm;obtain⟨E,i⟩:∃E,E=(cur.drop k).take (l.length*s):=⟨_,rfl⟩;have d:E.length=l.length*s:=by rw[i,aR,cy];omega
 have F:a*s+m.length*s≤l.length*s:=by rw[←bw];exact aW _ o
 have B:(E.take (a*s)).length=a*s:=by rw[aR,d];omega
 have p:(cur.drop k).take (l.length*s)=E.take (a*s)++E.drop (a*s)++[]:=by rw[←i];simp
 have b:=MA cur k (l.length*s) (E.take (a*s)) (E.drop (a*s)) [] c 0 D p (by rw[cy,d];omega);rw[B]at b;simp only[cR,abZ,ct,ab1,b9,List.drop_drop]at b;refine⟨b.1,?_⟩;rw[b.2];rw[←i]at n;have y:=(bY.take_drop j a l E n).1;have z:=(bY.take_drop j (a+m.length) l E n).2;have u:=bY.app _ _ _ _ (bY.app _ _ _ _ y hm) z;unfold zE;rw[q];have:(a+m.length)*s=a*s+m.length*s:=bw _ _ _;rw[this]at u;simpa[bI]using u
theorem XM(R:HR w0 Z0 Zp h g w){t tx e ex ty:TypeId}{d dx:TD}(T:dk P t d)(Tx:dk P tx dx)(hd:d.desc= .slice e)(hdx:dx.desc= .slice ex){V:VT}(hV:Hu P e V){c:Nat}{y:Option (Nat×Nat×Nat)}
  {x:A} {v vx:Value} (hs:CR w w0.heap.size Zp h g (.gs c y) v) (hx:AR w w0.heap.size Zp h g x vx) (S:(YN V c y x).eval next h L=some (r,h',L')):
  bl P w0 Z0 Zp h g w new (do pure (.value (←Builtin.copy_ #[t,tx] ty #[v,vx]))) r h':=by
 unfold YN at S
 split at S
 ·rename_i hsl;have n:=Tk hsl hx;obtain⟨m,us,L1,D,u,Tg⟩:=Ti R (Tx.slice hdx) hx S;clear S;have D:=bq D
  split at D
  ·rename_i K H F
   split at D
   ·rename_i H' hH;obtain⟨hK,rfl⟩:=dJ hH;subst hK;obtain⟨r1,p,D⟩:=aN D;have D:=cn D;obtain⟨rfl,rfl,_⟩:=dt D;obtain⟨i,z,hi,O,hiz,hzv,_⟩:=hV.inf;rw[←O]at u;have hul:=u.newsLen;have J:∀o,look .dead o h=look .dead o ((c,Ob.gh true (.bf V) H)::h):=fun o=>by
     rw[aG]
     split
     ·rename_i hc;subst hc;exact F
     ·rfl
    cases y with
    |none=>
     cases p;have hv:v= .slice none 0 0:=hs;subst hv;have hr:=Qj (P:=P) (ty:=ty) (T.slice hd) hi (base:=none) (dLen:=0) (dCap:=0) u n (Nat.min_zero _);exact⟨_,goInt 0,w,g,by simp[hr],.inl rfl,R.same J,Le.same J,AR.jU rfl,fun o F=> .inl F⟩
    |some q=>
     obtain⟨id,a,j⟩:=q;unfold gsC at p;simp only at p
     split at p
     ·rename_i l hl
      split at p
      ·rename_i Z
       cases p;have Z:a+j≤@ac V.den l:=Z;have I:=eB hl;obtain⟨h0,b,k,B,cur,e0,hp,N,W,hll,hmx,VC⟩:=R.gh.me c true (.bf V) H id l F I;obtain⟨b',k',cap',sz',o,hq,hac,Q,rfl⟩:=hs;rw[hp]at hq;cases hq
       by_cases hz:min (ac m) j=0
       ·have hr:=Qj (P:=P) (ty:=ty) (T.slice hd) hi (base:=some ⟨b,o,none⟩) (dLen:=j) (dCap:=B -a) u n hz;have E:m.take j=[]:=List.eq_nil_of_length_eq_zero (by rw[aR];omega);have U:H.set id (some (zE l a (m.take j)))=H:=by
         rw[E,Zm];exact Zl H id l I
        refine⟨_,goInt 0,w,g,by simp[hr],.inl rfl,?_,?_,?_,fun o F=> .inl F⟩
        ·show HR w0 Z0 Zp ((c,.gh true (.bf V) (H.set id (some (zE l a (m.take j)))))::h) g w;rw[U];exact R.same J
        ·show Le Zp h g w ((c,.gh true (.bf V) (H.set id (some (zE l a (m.take j)))))::h) g w;rw[U];exact Le.same J
        ·refine AR.jU ?_;show goInt 0= .int .i64 _;have:min (ac m) j=0:=hz;simp[goInt,this]
       ·have hca:a<B:=by omega
        have Q:=Q hca;subst Q;have aeS:(us.take (min (ac m) j*i.size)).length=min (ac m) j*i.size:=by
         rw[aR,hul];exact Nat.min_eq_left (aW _ (Nat.min_le_left _ _))
        have E: @ac V.den (m.take j)=min (ac m) j:=by rw[aR];exact Nat.min_comm _ _
        have htk:m.take j=m.take (min (ac m) j):=by
         rcases Nat.le_total (ac m) j with hh |hh
         ·rw[Nat.min_eq_left hh,bp hh,bp (av _)]
         ·rw[Nat.min_eq_right hh]
        have YD:bY (fun y es=>cw w w0.heap.size Zp h g (V.cells y) es) (m.take j) (us.take (min (ac m) j*i.size)):=by
         rw[htk,O];exact(bY.take_drop (kV V) _ _ _ Tg).1
        have aeR: @ac V.den l*V.size≤B*V.size:=aW _ hll;have Vq:cur.toList.length=cur.size:=ay;obtain⟨q1,q2⟩:=Tl (a:=a) (m:=(m.take j:List V.den)) (cur:=cur.toList) (kV V) VC YD (by omega) (by rw[E];have:=Nat.min_le_right (ac m) j;omega);have Y:k+a*V.size+(us.take (min (ac m) j*i.size)).length≤cur.size:=by
         rw[aeS,O];obtain⟨M,hM⟩:∃M,M=min (ac m) j:=⟨_,rfl⟩;have hM2:M≤j:=by rw[hM];exact Nat.min_le_right _ _
         rw[←hM];have h10:(a+M)*V.size≤@ac V.den l*V.size:=aW _ (by omega);rw[bw]at h10;omega
        have hr:=Qi (P:=P) (ty:=ty) (T.slice hd) hi (dLen:=j) (dCap:=B -a) N u n Y;obtain⟨R',L'⟩:=R.J6 (w':=w.setRow b (cur.toList.take (k+a*V.size)++us.take (min (ac m) j*i.size)++cur.toList.drop (k+a*V.size+(us.take (min (ac m) j*i.size)).length)).toArray) (K:=.bf V) (x:=(zE l a (m.take j):List V.den)) F I hp rfl (fun c hc=>setRow_other w b c _ hc) (setRow_size _ _ _)
         (jY R.ext (R.gh.own c (.bf V) H id l _ F I hp) _) (fun L2=>⟨h0,b,k,B,_,e0,hp,setRow_heap w b cur _ e0 _ N,by
          rw[cu,q1,Vq];exact W,by
          show @ac V.den (zE l a (m.take j))≤B;rw[zS l a _ (by rw[E];have:=Nat.min_le_right (ac m) j;omega)];exact hll,hmx,by
          show bY _ (zE l a (m.take j)) (List.take (@ac V.den (zE l a (m.take j))*V.size) _);rw[zS l a _ (by rw[E];have:=Nat.min_le_right (ac m) j;omega)];exact bY.mono (fun x es hx=>cw.mono L2 _ _ hx) _ _ q2⟩)
        exact⟨_,_,_,_,by simp[hr];rfl,.inl rfl,R',L',AR.jU rfl,fun o F=> .inl F⟩
      ·cases p
     ·cases p
   ·exact(af D).elim
  ·exact(af D).elim
 ·exact(af S).elim
theorem XN(hX:EA P X.tt)(R:HR w0 Z0 Zp h g w){t tx e ex ty:TypeId}{d dx:TD}(T:dk P t d)(Tx:dk P tx dx)(hd:d.desc= .slice e)(hdx:dx.desc= .slice ex){o:Nat}
  {x:A} {v vx:Value} (hs:CR w w0.heap.size Zp h g (.vec o) v) (Q:AR w w0.heap.size Zp h g x vx) (n:(YO X e o x).eval next h L=some (r,h',L')):
  bl P w0 Z0 Zp h g w new (do pure (.value (←Builtin.copy_ #[t,tx] ty #[v,vx]))) r h':=by
 unfold YO at n
 split at n
 ·rename_i hsl;have q:=Tk hsl Q;have n:=bq n
  split at n
  ·rename_i τ l B
   split at n
   ·rename_i j;obtain⟨m,D,L1,U,p,Tg⟩:=MD R (Tx.slice hdx) Q n;clear n;have U:=cn U;obtain⟨rfl,rfl,_⟩:=dt U;unfold wU at j
    split at j
    ·rename_i de hde;rw[ah]at j;have j:=aj j.1;obtain⟨i,hi,y,_⟩:=(hX.get hde).inf;have y:i.size=τ.size:=by omega
     rw[←y]at p;have hul:=p.newsLen;obtain⟨Rp,hsh,Y⟩:=hs;obtain⟨b,N,rfl⟩:=Y τ (ac l) (by rw[B];rfl);have J:=R.ob o;rw[B]at J;obtain⟨h0,V,b',cur,e0,E,u,K⟩:=J;rw[N]at E;cases E;have W:=R.home o b (by rw[B];simp) N;have H:=bY.length (PR.k τ) l _ K;have Vq:cur.toList.length=cur.size:=ay;have I: @ac τ.den (m.take (ac l))=min (ac m) (ac l):=by rw[aR];exact Nat.min_comm _ _
     have htk:m.take (ac l)=m.take (min (ac m) (ac l)):=by
      rcases Nat.le_total (ac m) (ac l)with O |O
      ·rw[Nat.min_eq_left O,bp O,bp (av _)]
      ·rw[Nat.min_eq_right O]
     have YD:bY (PR w g.Z Zp τ) (m.take (ac l)) (D.take (min (ac m) (ac l)*i.size)):=by
      rw[htk,y];exact(bY.take_drop (PR.k τ) _ _ _ Tg).1
     have M:bY (PR w g.Z Zp τ) l ((cur.toList.drop 0).take (ac l*τ.size)):=by
      rw[List.drop_zero,bp (by omega)];exact K
     obtain⟨q1,q2⟩:=Tl (cur:=cur.toList) (a:=0) (PR.k τ) M YD (by omega) (by rw[I];have:=Nat.min_le_right (ac m) (ac l);omega);simp only[Nat.zero_mul,cR,b9,abZ,ct,List.drop_zero]at q1 q2;have q3:(D.take (min (ac m) (ac l)*i.size)++cur.toList.drop (D.take (min (ac m) (ac l)*i.size)).length).length≤ac l*τ.size:=by rw[q1,H];exact av _
     rw[bp q3]at q2;have aeS:(D.take (min (ac m) (ac l)*i.size)).length=min (ac m) (ac l)*i.size:=by
      rw[aR,hul];exact Nat.min_eq_left (aW _ (Nat.min_le_left _ _))
     have F:0+(D.take (min (ac m) (ac l)*i.size)).length≤cur.size:=by
      have h9:=q1;simp only[aE,cy]at h9;omega
     have hr:=Qi (P:=P) (ty:=ty) (T.slice hd) hi (dLen:=ac l) (dCap:=ac l) (o:=0) u p q F;simp only[abZ,ct,b9]at hr;obtain⟨R',S⟩:=R.write (w':=w.setRow b (D.take (min (ac m) (ac l)*i.size)++cur.toList.drop (D.take (min (ac m) (ac l)*i.size)).length).toArray) (x:=.row τ (zE l 0 (m.take (ac l)))) N (by rw[B];rfl)
      (by
       rw[B];exact .inr (.inr (.inr (.inl ⟨_,rfl,by
        show some (τ,@ac τ.den (zE l 0 (m.take (ac l))))=some (τ,ac l);rw[zS l 0 _ (by rw[I];have:=Nat.min_le_right (ac m) (ac l);omega)]⟩)))) rfl
      (fun c hc=>setRow_other w b c _ hc) (setRow_size _ _ _) (jY R.ext (.inl W.1) _)
      (fun L2=>⟨h0,V,b,_,e0,N,setRow_heap w b cur _ e0 _ u,by
       have:=bY.mono (fun x es Q=>PR.mono L2.z L2.zp _ _ _ Q) _ _ q2;simpa only[List.toList_toArray]using this⟩)
     exact⟨_,_,_,_,by simp[hr];rfl,.inl rfl,R',S,AR.jU rfl,fun o B=> .inl B⟩
    ·cases j
   ·exact(af n).elim
  ·exact(af n).elim
 ·exact(af n).elim
end
end Go.Am
