import Derived.Test.YtllhngpojglipaaGreatDoorA2
set_option linter.unusedVariables false
set_option linter.unusedSimpArgs false
open Array renaming getElem?_toList→cG,length_toList→aI
open Bool renaming and_eq_true→aj
open Int renaming toNat_natCast→ax
open List renaming append_assoc→bn,append_nil→cK,cons_append→eJ,getElem?_set_ne→dw,getElem?_take→dh,length_append→ag,length_drop→dI,length_set→aP,length_take→aC,length→ae,nil_append→bE,set→aV,size_toArray→ek,take_append_drop→cH,take_of_length_le→bA
open Nat renaming add_assoc→fu,add_mul→cJ,beq→bU,blt_eq→fl,eq_of_beq_eq_true→az,le_of_ble_eq_true→eQ,le_refl→aA,le_trans→eA,mul_le_mul_right→cv,zero_add→dN
namespace Go.Am
open Go
section
variable {P:Program} {w0:W0} {w:World} {Z0 Zp:cD} {h h':bg} {g:G} {new next base:Nat} {r:A} {L L':Log} {X:Cx}
theorem ja(b off j:Nat):(⟨b,off,none⟩:Addr).add j=⟨b,off+j,none⟩:=by
 unfold Addr.add;split
 ·rename_i h;subst h;rfl
 ·rfl
theorem alo{off size:Nat}{cs ds:List C}(hs:sub off size cs=some ds):off+size≤cs.length∧ds=(cs.drop off).take size:=by
 unfold sub at hs
 split at hs
 ·rename_i hb;cases hs;exact⟨eQ hb,rfl⟩
 ·cases hs
theorem XC{agg:Bool}{size off:Nat}{cs:List C}(e:(partOf agg size off cs .ret).eval next h L=some (r,h',L')):
  h'=h∧L'=L∧off+size≤cs.length∧r= .v agg ((cs.drop off).take size)∧(agg=false→size=1):=by
 unfold partOf at e
 split at e
 ·rename_i ds hs;obtain⟨h1,h2⟩:=alo hs;subst h2
  split at e
  ·rename_i ha;simp[HM.eval]at e;exact⟨e.2.1.symm,e.2.2.symm,h1,by rw[←e.1],fun hh=>by cases hh⟩
  ·rename_i c hc Nf;simp[HM.eval]at e;refine⟨e.2.1.symm,e.2.2.symm,h1,by rw[←e.1,Nf],fun _=> ?_⟩;have:=congrArg ae Nf;simp at this;omega
  ·exact(ai e).elim
 ·exact(ai e).elim
theorem getElem?_sub{α:Type}(vs:List α)(c n j:Nat)(u:α)(h:((vs.drop c).take n)[j]? =some u):vs[c+j]? =some u:=by
 rw[dh]at h
 split at h
 ·rw[List.getElem?_drop]at h;exact h
 ·cases h
theorem E7{t:TypeId}{d:TD}(T:eV P t d){cs:List C}{vs:List Value}{b off c:Nat}(hc:dT w base Zp h g cs vs)
  (hv:∀j u,vs[j]? =some u→w.cell? ⟨b,off+j,none⟩=some u) (e:(partOf d.agg d.size c cs .ret).eval next h L=some (r,h',L')):
  h'=h∧∃v,(loadVar t ⟨b,off+c,none⟩).run P w= .ok v w∧AR w base Zp h g r v:=by
 obtain⟨rfl,_,h1,rfl,h2⟩:=XC e;have hl:=hc.length;have hsub:∀j u,((vs.drop c).take d.size)[j]? =some u→w.cell? ((⟨b,off+c,none⟩:Addr).add j)=some u:=fun j u hj=>by
  rw[ja,fu];exact hv (c+j) u (getElem?_sub vs c d.size j u hj)
 have hlen:((vs.drop c).take d.size).length=d.size:=by simp;omega
 have hcs:=dT.take d.size _ _ (dT.drop c _ _ hc);refine⟨rfl,?_⟩
 cases ha:d.agg with
 |true=>
  have hld:=run_loadCells_list (P:=P) w ⟨b,off+c,none⟩ ((vs.drop c).take d.size) hsub;rw[hlen]at hld;refine⟨_,?_,(vs.drop c).take d.size,rfl,hcs⟩;simp[loadVar,T.isAgg,T.sizeOf,ha,hld]
 |false=>
  have h3:=h2 ha;rw[h3]at hcs hlen hsub;obtain⟨v,hv⟩:∃v,(vs.drop c).take 1=[v]:=List.length_eq_one_iff.1 hlen;refine⟨v,?_,?_⟩
  ·have:=hsub 0 v (by rw[hv];rfl);rw[ja,Nat.add_zero]at this;simp[loadVar,T.isAgg,ha,run_load,this]
  ·rw[h3];rw[hv]at hcs;exact hcs
theorem asi{t:TypeId}{d:TD}(T:eV P t d){cs:List C}{vs:List Value}{c:Nat}(hc:dT w base Zp h g cs vs)
  (e:(partOf d.agg d.size c cs .ret).eval next h L=some (r,h',L')):
  h'=h∧∃v,(part t vs.toArray c).run P w= .ok v w∧AR w base Zp h g r v:=by
 obtain⟨rfl,_,h1,rfl,h2⟩:=XC e;have hl:=hc.length;have hlen:((vs.drop c).take d.size).length=d.size:=by simp;omega
 have hcs:=dT.take d.size _ _ (dT.drop c _ _ hc);refine⟨rfl,?_⟩
 cases ha:d.agg with
 |true=>
  refine⟨.agg (vs.toArray.extract c (c+d.size)),?_,(vs.drop c).take d.size,?_,hcs⟩
  ·simp[part,T.isAgg,T.sizeOf,ha]
  ·simp
 |false=>
  have h3:=h2 ha;rw[h3]at hcs hlen;obtain⟨v,hv⟩:∃v,(vs.drop c).take 1=[v]:=List.length_eq_one_iff.1 hlen;refine⟨v,?_,?_⟩
  ·have h4:vs[c]? =some v:=by
    have:=getElem?_sub vs c 1 0 v (by rw[hv];rfl);simpa using this
   simp[part,T.isAgg,ha,h4]
  ·rw[h3];rw[hv]at hcs;exact hcs
theorem dY.get{α:Type}{R:α→List Value→Prop}{k:Nat}(hk:∀x es,R x es→es.length=k):∀(l:List α) (vs:List Value),dY R l vs→∀(i:Nat) (x:α),l[i]? =some x→R x ((vs.drop (i*k)).take k)
 |[],_,_,i,x,hx=>by simp at hx
 |y::l,_,⟨es,rest,e,h1,h2⟩,0,x,hx=>by
  simp at hx;subst hx;subst e;have:=hk _ _ h1;simp[←this];exact h1
 |y::l,_,⟨es,rest,e,h1,h2⟩,i+1,x,hx=>by
  subst e;have h3:=dY.get hk l rest h2 i x (by simpa using hx);have h4:=hk _ _ h1;have:(i+1)*k=es.length+i*k:=by rw[h4,cJ];omega
  rw[this,←List.drop_drop,List.drop_left];exact h3
theorem PR.k{Z:cD}(e:Ty):∀(x:e.den) (es:List Value),PR w Z Zp e x es→es.length=e.size:=fun x es hh=>PR.length e x es hh
theorem iJ{b:Nat}{cur:Array Value}{e0:TypeId}{fz:Nat×Nat}(hb:w.heap[b]? =some (.cells cur e0 fz))(i:Nat):w.cell? ⟨b,i,none⟩=cur[i]? :=by
 simp[World.cell?,hb]
theorem lv{b:Nat}{cur:Array Value}{e0:TypeId}{fz:Nat×Nat}(hb:w.heap[b]? =some (.cells cur e0 fz))(k n:Nat):∀j u,((cur.toList.drop k).take n)[j]? =some u→w.cell? ⟨b,k+j,none⟩=some u:=by
 intro j u hj;rw[iJ hb];have:=getElem?_sub _ k n j u hj;simpa using this
def VT.lr:VT→List Value
 |.data τ=>τ.lr
 |.gp _ _=>[.pointer none]
 |.gs _=>[.slice none 0 0]
 |.gm _=>[.map none]
 |.pair a b=>a.lr++b.lr
 |.unit=>[]
def VT.J1:VT→Bool
 |.data τ=>τ.cI&&τ.J1
 |.pair a b=>a.J1&&b.J1
 |_=>true
structure VOK (P:Program) (t:TypeId) (V:VT):Prop where
 ok:V.ok=true
 nf:V.J1=true
 pos:0<V.size
 info:(P.info? t).map (fun i=>(i.size,i.zero.map fun z=>(z.cells.toList,alk z)))=some (V.size,some (V.lr,V.isAgg))
def afR(P:Program)(l:List (TypeId×VT)):Prop:=∀p∈l,VOK P p.1 p.2
theorem afR.get{l:List (TypeId×VT)}(H:afR P l){t:TypeId}{V:VT}(h:cZ t l=some V):VOK P t V:=H _ (E6 h)
theorem VOK.inf{t:TypeId}{V:VT}(T:VOK P t V):∃i z,P.info? t=some i∧i.size=V.size∧i.zero=some z∧z.cells.toList=V.lr∧alk z=V.isAgg:=by
 have:=T.info
 cases hi:P.info? t with
 |none=>simp[hi]at this
 |some i=>
  cases hz:i.zero with
  |none=>simp[hi,hz]at this
  |some z=>simp[hi,hz]at this;exact⟨i,z,rfl,this.1,hz,this.2.1,this.2.2⟩
theorem VOK.sizeOf{t:TypeId}{V:VT}(T:VOK P t V)(w:World):(Go.sizeOf t).run P w= .ok V.size w:=by
 obtain⟨i,z,h1,h2,_⟩:=T.inf;simp[Go.sizeOf,typeInfo,h1,h2]
theorem Ty.gX:∀(τ:Ty) (x:τ.den),(τ.cells x).length=τ.size
 |.bool,_ |.int _,_ |.str,_ |.sl _,_ |.unit,_ |.ref _,_ |.fn _,_ |.cl _ _,_=>rfl
 |.pair a b,x=>by simp[Ty.cells,Ty.size,Ty.gX a,Ty.gX b]
theorem VT.gX:∀(V:VT) (x:V.den),(V.cells x).length=V.size
 |.data τ,x=>Ty.gX τ x
 |.gp _ _,_ |.gs _,_ |.gm _,_ |.unit,_=>rfl
 |.pair a b,x=>by simp[VT.cells,VT.size,VT.gX a,VT.gX b]
theorem p6{α:Type}{H:List (Option α)}{i:Nat}{x:α}(hx:fP H i=some x):H[i]? =some (some x):=by
 unfold fP at hx
 split at hx
 ·rename_i h;cases hx;exact h
 ·cases hx
theorem ahz{α:Type}{H H':List (Option α)}{i:Nat}{x:α}(hx:vn H i x=some H'):(∃y,H[i]? =some (some y))∧H'=H.set i (some x):=by
 unfold vn at hx
 split at hx
 ·rename_i y h;cases hx;exact⟨⟨y,h⟩,rfl⟩
 ·cases hx
theorem kd{K K':GK}{H:List (Option K.xZ)}{H':List (Option K'.xZ)}(hc:pu K K' H=some H'):∃h:K=K',H'=h▸H:=by
 unfold pu at hc
 split at hc
 ·rename_i e _;subst e;cases hc;exact⟨rfl,rfl⟩
 ·cases hc
theorem axL{base:Nat}{V:VT}{l:List V.den}{vs:List Value}(hp:dY (fun y es=>dT w base Zp h g (V.cells y) es) l vs){i:Nat}{y:V.den}(hy:l[i]? =some y):dT w base Zp h g (V.cells y) ((vs.drop (i*V.size)).take V.size):=
 dY.get (fun x es hx=>(dT.length _ _ hx).trans (VT.gX V x)) l vs hp i y hy
theorem sA{α:Type}{x:α}{p:Prop}(h:none=some x):p:=by cases h
theorem VT.auS{c off:Nat}(d:C){cs r:List C}{x:Option Nat}(ht:VT.take (.gp c off) (d::cs)=some (x,r)):(d= .nilp∧x=none∧r=cs)∨(d= .gp c off x∧r=cs):=by
 cases d
 case nilp=>
  have h:some ((none:Option Nat),cs)=some (x,r):=ht;have h:=Option.some.inj h;exact .inl ⟨rfl,(congrArg Prod.fst h).symm,(congrArg Prod.snd h).symm⟩
 case gp c' off' y=>
  have h:(match bU c c'&&bU off off' with |true=>some (y,cs)|false=>none)=some (x,r):=ht
  split at h
  ·rename_i hb;rw[aj]at hb;have h:=Option.some.inj h;rw[az hb.1,az hb.2];exact .inr ⟨by rw[show y=x from congrArg Prod.fst h],(congrArg Prod.snd h).symm⟩
  ·exact sA h
 all_goals exact sA (show(none:Option (Option Nat×List C))=some (x,r)from ht)
theorem VT.auT{c:Nat}(d:C){cs r:List C}{x:Option (Nat×Nat×Nat)}(ht:VT.take (.gs c) (d::cs)=some (x,r)):(d= .nils∧x=none∧r=cs)∨(d= .gs c x∧r=cs):=by
 cases d
 case nils=>
  have h:some ((none:Option (Nat×Nat×Nat)),cs)=some (x,r):=ht;have h:=Option.some.inj h;exact .inl ⟨rfl,(congrArg Prod.fst h).symm,(congrArg Prod.snd h).symm⟩
 case gs c' y=>
  have h:(match bU c c' with |true=>some (y,cs)|false=>none)=some (x,r):=ht
  split at h
  ·rename_i hb;have h:=Option.some.inj h;rw[az hb];exact .inr ⟨by rw[show y=x from congrArg Prod.fst h],(congrArg Prod.snd h).symm⟩
  ·exact sA h
 all_goals exact sA (show(none:Option (Option (Nat×Nat×Nat)×List C))=some (x,r)from ht)
theorem VT.auU{c:Nat}(d:C){cs r:List C}{x:Option Nat}(ht:VT.take (.gm c) (d::cs)=some (x,r)):d= .gm c x∧r=cs:=by
 cases d
 case gm c' y=>
  have h:(match bU c c' with |true=>some (y,cs)|false=>none)=some (x,r):=ht
  split at h
  ·rename_i hb;have h:=Option.some.inj h;rw[az hb];exact⟨by rw[show y=x from congrArg Prod.fst h],(congrArg Prod.snd h).symm⟩
  ·exact sA h
 all_goals exact sA (show(none:Option (Option Nat×List C))=some (x,r)from ht)
theorem VT.aqR{a b:VT}{cs r:List C}{x:a.den×b.den}(ht:VT.take (.pair a b) cs=some (x,r)):∃y z r1,a.take cs=some (y,r1)∧b.take r1=some (z,r)∧x=(y,z):=by
 have ht:(match a.take cs with
  |some (x,r)=>(match b.take r with
   |some (y,r')=>some ((x,y),r')
   |none=>none:Option ((a.den×b.den)×List C))
  |none=>none)=some (x,r):=ht
 split at ht
 ·rename_i y r1 h1
  split at ht
  ·rename_i z r2 h2;have ht:=Option.some.inj ht;have e1:(y,z)=x:=congrArg Prod.fst ht;have e2:r2=r:=congrArg Prod.snd ht;subst e2;exact⟨y,z,r1,h1,h2,e1.symm⟩
  ·exact sA ht
 ·exact sA ht
theorem VT.acf{base:Nat}:∀(V:VT) (cs:List C) (vs:List Value) (x:V.den) (r:List C),V.ok=true→dT w base Zp h g cs vs→V.take cs=some (x,r)→
  ∃us rs,vs=us++rs∧dT w base Zp h g (V.cells x) us∧dT w base Zp h g r rs
 |.data τ,cs,vs,x,r,hk,hc,ht=>by
  obtain⟨us,rs,e,h1,h2⟩:=abB τ cs vs x r hk hc ht;exact⟨us,rs,e,dT.uZ τ x us h1,h2⟩
 |.gp c off,[],_,_,_,_,_,ht=>by cases ht
 |.gs c,[],_,_,_,_,_,ht=>by cases ht
 |.gm c,[],_,_,_,_,_,ht=>by cases ht
 |.gp c off,d::cs,vs,x,r,_,⟨v,rest,e,h1,h2⟩,ht=>by
  rcases VT.auS d ht with⟨rfl,rfl,rfl⟩|⟨rfl,rfl⟩
  ·exact⟨[v],rest,e,⟨v,[],rfl,h1,rfl⟩,h2⟩
  ·exact⟨[v],rest,e,⟨v,[],rfl,h1,rfl⟩,h2⟩
 |.gs c,d::cs,vs,x,r,_,⟨v,rest,e,h1,h2⟩,ht=>by
  rcases VT.auT d ht with⟨rfl,rfl,rfl⟩|⟨rfl,rfl⟩
  ·exact⟨[v],rest,e,⟨v,[],rfl,h1,rfl⟩,h2⟩
  ·exact⟨[v],rest,e,⟨v,[],rfl,h1,rfl⟩,h2⟩
 |.gm c,d::cs,vs,x,r,_,⟨v,rest,e,h1,h2⟩,ht=>by
  obtain⟨rfl,rfl⟩:=VT.auU d ht;exact⟨[v],rest,e,⟨v,[],rfl,h1,rfl⟩,h2⟩
 |.pair a b,cs,vs,x,r,hk,hc,ht=>by
  have hk:(a.ok&&b.ok)=true:=hk;rw[aj]at hk;obtain⟨y,z,r1,h1,h2,h3⟩:=VT.aqR ht;subst h3;obtain⟨us,rs,e,p1,c1⟩:=VT.acf a cs vs y r1 hk.1 hc h1;obtain⟨us2,rs2,e2,p2,c2⟩:=VT.acf b r1 rs z _ hk.2 c1 h2;exact⟨us++us2,rs2,by rw[e,e2,bn],dT.append _ _ _ _ p1 p2,c2⟩
 |.unit,cs,vs,x,r,_,hc,ht=>by
  cases ht;exact⟨[],vs,by simp,rfl,hc⟩
theorem VT.sB{base:Nat}{V:VT}{cs:List C}{vs:List Value}{x:V.den}(hk:V.ok=true)(hc:dT w base Zp h g cs vs)(ht:V.dG cs=some x):dT w base Zp h g (V.cells x) vs:=by
 unfold VT.dG at ht
 split at ht
 ·rename_i y hy
  cases ht;obtain⟨us,rs,e,p,c⟩:=VT.acf V cs vs _ _ hk hc hy;simp only[dT]at c;subst c;simp at e;subst e;exact p
 ·cases ht
theorem abD(R:HR w0 Z0 Zp h g w){a:C}{v:Value}(ha:CR w w0.heap.size Zp h g a v){k:List C→HM}{res:A×bg×Log}(e:(atM a k).eval next h L=some res):
  ∃b off cs vs L1,v= .pointer (some ⟨b,off,none⟩)∧dT w w0.heap.size Zp h g cs vs∧(∀(j:Nat) u,vs[j]? =some u→w.cell? ⟨b,off+j,none⟩=some u)∧(k cs).eval next h L1=some res:=by
 unfold atM at e
 split at e
 ·rename_i c off x;obtain⟨id,hid,e⟩:=bI e;rw[hid]at ha;have e:=cE e
  split at e
  ·rename_i wr V H ho;obtain⟨y,hy,e⟩:=bI e;obtain⟨h0,b,cap,cur,e0,hp,er,hcs⟩:=R.gh.xZ c wr _ H id y ho (p6 hy);obtain⟨q,hq,hq0,rfl⟩:=ha;rw[hp]at hq;cases hq;exact⟨b,off,_,_,_,rfl,dT.drop off _ _ hcs,fun j u hj=>by rw[iJ er];rw[List.getElem?_drop]at hj;simpa using hj,e⟩
  ·exact(ai e).elim
 ·rename_i c id ix off;have e:=cE e
  split at e
  ·rename_i wr V H ho;obtain⟨l,hl,e⟩:=bI e;obtain⟨y,hy,e⟩:=bI e;obtain⟨h0,b,kk,cap,cur,e0,hp,er,hsz,hle,_,mh⟩:=R.gh.xZ c wr _ H id l ho (p6 hl);obtain⟨b',k',cap',sz',hq,rfl⟩:=ha;rw[hp]at hq;cases hq;refine⟨b,kk+ix*V.size+off,_,_,_,rfl,dT.drop off _ _ (axL mh hy),fun j u hj=> ?_,e⟩;rw[iJ er];rw[List.getElem?_drop]at hj;have h1:=getElem?_sub _ _ _ _ _ hj;rw[dh]at h1
   split at h1
   case isFalse=>cases h1
   rw[List.getElem?_drop]at h1;rw[←cG];rw[show kk+ix*V.size+off+j=kk+(ix*V.size+(off+j))by omega];exact h1
  ·exact(ai e).elim
 ·exact(ai e).elim
theorem U9(R:HR w0 Z0 Zp h g w){t:TypeId}{d:TD}(T:eV P t d){a:A}{v:Value}(ha:AR w w0.heap.size Zp h g a v)(e:(ab5 d a).eval next h L=some (r,h',L')):
  h'=h∧∃u,(Instr.loadAt t v).run P w= .ok u w∧AR w w0.heap.size Zp h g r u:=by
 unfold ab5 at e
 split at e
 ·rename_i o off;have e:=cE e
  split at e
  ·rename_i cs ho;obtain⟨hal,hp,hd⟩:=ha.c;obtain⟨b,hb,rfl⟩:=hd (by rw[ho];simp);have od:=R.ob o;rw[ho]at od;obtain⟨b',cur,e0,hb',er,hcs⟩:=od;rw[hb]at hb';cases hb';have:=E7 (P:=P) T (off:=0) (b:=b) hcs (fun j u hj=>by rw[dN,iJ er];simpa using hj) e;simpa[Instr.loadAt,Instr.sureAddr]using this
  ·exact(ai e).elim
 ·rename_i τ x c;obtain⟨b,off,us,rfl,mh,hce⟩:=ha.c;have:=E7 (P:=P) T (h:=h) (g:=g) (base:=w0.heap.size) (Zp:=Zp) (dT.uZ τ x us mh) (fun j u hj=>(hce j u hj).1) e;simpa[Instr.loadAt,Instr.sureAddr]using this
 ·rename_i o i c;have e:=cE e
  split at e
  ·rename_i u0 l ho;obtain⟨x,hx,e⟩:=bI e;obtain⟨hal,hp,hd⟩:=ha.c;obtain⟨b,hb,rfl⟩:=hd u0 (ae l) (by rw[ho];rfl);have od:=R.ob o;rw[ho]at od;obtain⟨_,_,b',cur,e0,hb',er,mh⟩:=od;rw[hb]at hb';cases hb';have hx1:=dY.get (PR.k u0) l _ mh i x hx;have:=E7 (P:=P) T (h:=h) (g:=g) (base:=w0.heap.size) (Zp:=Zp) (dT.uZ u0 x _ hx1) (b:=b) (off:=i*u0.size) (lv er _ _) e;simpa[Instr.loadAt,Instr.sureAddr]using this
  ·rename_i u0 l ho;obtain⟨x,hx,e⟩:=bI e;obtain⟨hal,hp,hd⟩:=ha.c;obtain⟨b,hb,rfl⟩:=hd u0 (ae l) (by rw[ho];rfl);have od:=R.ob o;rw[ho]at od;obtain⟨_,_,b',cur,e0,fz,hb',er,mh,_⟩:=od;rw[hb]at hb';cases hb';have hx1:=dY.get (PR.k u0) l _ mh i x hx;have:=E7 (P:=P) T (h:=h) (g:=g) (base:=w0.heap.size) (Zp:=Zp) (dT.uZ u0 x _ hx1) (b:=b) (off:=i*u0.size) (lv er _ _) e;simpa[Instr.loadAt,Instr.sureAddr]using this
  ·exact(ai e).elim
 ·rename_i o off len i
  split at e
  ·rename_i k hk;have e:=cE e
   split at e
   ·rename_i cs ho
    split at e
    ·rename_i ds hs
     split at e
     ·rename_i l hl;obtain⟨n,hn,e⟩:=bI e;obtain⟨rfl,rfl,_⟩:=gx e;obtain⟨hal,hp,hd⟩:=ha.c;obtain⟨b,hb,rfl⟩:=hd (by rw[ho];simp);have od:=R.ob o;rw[ho]at od;obtain⟨b',cur,e0,hb',er,hcs⟩:=od;rw[hb]at hb';cases hb';obtain⟨_,rfl⟩:=alo hs;have hsub:=dT.take len _ _ (dT.drop off _ _ hcs);have key:∀(cs:List C) (vs:List Value) (l:List Int),dT w w0.heap.size Zp h' g cs vs→ab4 k cs=some l→∀(i:Nat) (n:Int),l[i]? =some n→vs[i]? =some (.int k n):=by
       intro cs
       induction cs with
       |nil=>intro vs l _ hl i n hn;simp[ab4]at hl;subst hl;simp at hn
       |cons c cs ih=>
        intro vs l hcs hl i n hn;obtain⟨v,rest,e,h1,h2⟩:=hcs;subst e
        cases c<;>simp only[ab4]at hl<;>try (cases hl;done)
        split at hl
        ·rename_i hkk _;subst hkk
         split at hl
         ·rename_i l2 sQ
          cases hl
          cases i with
          |zero=>simp at hn;subst hn;simpa[CR]using h1
          |succ i=>simp at hn;simpa using ih rest l2 h2 sQ i n hn
         ·cases hl
        ·cases hl
      have h5:=getElem?_sub _ _ _ _ _ (key _ _ _ hsub hl i n hn);have hcell:w.cell? ⟨b,off+i,none⟩=some (.int k n):=by rw[iJ er];simpa using h5
      have auV:d.agg=false:=by have:=T.agg;rw[hk]at this;simpa[aqJ]using this.symm
      refine⟨rfl,.int k n,?_,AR.rg rfl⟩;simp[Instr.loadAt,Instr.sureAddr,loadVar,T.isAgg,auV,run_load,hcell]
     ·exact(ai e).elim
    ·exact(ai e).elim
   ·exact(ai e).elim
  ·exact(ai e).elim
 ·rename_i c off x;obtain⟨b,o,cs,vs,L1,rfl,h1,h2,e⟩:=abD R ha.c e;have:=E7 (P:=P) T (off:=o) (b:=b) h1 h2 e;simpa[Instr.loadAt,Instr.sureAddr]using this
 ·rename_i c id ix off;obtain⟨b,o,cs,vs,L1,rfl,h1,h2,e⟩:=abD R ha.c e;have:=E7 (P:=P) T (off:=o) (b:=b) h1 h2 e;simpa[Instr.loadAt,Instr.sureAddr]using this
 ·exact(ai e).elim
theorem acg{f:Field}{df:TD}(T:eV P f.type df)(hz:0<df.size)(b off:Nat):(fieldPlace ⟨b,off,none⟩ f).run P w= .ok ⟨b,off+f.offset,none⟩ w:=by
 have:df.size≠0:=by omega
 simp[fieldPlace,T.sizeOf,this,ja]
theorem ach{a:A}{v:Value}{n:Nat}(hh:AR w base Zp h g a v)(e:(aiW a n).eval next h L=some (r,h',L')):
  h'=h∧∃b off,v= .pointer (some ⟨b,off,none⟩)∧AR w base Zp h g r (.pointer (some ⟨b,off+n,none⟩)):=by
 unfold aiW at e
 split at e
 ·rename_i o off;have e:=cE e
  split at e
  ·exact(ai e).elim
  ·rename_i hd0;obtain⟨rfl,rfl,_⟩:=cb e;obtain⟨hal,⟨adr,hp⟩,hd⟩:=hh.c;obtain⟨b,h1,h2⟩:=hd hd0;exact⟨rfl,b,off,h2,AR.rg ⟨hal,⟨_,rfl⟩,fun _=>⟨b,h1,rfl⟩⟩⟩
 ·rename_i τ x c;obtain⟨rfl,rfl,_⟩:=cb e;obtain⟨b,off,us,hp,h1,h2⟩:=hh.c;exact⟨rfl,b,off+c,hp,AR.rg ⟨b,off,us,by rw[fu],h1,h2⟩⟩
 ·rename_i o i c;have e:=cE e
  split at e
  ·rename_i u0 l ho;obtain⟨rfl,rfl,_⟩:=cb e;obtain⟨hal,⟨adr,hp⟩,hd⟩:=hh.c;obtain⟨b,h1,h2⟩:=hd u0 (ae l) (by rw[ho];rfl);refine⟨rfl,b,_,h2,AR.rg ⟨hal,⟨_,rfl⟩,fun e2 n2 he=> ?_⟩⟩;obtain⟨b2,h3,h4⟩:=hd e2 n2 he;rw[h1]at h3;cases h3;rw[h2]at h4;simp at h4;exact⟨b,h1,by simp;try omega⟩
  ·rename_i u0 l ho;obtain⟨rfl,rfl,_⟩:=cb e;obtain⟨hal,⟨adr,hp⟩,hd⟩:=hh.c;obtain⟨b,h1,h2⟩:=hd u0 (ae l) (by rw[ho];rfl);refine⟨rfl,b,_,h2,AR.rg ⟨hal,⟨_,rfl⟩,fun e2 n2 he=> ?_⟩⟩;obtain⟨b2,h3,h4⟩:=hd e2 n2 he;rw[h1]at h3;cases h3;rw[h2]at h4;simp at h4;exact⟨b,h1,by simp;try omega⟩
  ·exact(ai e).elim
 ·rename_i c off x;obtain⟨id,hid,e⟩:=bI e;rw[hid]at hh;obtain⟨rfl,rfl,_⟩:=cb e;obtain⟨q,h1,h2,h3⟩:=hh.c;exact⟨rfl,q.1,off,h3,AR.rg ⟨q,h1,h2,rfl⟩⟩
 ·rename_i c id ix off;obtain⟨rfl,rfl,_⟩:=cb e;obtain⟨b,k,cap,sz,h1,h2⟩:=hh.c;exact⟨rfl,b,_,h2,AR.rg ⟨b,k,cap,sz,h1,by rw[fu]⟩⟩
 ·exact(ai e).elim
theorem bj{α:Type}{l:List α}{i:Int}{x:α}(hx:idx l i=some x):0≤i∧i<l.length∧l[i.toNat]? =some x:=by
 unfold idx at hx
 split at hx
 ·rename_i h0;have:=(List.getElem?_eq_some_iff.1 hx).1;exact⟨h0,by omega,hx⟩
 ·cases hx
theorem ej{i:Int}{n k:Nat}(hx:ck i n=some k):0≤i∧i<n∧k=i.toNat:=by
 unfold ck at hx
 split at hx
 ·rename_i h0;cases hx;exact⟨h0.1,h0.2,rfl⟩
 ·cases hx
theorem auW{Z:cD}{e:Ty}{l:List e.den}{v:Value}(hp:PR w Z Zp (.sl e) l [v]){i:Nat}{x:e.den}(hx:l[i]? =some x)(h0:0<e.size):
  ∃b off cap,v= .slice (some ⟨b,off,none⟩) (ae l) cap∧ae l≤cap∧∃us,PR w Z Zp e x us∧∀j u,us[j]? =some u→w.cell? ⟨b,off+i*e.size+j,none⟩=some u∧Z b (off+i*e.size+j):=by
 obtain⟨bs,cap,us,hv,hcap,xX,hat⟩:=hp;have hlen:=dY.length (PR.k e) l us xX;have hi:=(List.getElem?_eq_some_iff.1 hx).1;have hne:us≠[]:=by
  intro h0';have h1:us.length=0:=by rw[h0'];rfl
  rw[hlen]at h1;have h2:0<ae l*e.size:=Nat.mul_pos (by omega) h0;omega
 obtain⟨b,off,rfl,hc⟩:=hat hne;simp at hv;refine⟨b,off,cap,hv,hcap,_,dY.get (PR.k e) l us xX i x hx,fun j u hj=> ?_⟩;have:=hc _ _ (getElem?_sub _ _ _ _ _ hj);rw[fu];exact this
theorem xm(hX:YX P X.tt){t:TypeId}{n:Nat}(hs:PB X t n=true):0<n∧∀w:World,(Go.sizeOf t).run P w= .ok n w:=by
 unfold PB at hs
 split at hs
 ·rename_i d hd;simp only[aj]at hs;have h1:=az hs.1;have h2:0<n:=by have:=hs.2;simp[fl]at this;exact this
  exact⟨h2,fun w=>by rw[(hX.get hd).sizeOf,h1]⟩
 ·cases hs
theorem alp{V V':VT}(h:apR V V'=true):V=V':=by
 unfold apR at h;split at h
 ·assumption
 ·cases h
theorem afS(hX:YX P X.tt)(hV:afR P X.UX)(R:HR w0 Z0 Zp h g w){t:TypeId}{d:TD}(T:eV P t d){x ix:A}{vx vi:Value}(hx:AR w w0.heap.size Zp h g x vx)(hi:AR w w0.heap.size Zp h g ix vi)
  (e:(PC X d x ix).eval next h L=some (r,h',L')):
  h'=h∧∃u,(Instr.indexAt t vx vi).run P w= .ok u w∧AR w w0.heap.size Zp h g r u:=by
 unfold PC at e
 split at e
 ·rename_i k i;have hvi:=hi.c;simp only[CR]at hvi;subst hvi
  split at e
  ·rename_i _ _ te u0 l tk hd
   split at e
   ·rename_i hse;obtain⟨hpos,hso⟩:=xm hX hse;obtain⟨y,hy,e⟩:=bI e;obtain⟨rfl,rfl,_⟩:=cb e;obtain⟨h0,h1,h2⟩:=bj hy;obtain⟨b,off,cap,rfl,_,us,mh,hc⟩:=auW hx.c.1 h2 hpos;refine⟨rfl,_,?_,AR.rg ⟨b,off+i.toNat*u0.size,us,rfl,mh,fun j u hj=>⟨(hc j u hj).1,.inl (hc j u hj).2⟩⟩⟩;have:i<((ae l:Nat):Int):=h1;simp[Instr.indexAt,asIntOf,run_underlying (T.slice hd),h0,this,hso,ja]
   ·exact(ai e).elim
  ·rename_i _ _ te c y hd;have e:=cE e
   split at e
   ·rename_i wr V H ho
    split at e
    ·rename_i V' hV'
     split at e
     ·rename_i asl hpos;have:=alp asl;subst this;obtain⟨q,hq,e⟩:=bI e;obtain⟨n,hn,e⟩:=bI e;obtain⟨rfl,rfl,_⟩:=cb e;obtain⟨h0,h1,rfl⟩:=ej hn;obtain⟨id,a0,n0⟩:=q;rw[hq]at hx;obtain⟨b,k,cap,sz,o0,hp,hle,ho0,rfl⟩:=hx.c;have hsz:=R.gh.psz c _ V H id _ ho hp;simp only at hsz;subst hsz;refine⟨rfl,_,?_,AR.rg ⟨b,k,cap,V.size,hp,rfl⟩⟩;have hvo:=(hV.get hV').sizeOf (P:=P);have h1':i<(n0:Int):=h1;have ho0:=ho0 (by omega);subst ho0;simp[Instr.indexAt,asIntOf,run_underlying (T.slice hd),h0,h1',hvo,ja,cJ,fu]
     ·exact(ai e).elim
    ·exact(ai e).elim
   ·exact(ai e).elim
  ·rename_i _ _ te o hd;have e:=cE e;obtain⟨hal,hs,hr⟩:=hx.c
   split at e
   ·rename_i u0 l ho
    split at e
    ·rename_i hse;obtain⟨hpos,hso⟩:=xm hX hse;obtain⟨n,hn,e⟩:=bI e;obtain⟨rfl,rfl,_⟩:=cb e;obtain⟨h0,h1,rfl⟩:=ej hn;have hrl:jS (look .dead o h')=some (u0,ae l):=by rw[ho];rfl
     obtain⟨b,hb,rfl⟩:=hr u0 _ hrl;refine⟨rfl,.pointer (some ⟨b,i.toNat*u0.size,none⟩),?_,AR.rg ⟨hal,⟨_,rfl⟩,fun e2 n2 he=> ?_⟩⟩
     ·simp[Instr.indexAt,asIntOf,run_underlying (T.slice hd),h0,h1,hso,ja]
     ·rw[hrl]at he;cases he;exact⟨b,hb,rfl⟩
    ·exact(ai e).elim
   ·rename_i u0 l ho
    split at e
    ·rename_i hse;obtain⟨hpos,hso⟩:=xm hX hse;obtain⟨n,hn,e⟩:=bI e;obtain⟨rfl,rfl,_⟩:=cb e;obtain⟨h0,h1,rfl⟩:=ej hn;have hrl:jS (look .dead o h')=some (u0,ae l):=by rw[ho];rfl
     obtain⟨b,hb,rfl⟩:=hr u0 _ hrl;refine⟨rfl,.pointer (some ⟨b,i.toNat*u0.size,none⟩),?_,AR.rg ⟨hal,⟨_,rfl⟩,fun e2 n2 he=> ?_⟩⟩
     ·simp[Instr.indexAt,asIntOf,run_underlying (T.slice hd),h0,h1,hso,ja]
     ·rw[hrl]at he;cases he;exact⟨b,hb,rfl⟩
    ·exact(ai e).elim
   ·exact(ai e).elim
  ·rename_i _ _ len te o off hd
   split at e
   ·rename_i de hde
    split at e
    ·rename_i hc;simp only[aj]at hc;have hs1:=az hc.1;have hl1:1<len:=by have:=hc.2;simp[fl]at this;exact this
     have e:=cE e
     split at e
     ·rename_i cs ho;obtain⟨n,hn,e⟩:=bI e;obtain⟨rfl,rfl,_⟩:=cb e;obtain⟨h0,h1,rfl⟩:=ej hn;obtain⟨hal,hs,hr⟩:=hx.c;obtain⟨b,hb,rfl⟩:=hr (by rw[ho];simp);have Te:=hX.get hde;refine⟨rfl,_,?_,AR.rg ⟨hal,⟨_,rfl⟩,fun _=>⟨b,hb,rfl⟩⟩⟩;simp[Instr.indexAt,asIntOf,run_underlying (T.array hd),h0,h1,Te.sizeOf,ja,hs1,Instr.sureAddr]
     ·exact(ai e).elim
    ·exact(ai e).elim
   ·exact(ai e).elim
  ·exact(ai e).elim
 ·exact(ai e).elim
end
section
variable {P:Program} {w0:W0} {w:World} {Z0 Zp:cD} {h h':bg} {g:G} {new next base:Nat} {r:A} {L L':Log} {X:Cx}
theorem ai6{Z Z':cD}{e:Ty}{l:List e.den}{b:Nat}{cur:Array Value}{e0:TypeId}{fz:Nat×Nat}(er:w.heap[b]? =some (.cells cur e0 fz))(mh:dY (PR w Z Zp e) l cur.toList)
  (hz:∀c i,Z c i→Z' c i) (hzb:∀i,i<cur.size→Z' b i):PR w Z' Zp (.sl e) l [.slice (some ⟨b,0,none⟩) (ae l) (ae l)]:=
 ⟨_,_,cur.toList,rfl,aA _,dY.mono (fun x es hx=>PR.mono (fun c i h=>⟨hz c i h,rfl⟩) (dK.refl _ _) e x es hx) _ _ mh,
  fun _=>⟨b,0,rfl,fun j u hj=>by
   have hj':cur[j]? =some u:=by simpa using hj
   rw[dN];exact⟨by rw[iJ er];exact hj',hzb j (Array.getElem?_eq_some_iff.1 hj').1⟩⟩⟩
theorem GP(R:HR w0 Z0 Zp h g w){c:C}{v:Value}(hc:CR w w0.heap.size Zp h g c v){k:C→HM}{res:A×bg×Log}(e:(p5 true c k).eval next h L=some res):
  ∃c' h1 g1 L1,(k c').eval next h1 L1=some res∧HR w0 Z0 Zp h1 g1 w∧Le Zp h g w h1 g1 w∧Fz h g h1 g1∧CR w w0.heap.size Zp h1 g1 c' v:=by
 cases c
 case vec o=>
  simp only[p5]at e;have e:=cE e;obtain⟨hal,hs,hr⟩:=hc
  split at e
  ·rename_i u0 l ho;have e:=dZ e;obtain⟨g1,R1,L1,u5⟩:=R.freeze ho;have od:=R1.ob o;rw[aU,if_pos rfl]at od;obtain⟨h0,h00,b,cur,e0,fz,hb,er,mh,hz⟩:=od;obtain⟨b',hb',rfl⟩:=hr u0 (ae l) (by rw[ho];rfl);have:b'=b:=by
    have:=L1.hm o hal (by rw[aU,if_pos rfl];simp);rw[this,hb']at hb;cases hb;rfl
   subst this;exact⟨_,_,g1,_,e,R1,L1,u5,ai6 er mh (fun _ _ h=>h) hz,trivial⟩
  ·rename_i u0 l ho;have od:=R.ob o;rw[ho]at od;obtain⟨h0,h00,b,cur,e0,fz,hb,er,mh,hz⟩:=od;obtain⟨b',hb',rfl⟩:=hr u0 (ae l) (by rw[ho];rfl);rw[hb']at hb;cases hb;exact⟨_,_,g,_,e,R,Le.refl _ _ _ _,Fz.refl _ _,ai6 er mh (fun _ _ h=>h) hz,trivial⟩
  ·exact(ai e).elim
 case sl u0 l t=>exact⟨_,h,g,L,e,R,Le.refl _ _ _ _,Fz.refl _ _,hc.1,trivial⟩
 all_goals exact⟨_,h,g,L,e,R,Le.refl _ _ _ _,Fz.refl _ _,hc⟩
theorem fq:∀(cs:List C) (vs:List Value) (h:bg) (g:G) (L:Log) (k:List C→HM) (res:A×bg×Log),HR w0 Z0 Zp h g w→dT w w0.heap.size Zp h g cs vs→(jM true cs k).eval next h L=some res→
  ∃cs' h1 g1 L1,(k cs').eval next h1 L1=some res∧HR w0 Z0 Zp h1 g1 w∧Le Zp h g w h1 g1 w∧Fz h g h1 g1∧dT w w0.heap.size Zp h1 g1 cs' vs
 |[],vs,h,g,L,k,res,R,hc,e=>⟨[],h,g,L,e,R,Le.refl _ _ _ _,Fz.refl _ _,hc⟩
 |c::cs,vs,h,g,L,k,res,R,hc,e=>by
  obtain⟨v,rest,rfl,h1,h2⟩:=hc;obtain⟨c',h3,g3,L3,e3,R3,Le3,hg3,hc3⟩:=GP R h1 e;obtain⟨cs',h4,g4,L4,e4,R4,Le4,hg4,hc4⟩:=fq cs rest h3 g3 L3 _ res R3 (dT.mono Le3 _ _ h2) e3;exact⟨c'::cs',h4,g4,L4,e4,R4,Le3.trans Le4,hg3.trans hg4,⟨v,rest,rfl,CR.mono Le4 _ _ hc3,hc4⟩⟩
def E8(h:bg)(g:G)(w:World):G:=
 { g with Z:=fun b i=>g.Z b i∨(∃o e,∃l:List (Ty.den e),look .dead o h= .row e l∧g.hm o=some b∧(w.cell? ⟨b,i,none⟩).isSome=true)∨∃c id,GL h g c id b∧(w.cell? ⟨b,i,none⟩).isSome=true }
theorem Ag(h:bg)(g:G)(w:World):dK w w g.Z (E8 h g w).Z:=fun _ _ hz=>⟨.inl hz,rfl⟩
theorem alq(h:bg)(g:G)(w:World):Le Zp h g w h (E8 h g w) w:=
 ⟨fun _ h=>h,Ag h g w,dK.refl _ _,fun _ _=>Ob.to.refl _,fun _ _ _=>rfl,fun _ _ _=>⟨rfl,fun _ _=>rfl⟩,fun _ _ _ h=>h⟩
theorem NG(R:HR w0 Z0 Zp h g w){c:C}{v:Value}(hc:CR w w0.heap.size Zp h g c v){k:C→HM}{res:A×bg×Log}(e:(p5 false c k).eval next h L=some res):
  ∃c' L1,(k c').eval next h L1=some res∧CR w w0.heap.size Zp h (E8 h g w) c' v:=by
 cases c
 case vec o=>
  simp only[p5]at e;have e:=cE e;obtain⟨hal,hs,hr⟩:=hc
  split at e
  ·rename_i u0 l ho;have od:=R.ob o;rw[ho]at od;obtain⟨h0,h00,b,cur,e0,hb,er,mh⟩:=od;obtain⟨b',hb',rfl⟩:=hr u0 (ae l) (by rw[ho];rfl);rw[hb']at hb;cases hb;exact⟨_,_,e,ai6 er mh (fun _ _ h=> .inl h) (fun i hi=> .inr (.inl ⟨o,u0,l,ho,hb',by rw[iJ er];simp[hi]⟩)),trivial⟩
  ·rename_i u0 l ho;have od:=R.ob o;rw[ho]at od;obtain⟨h0,h00,b,cur,e0,fz,hb,er,mh,hz⟩:=od;obtain⟨b',hb',rfl⟩:=hr u0 (ae l) (by rw[ho];rfl);rw[hb']at hb;cases hb;exact⟨_,_,e,ai6 er mh (fun _ _ h=> .inl h) (fun i hi=> .inl (hz i hi)),trivial⟩
  ·exact(ai e).elim
 case sl u0 l t=>exact⟨_,L,e,PR.mono (Ag h g w) (dK.refl _ _) _ _ _ hc.1,trivial⟩
 all_goals exact⟨_,L,e,CR.mono (alq h g w) _ _ hc⟩
theorem td(R:HR w0 Z0 Zp h g w):∀(cs:List C) (vs:List Value) (L:Log) (k:List C→HM) (res:A×bg×Log),dT w w0.heap.size Zp h g cs vs→(jM false cs k).eval next h L=some res→
  ∃cs' L1,(k cs').eval next h L1=some res∧dT w w0.heap.size Zp h (E8 h g w) cs' vs
 |[],vs,L,k,res,hc,e=>⟨[],L,e,hc⟩
 |c::cs,vs,L,k,res,hc,e=>by
  obtain⟨v,rest,rfl,h1,h2⟩:=hc;obtain⟨c',L3,e3,hc3⟩:=NG R h1 e;obtain⟨cs',L4,e4,hc4⟩:=td R cs rest L3 _ res h2 e3;exact⟨c'::cs',L4,e4,⟨v,rest,rfl,hc3,hc4⟩⟩
theorem asn(_:HR w0 Z0 Zp h g w){x:A}{v:Value}(hx:AR w w0.heap.size Zp h g x v)(e:(axs x).eval next h L=some (r,h',L')):
  h'=h∧∃(n:Nat) (a:Option Addr) (c:Nat),v= .slice a n c∧r= .v false [.int .i64 n]:=by
 unfold axs at e
 split at e
 ·obtain⟨rfl,rfl,_⟩:=gx e;obtain⟨⟨bs,cap,us,hv,_⟩,_⟩:=hx.c;simp at hv;exact⟨rfl,_,_,_,hv,rfl⟩
 ·obtain⟨rfl,rfl,_⟩:=gx e;have:=hx.c;simp only[CR]at this;exact⟨rfl,0,_,_,this,rfl⟩
 ·rename_i c y;obtain⟨rfl,rfl,_⟩:=gx e
  cases y with
  |none=>exact⟨rfl,0,_,_,hx.c,rfl⟩
  |some q=>
   obtain⟨i,a,n⟩:=q;obtain⟨b,k,cap,sz,_,_,_,_,hv⟩:=hx.c;exact⟨rfl,n,_,_,hv,rfl⟩
 ·rename_i o;have e:=cE e;obtain⟨hal,hs,hr⟩:=hx.c
  split at e
  ·rename_i u0 l ho;obtain⟨rfl,rfl,_⟩:=gx e;obtain⟨b,_,rfl⟩:=hr u0 (ae l) (by rw[ho];rfl);exact⟨rfl,_,_,_,rfl,rfl⟩
  ·rename_i u0 l ho;obtain⟨rfl,rfl,_⟩:=gx e;obtain⟨b,_,rfl⟩:=hr u0 (ae l) (by rw[ho];rfl);exact⟨rfl,_,_,_,rfl,rfl⟩
  ·exact(ai e).elim
 ·exact(ai e).elim
theorem Q0{α:Type}{l m:List α}{a b:Int}(hs:slc l a b=some m):0≤a∧a≤b∧b≤l.length∧m=(l.take b.toNat).drop a.toNat:=by
 unfold slc at hs
 split at hs
 ·rename_i hb;cases hs;exact⟨hb.1,hb.2.1,hb.2.2,rfl⟩
 ·cases hs
theorem tf{x:Option A}{v:Option Value}{d n:Int}(hx:match x,v with |none,none=>True |some a,some u=>AR w base Zp h g a u |_,_=>False)(e:bnd x d=some n):
  (v=none∧n=d)∨∃k,v=some (.int k n):=by
 unfold bnd at e
 split at e
 ·cases e
  cases v with
  |none=>exact .inl ⟨rfl,rfl⟩
  |some _=>exact hx.elim
 ·rename_i k m
  cases e
  cases v with
  |none=>exact hx.elim
  |some u=>have:=AR.c hx;simp only[CR]at this;exact .inr ⟨k,by rw[this]⟩
 ·cases e
theorem qJ{k:IntKind}{n:Int}{y:Nat}{code:BoundsCode}(h0:0≤n)(h1:n≤y):(Instr.sliceBound (.int k n) y code).run P w= .ok n.toNat w:=by
 simp[Instr.sliceBound,asIntOf,h0,h1]
theorem tg{isS:Bool}{len cap:Nat}{lo hi:Option Value}{a b:Int}(hlen:len≤cap)(h0:0≤a)(h1:a≤b)(h2:b≤len)
  (hlo:(lo=none∧a=0)∨∃k,lo=some (.int k a)) (hhi:(hi=none∧b=len)∨∃k,hi=some (.int k b)):
  (Instr.sliceBounds isS len cap lo hi none).run P w= .ok (a.toNat,b.toNat,cap) w:=by
 have hbt:((b.toNat:Nat):Int)=b:=by omega
 have hb:∀(code:BoundsCode) (k:IntKind),(Instr.sliceBound (.int k b) cap code).run P w= .ok b.toNat w:=fun code k=>qJ (by omega) (by omega);have ha:∀(code:BoundsCode) (k:IntKind),(Instr.sliceBound (.int k a) b.toNat code).run P w= .ok a.toNat w:=fun code k=>qJ h0 (by omega);rcases hlo with⟨rfl,rfl⟩|⟨k1,rfl⟩<;>rcases hhi with⟨rfl,rfl⟩|⟨k2,rfl⟩
 ·simp[Instr.sliceBounds]
 ·simp[Instr.sliceBounds,hb]
 ·have h3:=fun code=>ha code k1;rw[ax]at h3;simp[Instr.sliceBounds,h3]
 ·simp[Instr.sliceBounds,hb,ha]
theorem YY{isS:Bool}{len cap:Nat}{lo hi:Option Value}{a b m:Int}{km:IntKind}{kb:IntKind}(hm:m≤cap)(h0:0≤a)(h1:a≤b)(h2:b≤m)
  (hlo:(lo=none∧a=0)∨∃k,lo=some (.int k a)) (hhi:hi=some (.int kb b)):
  (Instr.sliceBounds isS len cap lo hi (some (.int km m))).run P w= .ok (a.toNat,b.toNat,m.toNat) w:=by
 have hmm:∀(code:BoundsCode),(Instr.sliceBound (.int km m) cap code).run P w= .ok m.toNat w:=fun code=>qJ (by omega) (by omega);have hb:∀(code:BoundsCode),(Instr.sliceBound (.int kb b) m.toNat code).run P w= .ok b.toNat w:=fun code=>qJ (by omega) (by omega);have ha:∀(code:BoundsCode) (k:IntKind),(Instr.sliceBound (.int k a) b.toNat code).run P w= .ok a.toNat w:=fun code k=>qJ h0 (by omega);subst hhi;rcases hlo with⟨rfl,rfl⟩|⟨k1,rfl⟩<;>simp[Instr.sliceBounds]<;>rw[hmm]<;>simp<;>rw[hb]<;>simp
 rw[ha];simp
theorem dY.take_drop{α:Type}{R:α→List Value→Prop}{k:Nat}(hk:∀x es,R x es→es.length=k):∀(n:Nat) (l:List α) (vs:List Value),dY R l vs→dY R (l.take n) (vs.take (n*k))∧dY R (l.drop n) (vs.drop (n*k))
 |0,l,vs,hh=>by simp[dY];exact hh
 |n+1,[],vs,hh=>by simp[dY]at hh;subst hh;simp[dY]
 |n+1,x::l,vs,⟨es,rest,e,h1,h2⟩=>by
  have h3:=hk _ _ h1;have h4:(n+1)*k=es.length+n*k:=by rw[h3,cJ];omega
  subst e;obtain⟨h5,h6⟩:=dY.take_drop hk n l rest h2;rw[h4,List.take_length_add_append,List.drop_length_add_append];exact⟨⟨es,_,rfl,h1,h5⟩,h6⟩
theorem alr(e:Ty)(l:List e.den):rY e e l=some l:=by
 unfold rY
 cases hd:decEq e e with
 |isTrue h=>rfl
 |isFalse h=>exact absurd rfl h
theorem Ty.PF:∀(τ:Ty) (x:τ.den) (r:List C),τ.cI=true→τ.take (τ.cells x++r)=some (x,r)
 |.bool,_,_,_=>rfl
 |.int k,x,r,_=>by
  simp only[Ty.cells,eJ,bE,Ty.take]
  cases hd:decEq k k with
  |isTrue h=>rfl
  |isFalse h=>exact absurd rfl h
 |.str,_,_,_=>rfl
 |.sl e,l,r,_=>by
  simp only[Ty.cells,eJ,bE,Ty.take];rw[alr e l]
 |.pair a b,x,r,hn=>by
  simp only[Ty.cI,aj]at hn;simp only[Ty.cells,Ty.take,bn,Ty.PF a _ _ hn.1,Ty.PF b _ _ hn.2];rfl
 |.unit,_,_,_=>rfl
 |.ref _,_,_,hn=>by simp[Ty.cI]at hn
 |.cl _ _,_,_,hn=>by simp[Ty.cI]at hn
 |.fn f,_,r,_=>by
  simp only[Ty.cells,eJ,bE,Ty.take]
  cases hd:decEq f f with
  |isTrue h=>rfl
  |isFalse h=>exact absurd rfl h
theorem Ty.Cu{base:Nat}{τ:Ty}(hn:τ.cI=true){x:τ.den}{vs:List Value}(hc:dT w base Zp h g (τ.cells x) vs):PR w g.Z Zp τ x vs:=by
 refine eM hn hc ?_;unfold Ty.dG;have:=Ty.PF τ x [] hn;rw[cK]at this;rw[this]
theorem E9{α:Type}{H:List (Option (List α))}{i a n:Nat}{l:List α}(hl:sP H (some (i,a,n))=some l):∃l0,H[i]? =some (some l0)∧a+n≤l0.length∧l=(l0.drop a).take n:=by
 unfold sP at hl;simp only at hl
 split at hl
 ·rename_i l0 h0
  split at hl
  ·rename_i hle;cases hl;exact⟨l0,p6 h0,hle,rfl⟩
  ·cases hl
 ·cases hl
theorem ai8(R:HR w0 Z0 Zp h g w){c:Nat}{wr:Bool}{V:VT}{H:List (Option (List V.den))}(ho:look .dead c h= .gh wr (.bf V) H){i a n:Nat}{l:List V.den}{v:Value}(hc:CR w w0.heap.size Zp h g (.gs c (some (i,a,n))) v)(hl:sP H (some (i,a,n))=some l):
  ∃b k cap cur e0 o,g.pm c i=some (b,k,cap,V.size)∧w.heap[b]? =some (.cells cur e0 (0,0))∧cur.size=k+cap*V.size∧a+n≤cap∧cap≤maxLen∧(a<cap→o=k+a*V.size)∧v= .slice (some ⟨b,o,none⟩) n (cap -a)∧l.length=n∧GL h g c i b∧0<V.size∧
   dY (fun y es=>dT w w0.heap.size Zp h g (V.cells y) es) l ((cur.toList.drop (k+a*V.size)).take (n*V.size))∧∃l0,H[i]? =some (some l0)∧a+n≤l0.length∧l=(l0.drop a).take n:=by
 obtain⟨l0,h0,hle,rfl⟩:=E9 hl;obtain⟨hp0,b,k,cap,cur,e0,hp,er,hsz,GG,Va,mh⟩:=R.gh.xZ c wr (.bf V) H i l0 ho h0;obtain⟨b',k',cap',sz',o,hq,hac,hoo,rfl⟩:=hc;rw[hp]at hq;cases hq;have hk:∀(x:V.den) (es:List Value),dT w w0.heap.size Zp h g (V.cells x) es→es.length=V.size:=fun x es hx=>(dT.length _ _ hx).trans (VT.gX V x);refine⟨b,k,cap,cur,e0,o,hp,er,hsz,hac,Va,hoo,rfl,?_,⟨wr,.bf V,H,l0,_,ho,h0,hp,rfl⟩,hp0,?_,l0,h0,hle,rfl⟩
 ·have hle':a+n≤ae l0:=hle;rw[aC,dI];omega
 ·have h1:=(dY.take_drop hk n _ _ (dY.take_drop hk a _ _ mh).2).1;have hle':a+n≤ae l0:=hle;have e1:(List.drop (a*V.size) (List.take (ae l0*V.size) (List.drop k cur.toList))).take (n*V.size)=(cur.toList.drop (k+a*V.size)).take (n*V.size):=by
   rw[List.drop_take,List.take_take,List.drop_drop];congr 1;have:(a+n)*V.size≤ae l0*V.size:=cv _ hle';rw[cJ]at this;omega
  rw[e1]at h1;exact h1
theorem aod(R:HR w0 Z0 Zp h g w){σ:Ty}{c:Nat}{x:Option (Nat×Nat×Nat)}{v:Value}(hc:CR w w0.heap.size Zp h g (.gs c x) v){k:List σ.den→HM}{res:A×bg×Log}(e:(QR σ c x k).eval next h L=some res):
  ∃l L1,(k l).eval next h L1=some res∧PR w (E8 h g w).Z Zp (.sl σ) l [v]:=by
 unfold QR at e;have e:=cE e
 split at e
 ·rename_i wr K H ho
  split at e
  ·rename_i H' hH hn;obtain⟨hK,rfl⟩:=kd hH;subst hK;obtain⟨l,hl,e⟩:=bI e;refine⟨l,_,e,?_⟩
   cases x with
   |none=>
    cases hl;have hc:v= .slice none 0 0:=hc;subst hc;exact⟨none,0,[],rfl,aA _,rfl,fun h=>absurd rfl h⟩
   |some q=>
    obtain⟨i,a,n⟩:=q;obtain⟨b,kk,cap,cur,e0,o,hp,er,hsz,hac,_,hoo,rfl,hlen,hG,hpos,mh,_⟩:=ai8 R ho hc hl;have hlen: @ae σ.den l=n:=hlen;subst hlen;have hle: @ae σ.den l≤cap -a:=by
     have:a+ @ae σ.den l≤cap:=hac;omega
    refine⟨_,_,_,rfl,hle,dY.mono (fun y es hy=>PR.mono (Ag h g w) (dK.refl _ _) _ _ _ (Ty.Cu hn hy)) _ _ mh,fun hne=>⟨b,_,rfl,fun j u hj=> ?_⟩⟩;have aCI:0< @ae σ.den l:=by
     rcases Nat.eq_zero_or_pos (@ae σ.den l)with h0 |h0
     ·exfalso;apply hne;rw[h0];simp
     ·exact h0
    have hoo:=hoo (by have:a+ @ae σ.den l≤cap:=hac;omega);subst hoo;have h1:=lv er _ _ j u hj;exact⟨h1,.inr (.inr ⟨c,i,hG,by rw[h1];rfl⟩)⟩
  ·exact(ai e).elim
 ·exact(ai e).elim
theorem ap1(R:HR w0 Z0 Zp h g w){σ:Ty}{c:Nat}{x:Option (Nat×Nat×Nat)}{v:Value}(hc:CR w w0.heap.size Zp h g (.gs c x) v){K:GK}{H:List (Option K.xZ)}(ho:look .dead c h= .gh true K H){H':List (Option (GK.bf (.data σ)).xZ)}(hH:pu K (.bf (.data σ)) H=some H')(hn:σ.cI=true)
  {r:List σ.den×List (Option (List σ.den))} (hr:gsF H' x=some r):
  ∃g1,HR w0 Z0 Zp ((c,.gh true (.bf (.data σ)) r.2)::h) g1 w∧Le Zp h g w ((c,.gh true (.bf (.data σ)) r.2)::h) g1 w∧Fz h g ((c,.gh true (.bf (.data σ)) r.2)::h) g1∧PR w g1.Z Zp (.sl σ) r.1 [v]:=by
 obtain⟨hK,rfl⟩:=kd hH;subst hK
 cases x with
 |none=>
  cases hr;have hc:v= .slice none 0 0:=hc;subst hc;have hsm:∀o,look .dead o h=look .dead o ((c,Ob.gh true (.bf (.data σ)) H)::h):=fun o=>by
   rw[aU]
   split
   ·rename_i hc;subst hc;exact ho
   ·rfl
  exact⟨g,R.same hsm,Le.same hsm,⟨rfl,fun c' id b ⟨wr,K,H1,x,e,h1,h2⟩=>⟨wr,K,H1,x,e,(hsm c').trans h1,h2⟩⟩,none,0,[],rfl,aA _,rfl,fun h=>absurd rfl h⟩
 |some q=>
  obtain⟨i,a,n⟩:=q;unfold gsF at hr;simp only at hr
  split at hr
  ·rename_i l hl
   cases hr;obtain⟨b,kk,cap,cur,e0,o,hp,er,hsz,hac,_,hoo,rfl,hlen,hG,hpos,mh,l0,hl0,_⟩:=ai8 R ho hc hl;obtain⟨R',L'⟩:=R.azT (K:=.bf (.data σ)) ho hl0 hp rfl true rfl;have hlt:i<H.length:=(List.getElem?_eq_some_iff.1 hl0).1;refine⟨_,R',L',⟨rfl,fun c' id b' ⟨wr,K,H1,x,e,h1,h2,h3,h4⟩=> ?_⟩,?_⟩
   ·by_cases wi:c'=c
    ·subst wi;rw[aU,if_pos rfl]at h1
     cases h1;have h2:(aV (α:=Option (GK.bf (.data σ)).xZ) H i none)[id]? =some (some x):=h2
     have hne:id≠i:=by intro h;subst h;rw[List.getElem?_set_self hlt]at h2;cases h2
     rw[dw (Ne.symm hne)]at h2;exact⟨true,.bf (.data σ),H,x,e,ho,h2,h3,h4⟩
    ·rw[aU,if_neg (Ne.symm wi)]at h1;exact⟨wr,K,H1,x,e,h1,h2,h3,h4⟩
   ·have hlen: @ae σ.den l=n:=hlen;subst hlen;have hle: @ae σ.den l≤cap -a:=by
     have:a+ @ae σ.den l≤cap:=hac;omega
    refine⟨_,_,_,rfl,hle,dY.mono (fun y es hy=>PR.mono L'.z L'.zp _ _ _ (Ty.Cu hn hy)) _ _ mh,fun hne=>⟨b,_,rfl,fun j u hj=> ?_⟩⟩;have aCI:0< @ae σ.den l:=by
     rcases Nat.eq_zero_or_pos (@ae σ.den l)with h0 |h0
     ·exfalso;apply hne;rw[h0];simp
     ·exact h0
    have hoo:=hoo (by have:a+ @ae σ.den l≤cap:=hac;omega);subst hoo;exact⟨lv er _ _ j u hj,.inr ⟨rfl,rfl⟩⟩
  ·cases hr
theorem aso{Z:cD}{e:Ty}{l:List e.den}{bs:Option Addr}{cap:Nat}(hp:PR w Z Zp (.sl e) l [.slice bs (ae l) cap]){a b:Nat}(hab:a≤b)(hb:b≤ae l)(m:Nat)(hm:b≤m)(_:0<e.size):
  PR w Z Zp (.sl e) ((List.take b l).drop a:List e.den) [.slice (if m=a then bs else bs.map (·.add (a*e.size))) (b -a) (m -a)]:=by
 obtain⟨bs',cap',us,hv,hcap,xX,hat⟩:=hp;simp at hv;obtain⟨rfl,rfl⟩:=hv;have hk:=PR.k (w:=w) (Z:=Z) (Zp:=Zp) e;have h1:=(dY.take_drop hk b l us xX).1;have h2:=(dY.take_drop hk a _ _ h1).2;have hlen:ae ((List.take b l).drop a)=b -a:=by simp;omega
 refine⟨_,_,_,by rw[hlen],by rw[hlen];omega,h2,fun hne=> ?_⟩;have hus:us≠[]:=by intro h0;subst h0;simp at hne
 obtain⟨b0,off,rfl,hc⟩:=hat hus;have hma:m≠a:=by
  intro hma;have hba:b=a:=by omega
  apply hne;rw[List.drop_eq_nil_iff,aC,hba];exact Nat.min_le_left _ _
 refine⟨b0,off+a*e.size,by simp[hma,ja],fun j u hj=> ?_⟩;have hj2:us[a*e.size+j]? =some u:=by
  rw[List.getElem?_drop,dh]at hj
  split at hj
  ·exact hj
  ·cases hj
 have:=hc _ _ hj2;rw[fu];exact this
theorem PG{a:Act}{env:Env}(he:∀t,AR w base Zp h g (look aJ t env) (a.tmps.getD t undef))(x:Option Operand):
  match x.map (D8 env),x.map a.eval with |none,none=>True |some a,some u=>AR w base Zp h g a u |_,_=>False:=by
 cases x with
 |none=>trivial
 |some x=>exact ea he x
end
section
variable {P:Program} {w0:W0} {w:World} {Z0 Zp:cD} {h h':bg} {g:G} {new next base:Nat} {r:A} {L L':Log} {X:Cx}
theorem toBeq{a b:Bool}(h:(a==b)=true):a=b:=by simpa using h
theorem aoe(hX:YX P X.tt)(hV:afR P X.UX)(R:HR w0 Z0 Zp h g w){t:TypeId}{d:TD}(T:eV P t d){x:A}{vx:Value}{lo hi mx:Option A}{vlo vhi vmx:Option Value}
  (hx:AR w w0.heap.size Zp h g x vx)
  (hlo:match lo,vlo with |none,none=>True |some a,some u=>AR w w0.heap.size Zp h g a u |_,_=>False)
  (hhi:match hi,vhi with |none,none=>True |some a,some u=>AR w w0.heap.size Zp h g a u |_,_=>False)
  (Va:match mx,vmx with |none,none=>True |some a,some u=>AR w w0.heap.size Zp h g a u |_,_=>False)
  (e:(an7 X d x lo hi mx).eval next h L=some (r,h',L')):
  ∃u g',(Instr.sliceAt t vx vlo vhi vmx).run P w= .ok u w∧HR w0 Z0 Zp h' g' w∧Le Zp h g w h' g' w∧Fz h g h' g'∧AR w w0.heap.size Zp h' g' r u:=by
 unfold an7 at e
 split at e
 ·rename_i hd;have axO:vmx=none:=by cases vmx with |none=>rfl |some _=>exact Va.elim
  subst axO
  split at e
  ·rename_i s;have hs:=hx.c;simp only[CR]at hs;subst hs
   split at e
   ·rename_i a b ha hb;obtain⟨m,hm,e⟩:=bI e;obtain⟨rfl,rfl,_⟩:=cb e;obtain⟨h0,h1,h2,rfl⟩:=Q0 hm;have J0:=tf hhi hb;refine⟨_,g,?_,R,Le.refl _ _ _ _,Fz.refl _ _,AR.rg (v:=.string ((⟨s.toArray⟩:ByteArray).extract a.toNat b.toNat)) ?_⟩
    ·have:=tg (P:=P) (w:=w) (isS:=false) (len:=s.length) (cap:=s.length) (aA _) h0 h1 h2 (tf hlo ha) J0;simp[Instr.sliceAt,Instr.slice,run_underlying (T.string hd),J2,this]
    ·simp only[CR];congr 1;apply ByteArray.ext;apply Array.ext';simp[List.drop_take]
   ·exact(ai e).elim
  ·exact(ai e).elim
 ·rename_i te hd;have axO:vmx=none:=by cases vmx with |none=>rfl |some _=>exact Va.elim
  subst axO
  split at e
  ·rename_i c y
   split at e
   ·rename_i V' lo' hi' hV' azX azY;have e:=cE e
    split at e
    ·rename_i wr V H ho
     split at e
     ·rename_i asl hpos;rw[←alp asl]at hV';obtain⟨z,hz,e⟩:=bI e;obtain⟨rfl,rfl,_⟩:=cb e;have hso:=(hV.get hV').sizeOf (P:=P);have hgN:=hx.c
      cases y with
      |none=>
       unfold gsS at hz;simp only at hz
       split at hz
       ·rename_i h0
        cases hz;obtain⟨rfl,rfl⟩:=h0;have hx:vx= .slice none 0 0:=hgN;subst hx;refine⟨.slice none 0 0,g,?_,R,Le.refl _ _ _ _,Fz.refl _ _,AR.rg rfl⟩;have J0:=tf hhi azY;have:=tg (P:=P) (w:=w) (isS:=true) (len:=0) (cap:=0) (aA _) (Int.le_refl 0) (Int.le_refl 0) (Int.le_refl 0) (tf hlo azX) J0;simp at this;simp[Instr.sliceAt,Instr.slice,run_underlying (T.slice hd),this,hso]
       ·cases hz
      |some q=>
       obtain⟨i,a0,n⟩:=q;unfold gsS at hz;simp only at hz
       split at hz
       ·rename_i h0
        cases hz;obtain⟨h0,h1,h2⟩:=h0;obtain⟨b,k,cap,sz,o,hp,hac,hoo,hv⟩:=hgN;have hsz:=R.gh.psz c _ V H i _ ho hp;simp only at hsz;subst hsz;subst hv;have:=tg (P:=P) (w:=w) (isS:=true) (len:=n) (cap:=cap -a0) (by omega) h0 h1 h2 (tf hlo azX) (tf hhi azY)
        by_cases hm:cap -a0=lo'.toNat
        ·refine⟨.slice (some ⟨b,o,none⟩) (hi' -lo').toNat (cap -(a0+lo'.toNat)),g,?_,R,Le.refl _ _ _ _,Fz.refl _ _,AR.rg ⟨b,k,cap,V.size,o,hp,by omega,fun h=>by omega,rfl⟩⟩;have e1:hi'.toNat -lo'.toNat=(hi' -lo').toNat:=by omega
         have e2:cap -a0 -lo'.toNat=cap -(a0+lo'.toNat):=by omega
         rw[hm]at this;simp[Instr.sliceAt,Instr.slice,run_underlying (T.slice hd),hm,this,hso,e1,←e2]
        ·have hoo:=hoo (by omega);refine⟨.slice (some ⟨b,k+(a0+lo'.toNat)*V.size,none⟩) (hi' -lo').toNat (cap -(a0+lo'.toNat)),g,?_,R,Le.refl _ _ _ _,Fz.refl _ _,AR.rg ⟨b,k,cap,V.size,_,hp,by omega,fun _=>rfl,rfl⟩⟩;have e1:hi'.toNat -lo'.toNat=(hi' -lo').toNat:=by omega
         have e2:cap -a0 -lo'.toNat=cap -(a0+lo'.toNat):=by omega
         simp[Instr.sliceAt,Instr.slice,run_underlying (T.slice hd),this,hso,hm,e1,←e2,hoo,ja,cJ,fu]
       ·cases hz
     ·exact(ai e).elim
    ·exact(ai e).elim
   ·exact(ai e).elim
  ·rename_i c _;obtain⟨c',h1,g1,L1,e,R1,sC,u5,YZ⟩:=GP R hx.c e
   split at e
   ·rename_i u0 l tk
    split at e
    ·rename_i hse;obtain⟨hpos,hso⟩:=xm hX hse
     split at e
     ·rename_i a b ha hb;obtain⟨m,hm,e⟩:=bI e;obtain⟨rfl,rfl,_⟩:=cb e;obtain⟨h0,h1,h2,rfl⟩:=Q0 hm;obtain⟨hp,_⟩:=YZ;have hp2:=hp;obtain⟨bs,cap,us,hv,hcap,_⟩:=hp2;simp at hv;subst hv;have hsl:=aso (w:=w) (Zp:=Zp) hp (a:=a.toNat) (b:=b.toNat) (by omega) (by omega) cap (by omega) hpos;refine⟨_,g1,?_,R1,sC,u5,AR.rg ⟨hsl,trivial⟩⟩;have:=tg (P:=P) (w:=w) (isS:=true) (len:=ae l) (cap:=cap) hcap h0 h1 h2 (tf hlo ha) (tf hhi hb);simp[Instr.sliceAt,Instr.slice,run_underlying (T.slice hd),this,hso]
     ·exact(ai e).elim
    ·exact(ai e).elim
   ·exact(ai e).elim
  ·exact(ai e).elim
 ·rename_i te m0 hd;obtain⟨um,rfl⟩:∃um,vmx=some um:=by cases vmx with |none=>exact Va.elim |some u=>exact⟨u,rfl⟩
  split at e
  ·rename_i c;obtain⟨c',h1,g1,L1,e,R1,sC,u5,YZ⟩:=GP R hx.c e
   split at e
   ·rename_i u0 l tk
    split at e
    ·rename_i hse;obtain⟨hpos,hso⟩:=xm hX hse
     split at e
     ·rename_i a b m ha hb hm0;obtain⟨_,hmm,e⟩:=bI e;obtain⟨m2,hm,e⟩:=bI e;obtain⟨rfl,rfl,_⟩:=cb e;obtain⟨h0,h1,h2,rfl⟩:=Q0 hm;obtain⟨h3,h4,h5,_⟩:=Q0 hmm;obtain⟨hp,_⟩:=YZ;have hp2:=hp;obtain⟨bs,cap,us,hv,hcap,_⟩:=hp2;simp at hv;subst hv;have hsl:=aso (w:=w) (Zp:=Zp) hp (a:=a.toNat) (b:=b.toNat) (by omega) (by omega) m.toNat (by omega) hpos;rcases tf (x:=some m0) (v:=some um) Va hm0 with⟨h6,_⟩|⟨km,h6⟩
      ·cases h6
      cases h6
      cases hi with
      |none=>cases hb
      |some hi0=>
      cases vhi with
      |none=>exact hhi.elim
      |some aCK=>
      rcases tf (x:=some hi0) (v:=some aCK) hhi hb with⟨h6,_⟩|⟨kb,h6⟩
      ·cases h6
      ·cases h6;refine⟨_,g1,?_,R1,sC,u5,AR.rg ⟨hsl,trivial⟩⟩;have:=YY (P:=P) (w:=w) (isS:=true) (len:=ae l) (cap:=cap) (km:=km) (kb:=kb) (m:=m) (a:=a) (b:=b) (by omega) h0 h1 h4 (tf hlo ha) rfl;simp[Instr.sliceAt,Instr.slice,run_underlying (T.slice hd),this,hso]
     ·exact(ai e).elim
    ·exact(ai e).elim
   ·exact(ai e).elim
  ·exact(ai e).elim
 ·exact(ai e).elim
def aqT(w w1:World):Prop:=w1=w∨w1=w.drew
theorem aqT.heap{w1:World}(hl:aqT w w1):w1.heap=w.heap:=by rcases hl with rfl |rfl<;>rfl
theorem aqT.ext{w1:World}(hl:aqT w w1)(he:w0.Extends w):w0.Extends w1:=by
 rcases hl with rfl |rfl
 ·exact he
 ·exact he.drew
theorem bY.alloc(R:HR w0 Z0 Zp h g w)(hn:¬ g.al new){res:Sem Next}{w1:World}(hl:aqT w w1){cur:Array Value}{e0:TypeId}{v:Value}(x:Ob)(k:Nat)
  (hr:res.run P w= .ok (.value v) (w1.alloc (.cells cur e0)))
  (hx:Le Zp h g w ((new,x)::h) (Cn g new (some w.heap.size) k) (w1.alloc (.cells cur e0))→
   (w1.alloc (.cells cur e0)).heap[w.heap.size]? =some (.cells cur e0 (0,0))→
   QZ (w1.alloc (.cells cur e0)) w0.heap.size Zp ((new,x)::h) (Cn g new (some w.heap.size) k) new x∧
   AR (w1.alloc (.cells cur e0)) w0.heap.size Zp ((new,x)::h) (Cn g new (some w.heap.size) k) r v)
  (ho:x.open? =true→k=0):bY P w0 Z0 Zp h g w new res r ((new,x)::h):=by
 have hw:(w1.alloc (.cells cur e0)).heap=w.heap.push (.cells cur e0):=by
  show w1.heap.push _=_;rw[hl.heap]
 have sC:=Le.alloc R hn x k hw;have hnew:(w1.alloc (.cells cur e0)).heap[w.heap.size]? =some (.cells cur e0 (0,0)):=by rw[hw];simp
 obtain⟨h1,h2⟩:=hx sC hnew;exact⟨_,v,_,_,hr,.inl rfl,R.alloc hn x k hw ((hl.ext R.ext).alloc _) h1 ho,sC,h2,fun o ho=>ho⟩
theorem vu(g:G)(new:Nat)(b:Option Nat)(k:Nat):(Cn g new b k).hm new=b:=qH _ _ _
theorem ai9(g:G)(new:Nat)(b:Option Nat)(k:Nat):(Cn g new b k).lo new=k:=qH _ _ _
theorem asp(new:Nat)(x:Ob)(h:bg):look .dead new ((new,x)::h)=x:=by rw[aU,if_pos rfl]
theorem jt{base:Nat}:∀τ:Ty,dT w base Zp h g τ.mw τ.lr
 |.bool=>⟨_,[],rfl,rfl,rfl⟩
 |.int _=>⟨_,[],rfl,rfl,rfl⟩
 |.str=>⟨_,[],rfl,rfl,rfl⟩
 |.sl _=>⟨_,[],rfl,rfl,rfl⟩
 |.pair a b=>dT.append _ _ _ _ (jt a) (jt b)
 |.unit=>rfl
 |.ref _=>⟨_,[],rfl,rfl,rfl⟩
 |.fn _=>⟨_,[],rfl,rfl,rfl⟩
 |.cl _ _=>⟨_,[],rfl,rfl,rfl⟩
theorem aqU(R:HR w0 Z0 Zp h g w)(hn:¬ g.al new){t:TypeId}{d:TD}(T:eV P t d){τ:Ty}(hz:d.zero=true)(hτ:d.ty=some τ):
  bY P w0 Z0 Zp h g w new (do pure (.value (←Instr.alloc t true (.tuple #[])))) (.v false [.ptr new 0]) ((new,.cells τ.mw)::h):=by
 obtain⟨i,z,hi,_,_,hiz,Vb,_⟩:=T.zeroV hz hτ;refine bY.alloc R hn (w1:=w) (.inl rfl) (cur:=z.cells) (e0:=t) (v:=.pointer (some ⟨w.heap.size,0,none⟩)) _ 0 ?_ (fun L1 hnew=>⟨⟨_,_,_,vu _ _ _ _,hnew,?_⟩,AR.rg ⟨.inr rfl,⟨_,rfl⟩,fun _=>⟨_,vu _ _ _ _,rfl⟩⟩⟩) (fun _=>rfl)
 ·simp[Instr.alloc,zeroValue,typeInfo,hi,hiz,newVar,newRow,newObj,Sem.run]
 ·rw[Vb];exact jt τ
theorem nv{base:Nat}{gg:Bool}{cs:List C}{v:Value}(hk:cs.all C.known=true)(hh:VR w base Zp h g gg cs v):dT w base Zp h g cs v.cells.toList:=by
 cases gg with
 |true=>obtain⟨vs,rfl,h1⟩:=hh;simpa[Value.cells]using h1
 |false=>
  have h1:v.oneCell'=true:=dT.one cs [v] hk hh v (by simp);have:v.cells= #[v]:=by cases v<;>simp[Value.oneCell']at h1<;>rfl
  rw[this];exact hh
theorem auZ(R:HR w0 Z0 Zp h g w)(hn:¬ g.al new){t:TypeId}{gg:Bool}{cs:List C}{v:Value}(hk:cs.all C.known=true)(hh:VR w w0.heap.size Zp h g gg cs v):
  bY P w0 Z0 Zp h g w new (do pure (.value (←Instr.box t v))) (.v false [.ptr new 0]) ((new,.cells cs)::h):=by
 refine bY.alloc R hn (w1:=w) (.inl rfl) (cur:=v.cells) (e0:=t) (v:=.pointer (some ⟨w.heap.size,0,none⟩)) _ 0 ?_ (fun L1 hnew=>⟨⟨_,_,_,vu _ _ _ _,hnew,?_⟩,AR.rg ⟨.inr rfl,⟨_,rfl⟩,fun _=>⟨_,vu _ _ _ _,rfl⟩⟩⟩) (fun _=>rfl)
 ·simp[Instr.box,newVar,newRow,newObj,Sem.run]
 ·exact dT.mono L1 _ _ (nv hk hh)
end
section
variable {P:Program} {w0:W0} {w w':World} {Z0 Zp:cD} {h h':bg} {g:G} {new next base:Nat} {r:A} {L L':Log} {X:Cx}
theorem ack(he:w0.Extends w)(h1:w'.os=w.os)(h2:w'.tape=w.tape)(h3:w'.output=w.output)(h4:w.heap.size≤w'.heap.size)(hb:∀i:Nat,i<w0.heap.size→¬ w0.B i→w'.heap[i]? =w.heap[i]?):w0.Extends w':=
 ⟨h1.trans he.os,h2.trans he.tape,h3.trans he.output,eA he.size h4,fun i hi hB=>(hb i hi hB).trans (he.block i hi hB)⟩
theorem setRow_size(w:World)(b:Nat)(c:Array Value):(w.setRow b c).heap.size=w.heap.size:=by simp[World.setRow]
theorem vB(he:w0.Extends w){b:Nat}(hb:w0.heap.size≤b∨w0.B b)(c:Array Value):w0.Extends (w.setRow b c):=
 ack he rfl rfl rfl (by rw[setRow_size];exact aA _) fun i hi hB=>setRow_other w b i c (fun e=>hb.elim (fun h=>by omega) (fun h=>hB (e▸h)))
theorem dY.splitAt{α:Type}{R:α→List Value→Prop}{k:Nat}(hk:∀x es,R x es→es.length=k):∀(l:List α) (us:List Value) (i:Nat) (x:α),dY R l us→l[i]? =some x→
  ∃a es c,us=a++es++c∧a.length=i*k∧R x es∧∀y es',R y es'→dY R (l.set i y) (a++es'++c)
 |[],_,i,x,_,hx=>by simp at hx
 |z::l,_,0,x,⟨es,rest,e,h1,h2⟩,hx=>by
  simp at hx;subst hx;exact⟨[],es,rest,by simpa using e,by simp,h1,fun y es' hy=>⟨es',rest,by simp,hy,h2⟩⟩
 |z::l,_,i+1,x,⟨es,rest,e,h1,h2⟩,hx=>by
  obtain⟨a,es2,c,e2,h3,h4,h5⟩:=dY.splitAt hk l rest i x h2 (by simpa using hx);refine⟨es++a,es2,c,by simp[e,e2],by simp[hk _ _ h1,h3,cJ];omega,h4,fun y es' hy=>⟨es,a++es'++c,by simp,h1,h5 y es' hy⟩⟩
theorem th{base:Nat}{cs:List C}{vs:List Value}{off:Nat}{new:List C}{us:List Value}(h1:dT w base Zp h g cs vs)(h2:dT w base Zp h g new us):
  dT w base Zp h g (xi cs off new) (vs.take off++us++vs.drop (off+us.length)):=by
 unfold xi;rw[h2.length];exact dT.append _ _ _ _ (dT.append _ _ _ _ (dT.take off _ _ h1) h2) (dT.drop _ _ _ h1)
theorem ahB{α:Type}(a es c us:List α)(k:Nat)(hk:k+us.length≤es.length):
  (a++es++c).take (a.length+k)++us++(a++es++c).drop (a.length+k+us.length)=a++(es.take k++us++es.drop (k+us.length))++c:=by
 rw[bn a es c,List.take_length_add_append,fu a.length,List.drop_length_add_append,List.take_append_of_le_length (by omega),List.drop_append_of_le_length hk];simp[bn]
theorem AR.skip{base:Nat}:AR w base Zp h g Cs undef:=⟨[],rfl,rfl⟩
theorem acl{b off:Nat}{cur:Array Value}{e0:TypeId}{vs:List Value}(er:w.heap[b]? =some (.cells cur e0 (0,0)))(hl:off+vs.length≤cur.size)(h1:∀v∈vs,v.oneCell'=true):
  (storeCells ⟨b,off,none⟩ vs).run P w= .ok () (w.setRow b (cur.toList.take off++vs++cur.toList.drop (off+vs.length)).toArray):=by
 have:=run_storeCells_at P b off e0 vs 0 cur w er (by simpa using hl) h1;simpa using this
theorem Cv{t:TypeId}{d:TD}(T:eV P t d){b off:Nat}{cur:Array Value}{e0:TypeId}{v:Value}(er:w.heap[b]? =some (.cells cur e0 (0,0)))(hs:v.cells.size=d.size)(hl:off+v.cells.toList.length≤cur.size)
  (h1:∀u∈v.cells.toList,u.oneCell'=true):
  (Instr.storeAt t (.pointer (some ⟨b,off,none⟩)) v).run P w= .ok () (w.setRow b (cur.toList.take off++v.cells.toList++cur.toList.drop (off+v.cells.toList.length)).toArray):=by
 have:=acl (P:=P) er hl h1;simp only[aI]at this;simp[Instr.storeAt,Instr.sureAddr,storeVar,T.sizeOf,hs,this]
theorem aof{α:Type}(cur:List α)(k n:Nat)(A es C us:List α)(off:Nat)(hk:k+n≤cur.length)(hsp:(cur.drop k).take n=A++es++C)(ho:off+us.length≤es.length):
  (cur.take (k+A.length+off)++us++cur.drop (k+A.length+off+us.length)).length=cur.length∧((cur.take (k+A.length+off)++us++cur.drop (k+A.length+off+us.length)).drop k).take n=A++(es.take off++us++es.drop (off+us.length))++C:=by
 obtain⟨pre,hpre⟩:∃pre,pre=cur.take k:=⟨_,rfl⟩;obtain⟨post,hpost⟩:∃post,post=cur.drop (k+n):=⟨_,rfl⟩;have hc:cur=(pre++A)++es++(C++post):=by
  have h1:=cH k cur;have h2:=cH n (cur.drop k);rw[List.drop_drop,hsp]at h2;rw[←h2]at h1;rw[←h1,hpre,hpost];simp[bn]
 have xX:pre.length=k:=by rw[hpre,aC];omega
 have hn:n=(A++es++C).length:=by rw[←hsp,aC,dI];omega
 have heq:=ahB (pre++A) es (C++post) us off ho;rw[←hc,ag,xX]at heq;rw[heq];have hl:((A++(es.take off++us++es.drop (off+us.length))++C)).length=n:=by
  rw[hn];simp only[ag,aC,dI];omega
 have e1:pre++A++(es.take off++us++es.drop (off+us.length))++(C++post)=pre++((A++(es.take off++us++es.drop (off+us.length))++C)++post):=by simp only[bn]
 rw[e1];refine⟨?_,?_⟩
 ·rw[ag,ag,hl,xX,hpost,dI];omega
 ·rw[List.drop_append_of_le_length (by omega),List.drop_eq_nil_of_le (by omega),bE,List.take_append_of_le_length (by omega),bA (by omega)]
theorem aqV(R:HR w0 Z0 Zp h g w){t:TypeId}{d:TD}(T:eV P t d){a x:A}{va vx:Value}(ha:AR w w0.heap.size Zp h g a va)(hx:AR w w0.heap.size Zp h g x vx)
  (e:(an6 d a x).eval next h L=some (r,h',L')):bY P w0 Z0 Zp h g w new (do Instr.storeAt t va vx;pure .skip) r h':=by
 unfold an6 at e
 split at e
 ·rename_i o off gg cs
  split at e
  ·rename_i hc;simp only[aj]at hc;obtain⟨⟨hsz,hk⟩,hgg⟩:=hc;have hsz:=az hsz;have e:=cE e
   split at e
   ·rename_i old ho
    split at e
    ·rename_i hle;have hle:=eQ hle;have e:=dZ e;have e:=gW e
     cases e;obtain⟨hal,hp,hd⟩:=ha.c;obtain⟨b,hb,rfl⟩:=hd (by rw[ho];simp);have od:=R.ob o;rw[ho]at od;obtain⟨b',cur,e0,hb',er,hcs⟩:=od;rw[hb]at hb';cases hb';have hvc:=nv hk hx;have hvl:=hvc.length;have hcl:=hcs.length;simp only[aI]at hcl hvl;have hone:=dT.one cs _ hk hvc;have hbb:=R.home o b (by rw[ho];simp) hb;have hrun:=Cv (P:=P) T (off:=off) (v:=vx) er (by omega) (by simp only[aI];omega) hone;obtain⟨R',Le'⟩:=R.write (w':=w.setRow b (cur.toList.take off++vx.cells.toList++cur.toList.drop (off+vx.cells.toList.length)).toArray) (x:=.cells (xi old off cs)) hb (by rw[ho];rfl) (by rw[ho];exact .inr (.inr (.inl ⟨_,_,rfl,rfl⟩))) rfl
      (fun c hc=>setRow_other w b c _ hc) (setRow_size _ _ _) (vB R.ext (.inl hbb.1) _)
      (fun L1=>⟨b,_,e0,hb,setRow_heap w b cur _ e0 _ er,by
       have:=th (off:=off) (dT.mono L1 _ _ hcs) (dT.mono L1 _ _ hvc);simpa using this⟩)
     exact⟨_,undef,_,_,by simp[hrun],.inr ⟨rfl,rfl⟩,R',Le',AR.skip,fun o ho=> .inl ho⟩
    ·exact(ai e).elim
   ·exact(ai e).elim
  ·exact(ai e).elim
 ·rename_i o i c gg cs
  split at e
  ·rename_i hc;simp only[aj]at hc;obtain⟨⟨hsz,hk⟩,hgg⟩:=hc;have hsz:=az hsz;have hvc:=nv hk hx;have hone:=dT.one cs _ hk hvc;obtain⟨cs',h1,g1,L1,e,R1,sC,u5,afU⟩:=fq cs _ h g L _ _ R hvc e;have ha1:=AR.mono sC _ _ ha;have e:=cE e
   split at e
   ·rename_i u0 l ho;obtain⟨x0,hx0,e⟩:=bI e
    split at e
    ·rename_i hle;have hle:=eQ hle
     split at e
     ·rename_i y hy;have e:=dZ e;have e:=gW e
      cases e;obtain⟨hal,hp,hd⟩:=ha1.c;obtain⟨b,hb,rfl⟩:=hd u0 (ae l) (by rw[ho];rfl);have od:=R1.ob o;rw[ho]at od;obtain⟨h0,h00,b',cur,e0,hb',er,mh⟩:=od;rw[hb]at hb';cases hb';have hvl:=afU.length;have hbb:=R1.home o b (by rw[ho];simp) hb;obtain⟨A1,es,C1,hsp,hA1,hxe,acm⟩:=dY.splitAt (PR.k u0) l _ i x0 mh hx0;have hes:=PR.k _ _ _ hxe;have asq:=hvc.length;simp only[aI]at hvl asq;have hlen:i*u0.size+c+vx.cells.toList.length≤cur.size:=by
       have h9:=congrArg ae hsp;simp only[aI,ag]at h9 ⊢;omega
      have hrun:=Cv (P:=P) T (off:=i*u0.size+c) (v:=vx) er (by omega) hlen hone;obtain⟨R',Le'⟩:=R1.write (w':=w.setRow b (cur.toList.take (i*u0.size+c)++vx.cells.toList++cur.toList.drop (i*u0.size+c+vx.cells.toList.length)).toArray) (x:=.row u0 (l.set i y)) hb (by rw[ho];rfl)
       (by rw[ho];exact .inr (.inr (.inr (.inl ⟨_,rfl,by simp[jS]⟩)))) rfl
       (fun c hc=>setRow_other w b c _ hc) (setRow_size _ _ _) (vB R1.ext (.inl hbb.1) _)
       (fun L2=>⟨h0,h00,b,_,e0,hb,setRow_heap w b cur _ e0 _ er,by
        have aCM:=dT.uZ (base:=w0.heap.size) (h:=h1) (g:=g1) u0 x0 es hxe;have wi:=th (off:=c) aCM afU;have hyp:=eM h00 wi hy;have Q3:=acm y _ hyp;have heq:=ahB A1 es C1 vx.cells.toList c (by simp only[aI];omega);rw[hA1,←hsp]at heq;rw[←heq]at Q3;exact dY.mono (fun x es hx=>PR.mono L2.z L2.zp _ _ _ hx) _ _ (by simpa using Q3)⟩)
      exact bY.behind sC (fun o ho=>u5.al▸ho) ⟨_,undef,_,_,by simp[hrun],.inr ⟨rfl,rfl⟩,R',Le',AR.skip,fun o ho=> .inl ho⟩
     ·exact(ai e).elim
    ·exact(ai e).elim
   ·exact(ai e).elim
  ·exact(ai e).elim
 ·rename_i c off x gg cs
  split at e
  ·rename_i hc;simp only[aj]at hc;obtain⟨⟨hsz,hk⟩,hgg⟩:=hc;have hsz:=az hsz;have hvc:=nv hk hx;have hone:=dT.one cs _ hk hvc;obtain⟨cs',h1,g1,L1,e,R1,sC,u5,afU⟩:=fq cs _ h g L _ _ R hvc e;have ha1:=AR.mono sC _ _ ha;obtain⟨id,hid,e⟩:=bI e;rw[hid]at ha1;have e:=cE e
   split at e
   ·rename_i V H ho;obtain⟨y,hy,e⟩:=bI e
    split at e
    ·rename_i hle;rw[aj]at hle;have azZ:=eQ hle.1
     split at e
     ·rename_i z hz;obtain⟨H2,hH2,e⟩:=bI e;have e:=dZ e;have e:=gW e
      cases e;obtain⟨_,rfl⟩:=ahz hH2;obtain⟨q,hq,hq0,rfl⟩:=ha1.c;obtain⟨h0,b,cap,cur,e0,hp,er,hcs⟩:=R1.gh.xZ c true (.st V) H id y ho (p6 hy);rw[hp]at hq;cases hq;have hvl:=afU.length;have hcl:=hcs.length;have asq:=hvc.length;rw[VT.gX]at hcl;simp only[aI]at hcl hvl asq;have hrun:=Cv (P:=P) T (off:=off) (v:=vx) er (by omega) (by simp only[aI];omega) hone;obtain⟨R',Le'⟩:=R1.vn (w':=w.setRow b (cur.toList.take off++vx.cells.toList++cur.toList.drop (off+vx.cells.toList.length)).toArray) (K:=.st V) (x:=z) ho (p6 hy) hp rfl (fun c hc=>setRow_other w b c _ hc) (setRow_size _ _ _)
       (vB R1.ext (R1.gh.own c (.st V) H id y _ ho (p6 hy) hp) _) (fun L2=>⟨h0,b,cap,_,e0,hp,setRow_heap w b cur _ e0 _ er,by
        have:=th (off:=off) (dT.mono L2 _ _ hcs) (dT.mono L2 _ _ afU);have:=VT.sB hle.2 this hz;simpa using this⟩)
      exact bY.behind sC (fun o ho=>u5.al▸ho) ⟨_,undef,_,_,by simp[hrun],.inr ⟨rfl,rfl⟩,R',Le',AR.skip,fun o ho=> .inl ho⟩
     ·exact(ai e).elim
    ·exact(ai e).elim
   ·exact(ai e).elim
  ·exact(ai e).elim
 ·rename_i c id ix off gg cs
  split at e
  ·rename_i hc;simp only[aj]at hc;obtain⟨⟨hsz,hk⟩,hgg⟩:=hc;have hsz:=az hsz;have hvc:=nv hk hx;have hone:=dT.one cs _ hk hvc;obtain⟨cs',h1,g1,L1,e,R1,sC,u5,afU⟩:=fq cs _ h g L _ _ R hvc e;have ha1:=AR.mono sC _ _ ha;have e:=cE e
   split at e
   ·rename_i V H ho;obtain⟨l,hl,e⟩:=bI e;obtain⟨y,hy,e⟩:=bI e
    split at e
    ·rename_i hle;rw[aj]at hle;have azZ:=eQ hle.1
     split at e
     ·rename_i z hz;obtain⟨H2,hH2,e⟩:=bI e;have e:=dZ e;have e:=gW e
      cases e;obtain⟨_,rfl⟩:=ahz hH2;obtain⟨b,k,cap,sz',hq,rfl⟩:=ha1.c;obtain⟨h0,b2,k2,Za,cur,e0,hp,er,aCN,GG,Va,mh⟩:=R1.gh.xZ c true (.bf V) H id l ho (p6 hl);rw[hp]at hq;cases hq;have hvl:=afU.length;have asq:=hvc.length;simp only[aI]at hvl asq;have hkk:∀(x:V.den) (es:List Value),dT w w0.heap.size Zp h1 g1 (V.cells x) es→es.length=V.size:=fun x es hx=>(dT.length _ _ hx).trans (VT.gX V x);obtain⟨A1,es,C1,hsp,hA1,hxe,acm⟩:=dY.splitAt hkk l _ ix y mh hy;have hes:=hkk _ _ hxe;have hmul: @ae V.den l*V.size≤cap*V.size:=cv _ GG;have hcl:cur.toList.length=cur.size:=aI;have hms:=aof cur.toList k (@ae V.den l*V.size) A1 es C1 vx.cells.toList off (by omega) hsp (by rw[aI];omega);rw[hA1]at hms;have aEW:ix*V.size+V.size≤@ae V.den l*V.size:=by
       have h9:=congrArg ae hsp;simp only[ag,aC,dI]at h9;omega
      have hrun:=Cv (P:=P) T (off:=k+ix*V.size+off) (v:=vx) er (by omega) (by simp only[aI];omega) hone;obtain⟨R',Le'⟩:=R1.vn (w':=w.setRow b (cur.toList.take (k+ix*V.size+off)++vx.cells.toList++cur.toList.drop (k+ix*V.size+off+vx.cells.toList.length)).toArray) (K:=.bf V) (x:=(l.set ix z:List V.den)) ho (p6 hl) hp rfl (fun c hc=>setRow_other w b c _ hc) (setRow_size _ _ _)
       (vB R1.ext (R1.gh.own c (.bf V) H id l _ ho (p6 hl) hp) _) (fun L2=>⟨h0,b,k,cap,_,e0,hp,setRow_heap w b cur _ e0 _ er,by
        rw[ek,hms.1,hcl];exact aCN,by simpa using GG,Va,by
        have wi:=th (off:=off) hxe afU;have hyp:=VT.sB hle.2 wi hz;have Q3:=acm z _ hyp;have e8: @ae V.den (l.set ix z)= @ae V.den l:=aP;rw[e8];show dY _ _ (List.take _ (List.drop k (List.take (k+ix*V.size+off) cur.toList++vx.cells.toList++List.drop (k+ix*V.size+off+vx.cells.toList.length) cur.toList)));rw[hms.2];exact dY.mono (fun x es hx=>dT.mono L2 _ _ hx) _ _ Q3⟩)
      exact bY.behind sC (fun o ho=>u5.al▸ho) ⟨_,undef,_,_,by simp[hrun],.inr ⟨rfl,rfl⟩,R',Le',AR.skip,fun o ho=> .inl ho⟩
     ·exact(ai e).elim
    ·exact(ai e).elim
   ·exact(ai e).elim
  ·exact(ai e).elim
 ·exact(ai e).elim
end
end Go.Am
