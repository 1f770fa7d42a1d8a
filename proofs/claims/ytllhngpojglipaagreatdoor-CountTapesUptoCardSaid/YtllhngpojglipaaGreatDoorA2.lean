import Derived.Test.YtllhngpojglipaaGreatDoorA1
import Derived.Great.FillDense
import Derived.Great.BuildSlice
import Derived.Laws.MakeOwn
set_option linter.unusedVariables false
set_option linter.unusedSimpArgs false
open Array renaming getElem?_toList→cC,length_toList→aI
open Bool renaming and_eq_true→ak
open Int renaming mul_comm→aa5,toNat_natCast→ax
open List renaming append_assoc→bo,append_nil→cG,cons_append→ev,drop_zero→dy,flatten_cons→ea,getElem?_append_left→aP,getElem?_eq_getElem→ai,getElem?_eq_none→bd,getElem?_set_ne→dq,getElem?_set_self→fl,getElem?_take→db,length_append→ah,length_cons→bg,length_drop→dE,length_map→dc,length_replicate→aU,length_set→aO,length_take→aC,length→af,map_cons→cb,nil_append→bC,replicate_succ→cH,replicate→ao,set→aX,size_toArray→dZ,take_append_drop→bM,take_length→ch,take_of_length_le→aR
open Nat renaming add_assoc→eZ,add_mul→cF,beq→bT,blt_eq→eV,eq_of_beq_eq_true→aA,le_of_ble_eq_true→eD,le_refl→az,le_trans→ei,mul_le_mul_right→cv,zero_add→dJ
namespace Go.Am
open Go
section
variable {P:Program} {w0:W0} {w:World} {Z0 Zp:cD} {h h':bm} {g:G} {new next base:Nat} {r:A} {L L':Log} {X:Cx}
theorem iQ(b off j:Nat):(⟨b,off,none⟩:Addr).add j=⟨b,off+j,none⟩:=by
 unfold Addr.add;split
 ·rename_i h;subst h;rfl
 ·rfl
theorem aj1{off size:Nat}{cs b:List C}(a:sub off size cs=some b):off+size≤cs.length∧b=(cs.drop off).take size:=by
 unfold sub at a
 split at a
 ·rename_i c;cases a;exact⟨eD c,rfl⟩
 ·cases a
theorem WV{agg:Bool}{size off:Nat}{cs:List C}(e:(partOf agg size off cs .ret).eval next h L=some (r,h',L')):
  h'=h∧L'=L∧off+size≤cs.length∧r= .v agg ((cs.drop off).take size)∧(agg=false→size=1):=by
 unfold partOf at e
 split at e
 ·rename_i k j;obtain⟨b,d⟩:=aj1 j;subst d
  split at e
  ·rename_i l;simp[HM.eval]at e;exact⟨e.2.1.symm,e.2.2.symm,b,by rw[←e.1],fun i=>by cases i⟩
  ·rename_i c n a;simp[HM.eval]at e;refine⟨e.2.1.symm,e.2.2.symm,b,by rw[←e.1,a],fun _=> ?_⟩;have:=congrArg af a;simp at this;omega
  ·exact(aj e).elim
 ·exact(aj e).elim
theorem getElem?_sub{α:Type}(vs:List α)(c n j:Nat)(u:α)(h:((vs.drop c).take n)[j]? =some u):vs[c+j]? =some u:=by
 rw[db]at h
 split at h
 ·rw[List.getElem?_drop]at h;exact h
 ·cases h
theorem Ej{t:TypeId}{d:TD}(T:eH P t d){cs:List C}{vs:List Value}{b off c:Nat}(q:dM w base Zp h g cs vs)
  (n:∀j u,vs[j]? =some u→w.cell? ⟨b,off+j,none⟩=some u) (e:(partOf d.agg d.size c cs .ret).eval next h L=some (r,h',L')):
  h'=h∧∃v,(loadVar t ⟨b,off+c,none⟩).run P w= .ok v w∧AR w base Zp h g r v:=by
 obtain⟨rfl,_,z,rfl,x⟩:=WV e;have B:=q.length;have i:∀j u,((vs.drop c).take d.size)[j]? =some u→w.cell? ((⟨b,off+c,none⟩:Addr).add j)=some u:=fun j u y=>by
  rw[iQ,eZ];exact n (c+j) u (getElem?_sub vs c d.size j u y)
 have a:((vs.drop c).take d.size).length=d.size:=by simp;omega
 have k:=dM.take d.size _ _ (dM.drop c _ _ q);refine⟨rfl,?_⟩
 cases o:d.agg with
 |true=>
  have l:=run_loadCells_list (P:=P) w ⟨b,off+c,none⟩ ((vs.drop c).take d.size) i;rw[a]at l;refine⟨_,?_,(vs.drop c).take d.size,rfl,k⟩;simp[loadVar,T.isAgg,T.sizeOf,o,l]
 |false=>
  have p:=x o;rw[p]at k a i;obtain⟨v,n⟩:∃v,(vs.drop c).take 1=[v]:=List.length_eq_one_iff.1 a;refine⟨v,?_,?_⟩
  ·have:=i 0 v (by rw[n];rfl);rw[iQ,Nat.add_zero]at this;simp[loadVar,T.isAgg,o,run_load,this]
  ·rw[p];rw[n]at k;exact k
theorem aqn{t:TypeId}{d:TD}(T:eH P t d){cs:List C}{vs:List Value}{c:Nat}(k:dM w base Zp h g cs vs)
  (e:(partOf d.agg d.size c cs .ret).eval next h L=some (r,h',L')):
  h'=h∧∃v,(part t vs.toArray c).run P w= .ok v w∧AR w base Zp h g r v:=by
 obtain⟨rfl,_,p,rfl,n⟩:=WV e;have q:=k.length;have b:((vs.drop c).take d.size).length=d.size:=by simp;omega
 have a:=dM.take d.size _ _ (dM.drop c _ _ k);refine⟨rfl,?_⟩
 cases i:d.agg with
 |true=>
  refine⟨.agg (vs.toArray.extract c (c+d.size)),?_,(vs.drop c).take d.size,?_,a⟩
  ·simp[part,T.isAgg,T.sizeOf,i]
  ·simp
 |false=>
  have j:=n i;rw[j]at a b;obtain⟨v,l⟩:∃v,(vs.drop c).take 1=[v]:=List.length_eq_one_iff.1 b;refine⟨v,?_,?_⟩
  ·have o:vs[c]? =some v:=by
    have:=getElem?_sub vs c 1 0 v (by rw[l];rfl);simpa using this
   simp[part,T.isAgg,i,o]
  ·rw[j];rw[l]at a;exact a
theorem dR.get{α:Type}{R:α→List Value→Prop}{k:Nat}(H:∀x es,R x es→es.length=k):∀(l:List α) (vs:List Value),dR R l vs→∀(i:Nat) (x:α),l[i]? =some x→R x ((vs.drop (i*k)).take k)
 |[],_,_,i,x,D=>by simp at D
 |y::l,_,⟨es,j,e,E,I⟩,0,x,D=>by
  simp at D;subst D;subst e;have:=H _ _ E;simp[←this];exact E
 |y::l,_,⟨es,j,e,E,I⟩,i+1,x,D=>by
  subst e;have J:=dR.get H l j I i x (by simpa using D);have K:=H _ _ E;have:(i+1)*k=es.length+i*k:=by rw[K,cF];omega
  rw[this,←List.drop_drop,List.drop_left];exact J
theorem PR.k{Z:cD}(e:Ty):∀(x:e.den) (es:List Value),PR w Z Zp e x es→es.length=e.size:=fun x es hh=>PR.length e x es hh
theorem iu{b:Nat}{cur:Array Value}{e0:TypeId}{a:Nat×Nat}(c:w.heap[b]? =some (.cells cur e0 a))(i:Nat):w.cell? ⟨b,i,none⟩=cur[i]? :=by
 simp[World.cell?,c]
theorem kU{b:Nat}{cur:Array Value}{e0:TypeId}{a:Nat×Nat}(c:w.heap[b]? =some (.cells cur e0 a))(k n:Nat):∀j u,((cur.toList.drop k).take n)[j]? =some u→w.cell? ⟨b,k+j,none⟩=some u:=by
 intro j u d;rw[iu c];have:=getElem?_sub _ k n j u d;simpa using this
def VT.lK:VT→List Value
 |.data τ=>τ.lK
 |.gp _ _=>[.pointer none]
 |.gs _=>[.slice none 0 0]
 |.gm _=>[.map none]
 |.pair a b=>a.lK++b.lK
 |.unit=>[]
def VT.Jj:VT→Bool
 |.data τ=>τ.cE&&τ.Jj
 |.pair a b=>a.Jj&&b.Jj
 |_=>true
structure VOK (P:Program) (t:TypeId) (V:VT):Prop where
 ok:V.ok=true
 nf:V.Jj=true
 pos:0<V.size
 info:(P.info? t).map (fun i=>(i.size,i.zero.map fun z=>(z.cells.toList,ajY z)))=some (V.size,some (V.lK,V.isAgg))
def ae1(P:Program)(l:List (TypeId×VT)):Prop:=∀p∈l,VOK P p.1 p.2
theorem ae1.get{l:List (TypeId×VT)}(H:ae1 P l){t:TypeId}{V:VT}(h:cW t l=some V):VOK P t V:=H _ (Ei h)
theorem VOK.inf{t:TypeId}{V:VT}(T:VOK P t V):∃i z,P.info? t=some i∧i.size=V.size∧i.zero=some z∧z.cells.toList=V.lK∧ajY z=V.isAgg:=by
 have:=T.info
 cases hi:P.info? t with
 |none=>simp[hi]at this
 |some i=>
  cases j:i.zero with
  |none=>simp[hi,j]at this
  |some z=>simp[hi,j]at this;exact⟨i,z,rfl,this.1,j,this.2.1,this.2.2⟩
theorem VOK.sizeOf{t:TypeId}{V:VT}(T:VOK P t V)(w:World):(Go.sizeOf t).run P w= .ok V.size w:=by
 obtain⟨i,z,j,y,_⟩:=T.inf;simp[Go.sizeOf,typeInfo,j,y]
theorem Ty.gI:∀(τ:Ty) (x:τ.den),(τ.cells x).length=τ.size
 |.bool,_ |.int _,_ |.str,_ |.sl _,_ |.unit,_ |.ref _,_ |.fn _,_ |.cl _ _,_=>rfl
 |.pair a b,x=>by simp[Ty.cells,Ty.size,Ty.gI a,Ty.gI b]
theorem VT.gI:∀(V:VT) (x:V.den),(V.cells x).length=V.size
 |.data τ,x=>Ty.gI τ x
 |.gp _ _,_ |.gs _,_ |.gm _,_ |.unit,_=>rfl
 |.pair a b,x=>by simp[VT.cells,VT.size,VT.gI a,VT.gI b]
theorem pu{α:Type}{H:List (Option α)}{i:Nat}{x:α}(hx:fA H i=some x):H[i]? =some (some x):=by
 unfold fA at hx
 split at hx
 ·rename_i h;cases hx;exact h
 ·cases hx
theorem agw{α:Type}{H a:List (Option α)}{i:Nat}{x:α}(hx:uG H i x=some a):(∃y,H[i]? =some (some y))∧a=H.set i (some x):=by
 unfold uG at hx
 split at hx
 ·rename_i y h;cases hx;exact⟨⟨y,h⟩,rfl⟩
 ·cases hx
theorem jP{K b:GK}{H:List (Option K.xp)}{c:List (Option b.xp)}(a:oI K b H=some c):∃h:K=b,c=h▸H:=by
 unfold oI at a
 split at a
 ·rename_i e _;subst e;cases a;exact⟨rfl,rfl⟩
 ·cases a
theorem avb{base:Nat}{V:VT}{l:List V.den}{vs:List Value}(b:dR (fun y a=>dM w base Zp h g (V.cells y) a) l vs){i:Nat}{y:V.den}(d:l[i]? =some y):dM w base Zp h g (V.cells y) ((vs.drop (i*V.size)).take V.size):=
 dR.get (fun x a c=>(dM.length _ _ c).trans (VT.gI V x)) l vs b i y d
theorem rL{α:Type}{x:α}{p:Prop}(h:none=some x):p:=by cases h
theorem VT.asO{c off:Nat}(d:C){cs r:List C}{x:Option Nat}(D:VT.take (.gp c off) (d::cs)=some (x,r)):(d= .nilp∧x=none∧r=cs)∨(d= .gp c off x∧r=cs):=by
 cases d
 case nilp=>
  have h:some ((none:Option Nat),cs)=some (x,r):=D;have h:=Option.some.inj h;exact .inl ⟨rfl,(congrArg Prod.fst h).symm,(congrArg Prod.snd h).symm⟩
 case gp E i y=>
  have h:(match bT c E&&bT off i with |true=>some (y,cs)|false=>none)=some (x,r):=D
  split at h
  ·rename_i j;rw[ak]at j;have h:=Option.some.inj h;rw[aA j.1,aA j.2];exact .inr ⟨by rw[show y=x from congrArg Prod.fst h],(congrArg Prod.snd h).symm⟩
  ·exact rL h
 all_goals exact rL (show(none:Option (Option Nat×List C))=some (x,r)from D)
theorem VT.asP{c:Nat}(d:C){cs r:List C}{x:Option (Nat×Nat×Nat)}(i:VT.take (.gs c) (d::cs)=some (x,r)):(d= .nils∧x=none∧r=cs)∨(d= .gs c x∧r=cs):=by
 cases d
 case nils=>
  have h:some ((none:Option (Nat×Nat×Nat)),cs)=some (x,r):=i;have h:=Option.some.inj h;exact .inl ⟨rfl,(congrArg Prod.fst h).symm,(congrArg Prod.snd h).symm⟩
 case gs j y=>
  have h:(match bT c j with |true=>some (y,cs)|false=>none)=some (x,r):=i
  split at h
  ·rename_i D;have h:=Option.some.inj h;rw[aA D];exact .inr ⟨by rw[show y=x from congrArg Prod.fst h],(congrArg Prod.snd h).symm⟩
  ·exact rL h
 all_goals exact rL (show(none:Option (Option (Nat×Nat×Nat)×List C))=some (x,r)from i)
theorem VT.asQ{c:Nat}(d:C){cs r:List C}{x:Option Nat}(i:VT.take (.gm c) (d::cs)=some (x,r)):d= .gm c x∧r=cs:=by
 cases d
 case gm j y=>
  have h:(match bT c j with |true=>some (y,cs)|false=>none)=some (x,r):=i
  split at h
  ·rename_i D;have h:=Option.some.inj h;rw[aA D];exact⟨by rw[show y=x from congrArg Prod.fst h],(congrArg Prod.snd h).symm⟩
  ·exact rL h
 all_goals exact rL (show(none:Option (Option Nat×List C))=some (x,r)from i)
theorem VT.ao2{a b:VT}{cs r:List C}{x:a.den×b.den}(i:VT.take (.pair a b) cs=some (x,r)):∃y z r1,a.take cs=some (y,r1)∧b.take r1=some (z,r)∧x=(y,z):=by
 have i:(match a.take cs with
  |some (x,r)=>(match b.take r with
   |some (y,I)=>some ((x,y),I)
   |none=>none:Option ((a.den×b.den)×List C))
  |none=>none)=some (x,r):=i
 split at i
 ·rename_i y r1 E
  split at i
  ·rename_i z r2 H;have i:=Option.some.inj i;have j:(y,z)=x:=congrArg Prod.fst i;have D:r2=r:=congrArg Prod.snd i;subst D;exact⟨y,z,r1,E,H,j.symm⟩
  ·exact rL i
 ·exact rL i
theorem VT.abu{base:Nat}:∀(V:VT) (cs:List C) (vs:List Value) (x:V.den) (r:List C),V.ok=true→dM w base Zp h g cs vs→V.take cs=some (x,r)→
  ∃us rs,vs=us++rs∧dM w base Zp h g (V.cells x) us∧dM w base Zp h g r rs
 |.data τ,cs,vs,x,r,H,I,j=>by
  obtain⟨us,rs,e,D,E⟩:=aaW τ cs vs x r H I j;exact⟨us,rs,e,dM.ar2 τ x us D,E⟩
 |.gp c J,[],_,_,_,_,_,j=>by cases j
 |.gs c,[],_,_,_,_,_,j=>by cases j
 |.gm c,[],_,_,_,_,_,j=>by cases j
 |.gp c J,d::cs,vs,x,r,_,⟨v,i,e,D,E⟩,j=>by
  rcases VT.asO d j with⟨rfl,rfl,rfl⟩|⟨rfl,rfl⟩
  ·exact⟨[v],i,e,⟨v,[],rfl,D,rfl⟩,E⟩
  ·exact⟨[v],i,e,⟨v,[],rfl,D,rfl⟩,E⟩
 |.gs c,d::cs,vs,x,r,_,⟨v,i,e,D,E⟩,j=>by
  rcases VT.asP d j with⟨rfl,rfl,rfl⟩|⟨rfl,rfl⟩
  ·exact⟨[v],i,e,⟨v,[],rfl,D,rfl⟩,E⟩
  ·exact⟨[v],i,e,⟨v,[],rfl,D,rfl⟩,E⟩
 |.gm c,d::cs,vs,x,r,_,⟨v,i,e,D,E⟩,j=>by
  obtain⟨rfl,rfl⟩:=VT.asQ d j;exact⟨[v],i,e,⟨v,[],rfl,D,rfl⟩,E⟩
 |.pair a b,cs,vs,x,r,H,I,j=>by
  have H:(a.ok&&b.ok)=true:=H;rw[ak]at H;obtain⟨y,z,r1,D,E,Q⟩:=VT.ao2 j;subst Q;obtain⟨us,rs,e,R,c1⟩:=VT.abu a cs vs y r1 H.1 I D;obtain⟨M,K,O,S,N⟩:=VT.abu b r1 rs z _ H.2 c1 E;exact⟨us++M,K,by rw[e,O,bo],dM.append _ _ _ _ R S,N⟩
 |.unit,cs,vs,x,r,_,I,j=>by
  cases j;exact⟨[],vs,by simp,rfl,I⟩
theorem VT.rM{base:Nat}{V:VT}{cs:List C}{vs:List Value}{x:V.den}(D:V.ok=true)(j:dM w base Zp h g cs vs)(i:V.dC cs=some x):dM w base Zp h g (V.cells x) vs:=by
 unfold VT.dC at i
 split at i
 ·rename_i y E
  cases i;obtain⟨us,rs,e,p,c⟩:=VT.abu V cs vs _ _ D j E;simp only[dM]at c;subst c;simp at e;subst e;exact p
 ·cases i
theorem aaX(R:HR w0 Z0 Zp h g w){a:C}{v:Value}(B:CR w w0.heap.size Zp h g a v){k:List C→HM}{p:A×bm×Log}(e:(atM a k).eval next h L=some p):
  ∃b off cs vs L1,v= .pointer (some ⟨b,off,none⟩)∧dM w w0.heap.size Zp h g cs vs∧(∀(j:Nat) u,vs[j]? =some u→w.cell? ⟨b,off+j,none⟩=some u)∧(k cs).eval next h L1=some p:=by
 unfold atM at e
 split at e
 ·rename_i c off x;obtain⟨id,E,e⟩:=bG e;rw[E]at B;have e:=cA e
  split at e
  ·rename_i wr V H F;obtain⟨y,K,e⟩:=bG e;obtain⟨Q,b,t,z,O,I,d,D⟩:=R.gh.xp c wr _ H id y F (pu K);obtain⟨q,o,U,rfl⟩:=B;rw[I]at o;cases o;exact⟨b,off,_,_,_,rfl,dM.drop off _ _ D,fun j u n=>by rw[iu d];rw[List.getElem?_drop]at n;simpa using n,e⟩
  ·exact(aj e).elim
 ·rename_i c id M off;have e:=cA e
  split at e
  ·rename_i wr V H F;obtain⟨l,S,e⟩:=bG e;obtain⟨y,K,e⟩:=bG e;obtain⟨Q,b,kk,t,z,O,I,d,W,T,_,J⟩:=R.gh.xp c wr _ H id l F (pu S);obtain⟨Z,k',N,Y,o,rfl⟩:=B;rw[I]at o;cases o;refine⟨b,kk+M*V.size+off,_,_,_,rfl,dM.drop off _ _ (avb J K),fun j u n=> ?_,e⟩;rw[iu d];rw[List.getElem?_drop]at n;have i:=getElem?_sub _ _ _ _ _ n;rw[db]at i
   split at i
   case isFalse=>cases i
   rw[List.getElem?_drop]at i;rw[←cC];rw[show kk+M*V.size+off+j=kk+(M*V.size+(off+j))by omega];exact i
  ·exact(aj e).elim
 ·exact(aj e).elim
theorem Un(R:HR w0 Z0 Zp h g w){t:TypeId}{d:TD}(T:eH P t d){a:A}{v:Value}(K:AR w w0.heap.size Zp h g a v)(e:(abl d a).eval next h L=some (r,h',L')):
  h'=h∧∃u,(Instr.loadAt t v).run P w= .ok u w∧AR w w0.heap.size Zp h g r u:=by
 unfold abl at e
 split at e
 ·rename_i o off;have e:=cA e
  split at e
  ·rename_i H E;obtain⟨M,hp,Q⟩:=K.c;obtain⟨b,N,rfl⟩:=Q (by rw[E];simp);have y:=R.ob o;rw[E]at y;obtain⟨b',J,e0,p,q,D⟩:=y;rw[N]at p;cases p;have:=Ej (P:=P) T (off:=0) (b:=b) D (fun j u hj=>by rw[dJ,iu q];simpa using hj) e;simpa[Instr.loadAt,Instr.sureAddr]using this
  ·exact(aj e).elim
 ·rename_i τ x c;obtain⟨b,off,us,rfl,F,hce⟩:=K.c;have:=Ej (P:=P) T (h:=h) (g:=g) (base:=w0.heap.size) (Zp:=Zp) (dM.ar2 τ x us F) (fun j u hj=>(hce j u hj).1) e;simpa[Instr.loadAt,Instr.sureAddr]using this
 ·rename_i o i c;have e:=cA e
  split at e
  ·rename_i z l E;obtain⟨x,hx,e⟩:=bG e;obtain⟨M,hp,Q⟩:=K.c;obtain⟨b,N,rfl⟩:=Q z (af l) (by rw[E];rfl);have y:=R.ob o;rw[E]at y;obtain⟨_,_,b',J,e0,p,q,F⟩:=y;rw[N]at p;cases p;have S:=dR.get (PR.k z) l _ F i x hx;have:=Ej (P:=P) T (h:=h) (g:=g) (base:=w0.heap.size) (Zp:=Zp) (dM.ar2 z x _ S) (b:=b) (off:=i*z.size) (kU q _ _) e;simpa[Instr.loadAt,Instr.sureAddr]using this
  ·rename_i z l E;obtain⟨x,hx,e⟩:=bG e;obtain⟨M,hp,Q⟩:=K.c;obtain⟨b,N,rfl⟩:=Q z (af l) (by rw[E];rfl);have y:=R.ob o;rw[E]at y;obtain⟨_,_,b',J,e0,fz,p,q,F,_⟩:=y;rw[N]at p;cases p;have S:=dR.get (PR.k z) l _ F i x hx;have:=Ej (P:=P) T (h:=h) (g:=g) (base:=w0.heap.size) (Zp:=Zp) (dM.ar2 z x _ S) (b:=b) (off:=i*z.size) (kU q _ _) e;simpa[Instr.loadAt,Instr.sureAddr]using this
  ·exact(aj e).elim
 ·rename_i o off len i
  split at e
  ·rename_i k hk;have e:=cA e
   split at e
   ·rename_i H E
    split at e
    ·rename_i ds hs
     split at e
     ·rename_i l B;obtain⟨n,I,e⟩:=bG e;obtain⟨rfl,rfl,_⟩:=fW e;obtain⟨M,hp,Q⟩:=K.c;obtain⟨b,N,rfl⟩:=Q (by rw[E];simp);have y:=R.ob o;rw[E]at y;obtain⟨b',J,e0,p,q,D⟩:=y;rw[N]at p;cases p;obtain⟨_,rfl⟩:=aj1 hs;have Z:=dM.take len _ _ (dM.drop off _ _ D);have key:∀(H:List C) (U:List Value) (l:List Int),dM w w0.heap.size Zp h' g H U→abk k H=some l→∀(i:Nat) (n:Int),l[i]? =some n→U[i]? =some (.int k n):=by
       intro H
       induction H with
       |nil=>intro U l _ B i n I;simp[abk]at B;subst B;simp at I
       |cons c H ih=>
        intro U l D B i n I;obtain⟨v,rest,e,V,W⟩:=D;subst e
        cases c<;>simp only[abk]at B<;>try (cases B;done)
        split at B
        ·rename_i hkk _;subst hkk
         split at B
         ·rename_i l2 hl2
          cases B
          cases i with
          |zero=>simp at I;subst I;simpa[CR]using V
          |succ i=>simp at I;simpa using ih rest l2 W hl2 i n I
         ·cases B
        ·cases B
      have h5:=getElem?_sub _ _ _ _ _ (key _ _ _ Z B i n I);have O:w.cell? ⟨b,off+i,none⟩=some (.int k n):=by rw[iu q];simpa using h5
      have Y:d.agg=false:=by have:=T.agg;rw[hk]at this;simpa[aoV]using this.symm
      refine⟨rfl,.int k n,?_,AR.qF rfl⟩;simp[Instr.loadAt,Instr.sureAddr,loadVar,T.isAgg,Y,run_load,O]
     ·exact(aj e).elim
    ·exact(aj e).elim
   ·exact(aj e).elim
  ·exact(aj e).elim
 ·rename_i c off x;obtain⟨b,o,H,U,L1,rfl,V,W,e⟩:=aaX R K.c e;have:=Ej (P:=P) T (off:=o) (b:=b) V W e;simpa[Instr.loadAt,Instr.sureAddr]using this
 ·rename_i c id ix off;obtain⟨b,o,H,U,L1,rfl,V,W,e⟩:=aaX R K.c e;have:=Ej (P:=P) T (off:=o) (b:=b) V W e;simpa[Instr.loadAt,Instr.sureAddr]using this
 ·exact(aj e).elim
theorem abv{f:Field}{a:TD}(T:eH P f.type a)(hz:0<a.size)(b off:Nat):(fieldPlace ⟨b,off,none⟩ f).run P w= .ok ⟨b,off+f.offset,none⟩ w:=by
 have:a.size≠0:=by omega
 simp[fieldPlace,T.sizeOf,this,iQ]
theorem abw{a:A}{v:Value}{n:Nat}(hh:AR w base Zp h g a v)(e:(ahN a n).eval next h L=some (r,h',L')):
  h'=h∧∃b off,v= .pointer (some ⟨b,off,none⟩)∧AR w base Zp h g r (.pointer (some ⟨b,off+n,none⟩)):=by
 unfold ahN at e
 split at e
 ·rename_i o off;have e:=cA e
  split at e
  ·exact(aj e).elim
  ·rename_i H;obtain⟨rfl,rfl,_⟩:=cd e;obtain⟨p,⟨z,D⟩,y⟩:=hh.c;obtain⟨b,d,j⟩:=y H;exact⟨rfl,b,off,j,AR.qF ⟨p,⟨_,rfl⟩,fun _=>⟨b,d,rfl⟩⟩⟩
 ·rename_i τ x c;obtain⟨rfl,rfl,_⟩:=cd e;obtain⟨b,off,Q,D,d,j⟩:=hh.c;exact⟨rfl,b,off+c,D,AR.qF ⟨b,off,Q,by rw[eZ],d,j⟩⟩
 ·rename_i o i c;have e:=cA e
  split at e
  ·rename_i t l K;obtain⟨rfl,rfl,_⟩:=cd e;obtain⟨p,⟨z,D⟩,y⟩:=hh.c;obtain⟨b,d,j⟩:=y t (af l) (by rw[K];rfl);refine⟨rfl,b,_,j,AR.qF ⟨p,⟨_,rfl⟩,fun F M I=> ?_⟩⟩;obtain⟨N,u,B⟩:=y F M I;rw[d]at u;cases u;rw[j]at B;simp at B;exact⟨b,d,by simp;try omega⟩
  ·rename_i t l K;obtain⟨rfl,rfl,_⟩:=cd e;obtain⟨p,⟨z,D⟩,y⟩:=hh.c;obtain⟨b,d,j⟩:=y t (af l) (by rw[K];rfl);refine⟨rfl,b,_,j,AR.qF ⟨p,⟨_,rfl⟩,fun F M I=> ?_⟩⟩;obtain⟨N,u,B⟩:=y F M I;rw[d]at u;cases u;rw[j]at B;simp at B;exact⟨b,d,by simp;try omega⟩
  ·exact(aj e).elim
 ·rename_i c off x;obtain⟨id,J,e⟩:=bG e;rw[J]at hh;obtain⟨rfl,rfl,_⟩:=cd e;obtain⟨q,d,j,u⟩:=hh.c;exact⟨rfl,q.1,off,u,AR.qF ⟨q,d,j,rfl⟩⟩
 ·rename_i c id R off;obtain⟨rfl,rfl,_⟩:=cd e;obtain⟨b,k,E,O,d,j⟩:=hh.c;exact⟨rfl,b,_,j,AR.qF ⟨b,k,E,O,d,by rw[eZ]⟩⟩
 ·exact(aj e).elim
theorem bj{α:Type}{l:List α}{i:Int}{x:α}(hx:idx l i=some x):0≤i∧i<l.length∧l[i.toNat]? =some x:=by
 unfold idx at hx
 split at hx
 ·rename_i a;have:=(List.getElem?_eq_some_iff.1 hx).1;exact⟨a,by omega,hx⟩
 ·cases hx
theorem dO{i:Int}{n k:Nat}(hx:ck i n=some k):0≤i∧i<n∧k=i.toNat:=by
 unfold ck at hx
 split at hx
 ·rename_i a;cases hx;exact⟨a.1,a.2,rfl⟩
 ·cases hx
theorem asR{Z:cD}{e:Ty}{l:List e.den}{v:Value}(E:PR w Z Zp (.sl e) l [v]){i:Nat}{x:e.den}(hx:l[i]? =some x)(y:0<e.size):
  ∃b off cap,v= .slice (some ⟨b,off,none⟩) (af l) cap∧af l≤cap∧∃a,PR w Z Zp e x a∧∀j u,a[j]? =some u→w.cell? ⟨b,off+i*e.size+j,none⟩=some u∧Z b (off+i*e.size+j):=by
 obtain⟨F,cap,a,t,c,n,p⟩:=E;have d:=dR.length (PR.k e) l a n;have I:=(List.getElem?_eq_some_iff.1 hx).1;have q:a≠[]:=by
  intro o;have z:a.length=0:=by rw[o];rfl
  rw[d]at z;have H:0<af l*e.size:=Nat.mul_pos (by omega) y;omega
 obtain⟨b,off,rfl,B⟩:=p q;simp at t;refine⟨b,off,cap,t,c,_,dR.get (PR.k e) l a n i x hx,fun j u D=> ?_⟩;have:=B _ _ (getElem?_sub _ _ _ _ _ D);rw[eZ];exact this
theorem wE(e:Yk P X.tt){t:TypeId}{n:Nat}(a:OL X t n=true):0<n∧∀w:World,(Go.sizeOf t).run P w= .ok n w:=by
 unfold OL at a
 split at a
 ·rename_i d i;simp only[ak]at a;have b:=aA a.1;have c:0<n:=by have:=a.2;simp[eV]at this;exact this
  exact⟨c,fun w=>by rw[(e.get i).sizeOf,b]⟩
 ·cases a
theorem aj2{V a:VT}(h:aof V a=true):V=a:=by
 unfold aof at h;split at h
 ·assumption
 ·cases h
theorem ae2(hX:Yk P X.tt)(hV:ae1 P X.Ue)(R:HR w0 Z0 Zp h g w){t:TypeId}{d:TD}(T:eH P t d){x ix:A}{vx vi:Value}(hx:AR w w0.heap.size Zp h g x vx)(hi:AR w w0.heap.size Zp h g ix vi)
  (e:(OM X d x ix).eval next h L=some (r,h',L')):
  h'=h∧∃u,(Instr.indexAt t vx vi).run P w= .ok u w∧AR w w0.heap.size Zp h g r u:=by
 unfold OM at e
 split at e
 ·rename_i k i;have Z:=hi.c;simp only[CR]at Z;subst Z
  split at e
  ·rename_i _ _ te a l tk J
   split at e
   ·rename_i B;obtain⟨p,D⟩:=wE hX B;obtain⟨y,hy,e⟩:=bG e;obtain⟨rfl,rfl,_⟩:=cd e;obtain⟨E,F,h2⟩:=bj hy;obtain⟨b,off,Q,rfl,_,us,hpr,O⟩:=asR hx.c.1 h2 p;refine⟨rfl,_,?_,AR.qF ⟨b,off+i.toNat*a.size,us,rfl,hpr,fun j u hj=>⟨(O j u hj).1,.inl (O j u hj).2⟩⟩⟩;have:i<((af l:Nat):Int):=F;simp[Instr.indexAt,asIntOf,run_underlying (T.slice J),E,this,D,iQ]
   ·exact(aj e).elim
  ·rename_i _ _ te c y J;have e:=cA e
   split at e
   ·rename_i wr V H M
    split at e
    ·rename_i V' hV'
     split at e
     ·rename_i U p;have:=aj2 U;subst this;obtain⟨q,hq,e⟩:=bG e;obtain⟨n,K,e⟩:=bG e;obtain⟨rfl,rfl,_⟩:=cd e;obtain⟨E,F,rfl⟩:=dO K;obtain⟨id,a0,n0⟩:=q;rw[hq]at hx;obtain⟨b,k,Q,sz,o0,hp,hle,N,rfl⟩:=hx.c;have Y:=R.gh.psz c _ V H id _ M hp;simp only at Y;subst Y;refine⟨rfl,_,?_,AR.qF ⟨b,k,Q,V.size,hp,rfl⟩⟩;have hvo:=(hV.get hV').sizeOf (P:=P);have h1':i<(n0:Int):=F;have N:=N (by omega);subst N;simp[Instr.indexAt,asIntOf,run_underlying (T.slice J),E,h1',hvo,iQ,cF,eZ]
     ·exact(aj e).elim
    ·exact(aj e).elim
   ·exact(aj e).elim
  ·rename_i _ _ te o J;have e:=cA e;obtain⟨I,hs,hr⟩:=hx.c
   split at e
   ·rename_i a l M
    split at e
    ·rename_i B;obtain⟨p,D⟩:=wE hX B;obtain⟨n,K,e⟩:=bG e;obtain⟨rfl,rfl,_⟩:=cd e;obtain⟨E,F,rfl⟩:=dO K;have z:jB (look .dead o h')=some (a,af l):=by rw[M];rfl
     obtain⟨b,S,rfl⟩:=hr a _ z;refine⟨rfl,.pointer (some ⟨b,i.toNat*a.size,none⟩),?_,AR.qF ⟨I,⟨_,rfl⟩,fun e2 n2 W=> ?_⟩⟩
     ·simp[Instr.indexAt,asIntOf,run_underlying (T.slice J),E,F,D,iQ]
     ·rw[z]at W;cases W;exact⟨b,S,rfl⟩
    ·exact(aj e).elim
   ·rename_i a l M
    split at e
    ·rename_i B;obtain⟨p,D⟩:=wE hX B;obtain⟨n,K,e⟩:=bG e;obtain⟨rfl,rfl,_⟩:=cd e;obtain⟨E,F,rfl⟩:=dO K;have z:jB (look .dead o h')=some (a,af l):=by rw[M];rfl
     obtain⟨b,S,rfl⟩:=hr a _ z;refine⟨rfl,.pointer (some ⟨b,i.toNat*a.size,none⟩),?_,AR.qF ⟨I,⟨_,rfl⟩,fun e2 n2 W=> ?_⟩⟩
     ·simp[Instr.indexAt,asIntOf,run_underlying (T.slice J),E,F,D,iQ]
     ·rw[z]at W;cases W;exact⟨b,S,rfl⟩
    ·exact(aj e).elim
   ·exact(aj e).elim
  ·rename_i _ _ len te o off J
   split at e
   ·rename_i de hde
    split at e
    ·rename_i O;simp only[ak]at O;have hs1:=aA O.1;have hl1:1<len:=by have:=O.2;simp[eV]at this;exact this
     have e:=cA e
     split at e
     ·rename_i cs M;obtain⟨n,K,e⟩:=bG e;obtain⟨rfl,rfl,_⟩:=cd e;obtain⟨E,F,rfl⟩:=dO K;obtain⟨I,hs,hr⟩:=hx.c;obtain⟨b,S,rfl⟩:=hr (by rw[M];simp);have Te:=hX.get hde;refine⟨rfl,_,?_,AR.qF ⟨I,⟨_,rfl⟩,fun _=>⟨b,S,rfl⟩⟩⟩;simp[Instr.indexAt,asIntOf,run_underlying (T.array J),E,F,Te.sizeOf,iQ,hs1,Instr.sureAddr]
     ·exact(aj e).elim
    ·exact(aj e).elim
   ·exact(aj e).elim
  ·exact(aj e).elim
 ·exact(aj e).elim
end
section
variable {P:Program} {w0:W0} {w:World} {Z0 Zp:cD} {h h':bm} {g:G} {new next base:Nat} {r:A} {L L':Log} {X:Cx}
theorem ahW{Z k:cD}{e:Ty}{l:List e.den}{b:Nat}{cur:Array Value}{e0:TypeId}{q:Nat×Nat}(a:w.heap[b]? =some (.cells cur e0 q))(n:dR (PR w Z Zp e) l cur.toList)
  (hz:∀c i,Z c i→k c i) (o:∀i,i<cur.size→k b i):PR w k Zp (.sl e) l [.slice (some ⟨b,0,none⟩) (af l) (af l)]:=
 ⟨_,_,cur.toList,rfl,az _,dR.mono (fun x p y=>PR.mono (fun c i h=>⟨hz c i h,rfl⟩) (dG.refl _ _) e x p y) _ _ n,
  fun _=>⟨b,0,rfl,fun j u t=>by
   have d:cur[j]? =some u:=by simpa using t
   rw[dJ];exact⟨by rw[iu a];exact d,o j (Array.getElem?_eq_some_iff.1 d).1⟩⟩⟩
theorem FU(R:HR w0 Z0 Zp h g w){c:C}{v:Value}(D:CR w w0.heap.size Zp h g c v){k:C→HM}{x:A×bm×Log}(e:(pt true c k).eval next h L=some x):
  ∃J p g1 L1,(k J).eval next p L1=some x∧HR w0 Z0 Zp p g1 w∧Le Zp h g w p g1 w∧Fz h g p g1∧CR w w0.heap.size Zp p g1 J v:=by
 cases c
 case vec o=>
  simp only[pt]at e;have e:=cA e;obtain⟨B,Q,K⟩:=D
  split at e
  ·rename_i i l u;have e:=dS e;obtain⟨g1,H,L1,E⟩:=R.freeze u;have d:=H.ob o;rw[aW,if_pos rfl]at d;obtain⟨O,z,b,y,M,N,q,a,n,F⟩:=d;obtain⟨I,j,rfl⟩:=K i (af l) (by rw[u];rfl);have:I=b:=by
    have:=L1.hm o B (by rw[aW,if_pos rfl];simp);rw[this,j]at q;cases q;rfl
   subst this;exact⟨_,_,g1,_,e,H,L1,E,ahW a n (fun _ _ h=>h) F,trivial⟩
  ·rename_i i l u;have d:=R.ob o;rw[u]at d;obtain⟨O,z,b,y,M,N,q,a,n,F⟩:=d;obtain⟨I,j,rfl⟩:=K i (af l) (by rw[u];rfl);rw[j]at q;cases q;exact⟨_,_,g,_,e,R,Le.refl _ _ _ _,Fz.refl _ _,ahW a n (fun _ _ h=>h) F,trivial⟩
  ·exact(aj e).elim
 case sl i l t=>exact⟨_,h,g,L,e,R,Le.refl _ _ _ _,Fz.refl _ _,D.1,trivial⟩
 all_goals exact⟨_,h,g,L,e,R,Le.refl _ _ _ _,Fz.refl _ _,D⟩
theorem eX:∀(cs:List C) (vs:List Value) (h:bm) (g:G) (L:Log) (k:List C→HM) (a:A×bm×Log),HR w0 Z0 Zp h g w→dM w w0.heap.size Zp h g cs vs→(jv true cs k).eval next h L=some a→
  ∃b i g1 L1,(k b).eval next i L1=some a∧HR w0 Z0 Zp i g1 w∧Le Zp h g w i g1 w∧Fz h g i g1∧dM w w0.heap.size Zp i g1 b vs
 |[],vs,h,g,L,k,a,R,n,e=>⟨[],h,g,L,e,R,Le.refl _ _ _ _,Fz.refl _ _,n⟩
 |c::cs,vs,h,g,L,k,a,R,n,e=>by
  obtain⟨v,d,rfl,i,I⟩:=n;obtain⟨B,J,F,u,D,y,j,q,o⟩:=FU R i e;obtain⟨b,K,H,x,E,z,l,t,p⟩:=eX cs d J F u _ a y (dM.mono j _ _ I) D;exact⟨B::b,K,H,x,E,z,j.trans l,q.trans t,⟨v,d,rfl,CR.mono l _ _ o,p⟩⟩
def Ek(h:bm)(g:G)(w:World):G:=
 { g with Z:=fun b i=>g.Z b i∨(∃o e,∃l:List (Ty.den e),look .dead o h= .row e l∧g.hm o=some b∧(w.cell? ⟨b,i,none⟩).isSome=true)∨∃c id,GL h g c id b∧(w.cell? ⟨b,i,none⟩).isSome=true }
theorem zB(h:bm)(g:G)(w:World):dG w w g.Z (Ek h g w).Z:=fun _ _ a=>⟨.inl a,rfl⟩
theorem aj3(h:bm)(g:G)(w:World):Le Zp h g w h (Ek h g w) w:=
 ⟨fun _ h=>h,zB h g w,dG.refl _ _,fun _ _=>Ob.to.refl _,fun _ _ _=>rfl,fun _ _ _=>⟨rfl,fun _ _=>rfl⟩,fun _ _ _ h=>h⟩
theorem MV(R:HR w0 Z0 Zp h g w){c:C}{v:Value}(B:CR w w0.heap.size Zp h g c v){k:C→HM}{x:A×bm×Log}(e:(pt false c k).eval next h L=some x):
  ∃E L1,(k E).eval next h L1=some x∧CR w w0.heap.size Zp h (Ek h g w) E v:=by
 cases c
 case vec o=>
  simp only[pt]at e;have e:=cA e;obtain⟨K,O,F⟩:=B
  split at e
  ·rename_i d l q;have j:=R.ob o;rw[q]at j;obtain⟨J,z,b,y,I,u,a,p⟩:=j;obtain⟨H,n,rfl⟩:=F d (af l) (by rw[q];rfl);rw[n]at u;cases u;exact⟨_,_,e,ahW a p (fun _ _ h=> .inl h) (fun i D=> .inr (.inl ⟨o,d,l,q,n,by rw[iu a];simp[D]⟩)),trivial⟩
  ·rename_i d l q;have j:=R.ob o;rw[q]at j;obtain⟨J,z,b,y,I,N,u,a,p,M⟩:=j;obtain⟨H,n,rfl⟩:=F d (af l) (by rw[q];rfl);rw[n]at u;cases u;exact⟨_,_,e,ahW a p (fun _ _ h=> .inl h) (fun i D=> .inl (M i D)),trivial⟩
  ·exact(aj e).elim
 case sl d l t=>exact⟨_,L,e,PR.mono (zB h g w) (dG.refl _ _) _ _ _ B.1,trivial⟩
 all_goals exact⟨_,L,e,CR.mono (aj3 h g w) _ _ B⟩
theorem se(R:HR w0 Z0 Zp h g w):∀(cs:List C) (vs:List Value) (L:Log) (k:List C→HM) (a:A×bm×Log),dM w w0.heap.size Zp h g cs vs→(jv false cs k).eval next h L=some a→
  ∃b L1,(k b).eval next h L1=some a∧dM w w0.heap.size Zp h (Ek h g w) b vs
 |[],vs,L,k,a,i,e=>⟨[],L,e,i⟩
 |c::cs,vs,L,k,a,i,e=>by
  obtain⟨v,d,rfl,u,x⟩:=i;obtain⟨p,n,q,j⟩:=MV R u e;obtain⟨b,o,t,l⟩:=se R cs d n _ a x q;exact⟨p::b,o,t,⟨v,d,rfl,j,l⟩⟩
theorem aqo(_:HR w0 Z0 Zp h g w){x:A}{v:Value}(hx:AR w w0.heap.size Zp h g x v)(e:(auV x).eval next h L=some (r,h',L')):
  h'=h∧∃(n:Nat) (a:Option Addr) (c:Nat),v= .slice a n c∧r= .v false [.int .i64 n]:=by
 unfold auV at e
 split at e
 ·obtain⟨rfl,rfl,_⟩:=fW e;obtain⟨⟨B,p,F,j,_⟩,_⟩:=hx.c;simp at j;exact⟨rfl,_,_,_,j,rfl⟩
 ·obtain⟨rfl,rfl,_⟩:=fW e;have:=hx.c;simp only[CR]at this;exact⟨rfl,0,_,_,this,rfl⟩
 ·rename_i c y;obtain⟨rfl,rfl,_⟩:=fW e
  cases y with
  |none=>exact⟨rfl,0,_,_,hx.c,rfl⟩
  |some q=>
   obtain⟨i,a,n⟩:=q;obtain⟨b,k,p,E,_,_,_,_,j⟩:=hx.c;exact⟨rfl,n,_,_,j,rfl⟩
 ·rename_i o;have e:=cA e;obtain⟨z,D,u⟩:=hx.c
  split at e
  ·rename_i d l t;obtain⟨rfl,rfl,_⟩:=fW e;obtain⟨b,_,rfl⟩:=u d (af l) (by rw[t];rfl);exact⟨rfl,_,_,_,rfl,rfl⟩
  ·rename_i d l t;obtain⟨rfl,rfl,_⟩:=fW e;obtain⟨b,_,rfl⟩:=u d (af l) (by rw[t];rfl);exact⟨rfl,_,_,_,rfl,rfl⟩
  ·exact(aj e).elim
 ·exact(aj e).elim
theorem Qg{α:Type}{l m:List α}{a b:Int}(c:slc l a b=some m):0≤a∧a≤b∧b≤l.length∧m=(l.take b.toNat).drop a.toNat:=by
 unfold slc at c
 split at c
 ·rename_i d;cases c;exact⟨d.1,d.2.1,d.2.2,rfl⟩
 ·cases c
theorem sf{x:Option A}{v:Option Value}{d n:Int}(hx:match x,v with |none,none=>True |some a,some u=>AR w base Zp h g a u |_,_=>False)(e:bnd x d=some n):
  (v=none∧n=d)∨∃k,v=some (.int k n):=by
 unfold bnd at e
 split at e
 ·cases e
  cases v with
  |none=>exact .inl ⟨rfl,rfl⟩
  |some _=>exact hx.elim
 ·rename_i k m
  cases e
  cases v with
  |none=>exact hx.elim
  |some u=>have:=AR.c hx;simp only[CR]at this;exact .inr ⟨k,by rw[this]⟩
 ·cases e
theorem qe{k:IntKind}{n:Int}{y:Nat}{a:BoundsCode}(b:0≤n)(c:n≤y):(Instr.sliceBound (.int k n) y a).run P w= .ok n.toNat w:=by
 simp[Instr.sliceBound,asIntOf,b,c]
theorem sg{isS:Bool}{len cap:Nat}{lo hi:Option Value}{a b:Int}(n:len≤cap)(o:0≤a)(t:a≤b)(u:b≤len)
  (e:(lo=none∧a=0)∨∃k,lo=some (.int k a)) (d:(hi=none∧b=len)∨∃k,hi=some (.int k b)):
  (Instr.sliceBounds isS len cap lo hi none).run P w= .ok (a.toNat,b.toNat,cap) w:=by
 have p:((b.toNat:Nat):Int)=b:=by omega
 have l:∀(c:BoundsCode) (k:IntKind),(Instr.sliceBound (.int k b) cap c).run P w= .ok b.toNat w:=fun c k=>qe (by omega) (by omega);have j:∀(c:BoundsCode) (k:IntKind),(Instr.sliceBound (.int k a) b.toNat c).run P w= .ok a.toNat w:=fun c k=>qe o (by omega);rcases e with⟨rfl,rfl⟩|⟨q,rfl⟩<;>rcases d with⟨rfl,rfl⟩|⟨x,rfl⟩
 ·simp[Instr.sliceBounds]
 ·simp[Instr.sliceBounds,l]
 ·have i:=fun c=>j c q;rw[ax]at i;simp[Instr.sliceBounds,i]
 ·simp[Instr.sliceBounds,l,j]
theorem Yl{isS:Bool}{len cap:Nat}{lo hi:Option Value}{a b m:Int}{km:IntKind}{kb:IntKind}(hm:m≤cap)(j:0≤a)(o:a≤b)(p:b≤m)
  (e:(lo=none∧a=0)∨∃k,lo=some (.int k a)) (d:hi=some (.int kb b)):
  (Instr.sliceBounds isS len cap lo hi (some (.int km m))).run P w= .ok (a.toNat,b.toNat,m.toNat) w:=by
 have i:∀(c:BoundsCode),(Instr.sliceBound (.int km m) cap c).run P w= .ok m.toNat w:=fun c=>qe (by omega) (by omega);have n:∀(c:BoundsCode),(Instr.sliceBound (.int kb b) m.toNat c).run P w= .ok b.toNat w:=fun c=>qe (by omega) (by omega);have l:∀(c:BoundsCode) (k:IntKind),(Instr.sliceBound (.int k a) b.toNat c).run P w= .ok a.toNat w:=fun c k=>qe j (by omega);subst d;rcases e with⟨rfl,rfl⟩|⟨q,rfl⟩<;>simp[Instr.sliceBounds]<;>rw[i]<;>simp<;>rw[n]<;>simp
 rw[l];simp
theorem dR.take_drop{α:Type}{R:α→List Value→Prop}{k:Nat}(y:∀x es,R x es→es.length=k):∀(n:Nat) (l:List α) (vs:List Value),dR R l vs→dR R (l.take n) (vs.take (n*k))∧dR R (l.drop n) (vs.drop (n*k))
 |0,l,vs,hh=>by simp[dR];exact hh
 |n+1,[],vs,hh=>by simp[dR]at hh;subst hh;simp[dR]
 |n+1,x::l,vs,⟨es,i,e,j,D⟩=>by
  have E:=y _ _ j;have H:(n+1)*k=es.length+n*k:=by rw[E,cF];omega
  subst e;obtain⟨I,J⟩:=dR.take_drop y n l i D;rw[H,List.take_length_add_append,List.drop_length_add_append];exact⟨⟨es,_,rfl,j,I⟩,J⟩
theorem aj4(e:Ty)(l:List e.den):rt e e l=some l:=by
 unfold rt
 cases a:decEq e e with
 |isTrue h=>rfl
 |isFalse h=>exact absurd rfl h
theorem Ty.OP:∀(τ:Ty) (x:τ.den) (r:List C),τ.cE=true→τ.take (τ.cells x++r)=some (x,r)
 |.bool,_,_,_=>rfl
 |.int k,x,r,_=>by
  simp only[Ty.cells,ev,bC,Ty.take]
  cases hd:decEq k k with
  |isTrue h=>rfl
  |isFalse h=>exact absurd rfl h
 |.str,_,_,_=>rfl
 |.sl e,l,r,_=>by
  simp only[Ty.cells,ev,bC,Ty.take];rw[aj4 e l]
 |.pair a b,x,r,i=>by
  simp only[Ty.cE,ak]at i;simp only[Ty.cells,Ty.take,bo,Ty.OP a _ _ i.1,Ty.OP b _ _ i.2];rfl
 |.unit,_,_,_=>rfl
 |.ref _,_,_,i=>by simp[Ty.cE]at i
 |.cl _ _,_,_,i=>by simp[Ty.cE]at i
 |.fn f,_,r,_=>by
  simp only[Ty.cells,ev,bC,Ty.take]
  cases hd:decEq f f with
  |isTrue h=>rfl
  |isFalse h=>exact absurd rfl h
theorem Ty.BJ{base:Nat}{τ:Ty}(i:τ.cE=true){x:τ.den}{vs:List Value}(j:dM w base Zp h g (τ.cells x) vs):PR w g.Z Zp τ x vs:=by
 refine ez i j ?_;unfold Ty.dC;have:=Ty.OP τ x [] i;rw[cG]at this;rw[this]
theorem El{α:Type}{H:List (Option (List α))}{i a n:Nat}{l:List α}(b:rX H (some (i,a,n))=some l):∃c,H[i]? =some (some c)∧a+n≤c.length∧l=(c.drop a).take n:=by
 unfold rX at b;simp only at b
 split at b
 ·rename_i c e
  split at b
  ·rename_i d;cases b;exact⟨c,pu e,d,rfl⟩
  ·cases b
 ·cases b
theorem ahX(R:HR w0 Z0 Zp h g w){c:Nat}{wr:Bool}{V:VT}{H:List (Option (List V.den))}(N:look .dead c h= .gh wr (.bf V) H){i a n:Nat}{l:List V.den}{v:Value}(S:CR w w0.heap.size Zp h g (.gs c (some (i,a,n))) v)(T:rX H (some (i,a,n))=some l):
  ∃b k cap cur e0 o,g.pm c i=some (b,k,cap,V.size)∧w.heap[b]? =some (.cells cur e0 (0,0))∧cur.size=k+cap*V.size∧a+n≤cap∧cap≤maxLen∧(a<cap→o=k+a*V.size)∧v= .slice (some ⟨b,o,none⟩) n (cap -a)∧l.length=n∧GL h g c i b∧0<V.size∧
   dR (fun y p=>dM w w0.heap.size Zp h g (V.cells y) p) l ((cur.toList.drop (k+a*V.size)).take (n*V.size))∧∃d,H[i]? =some (some d)∧a+n≤d.length∧l=(d.drop a).take n:=by
 obtain⟨d,t,j,rfl⟩:=El T;obtain⟨E,b,k,cap,cur,e0,D,q,I,U,z,F⟩:=R.gh.xp c wr (.bf V) H i d N t;obtain⟨Z,k',J,Y,o,O,u,B,rfl⟩:=S;rw[D]at O;cases O;have M:∀(x:V.den) (p:List Value),dM w w0.heap.size Zp h g (V.cells x) p→p.length=V.size:=fun x p W=>(dM.length _ _ W).trans (VT.gI V x);refine⟨b,k,cap,cur,e0,o,D,q,I,u,z,B,rfl,?_,⟨wr,.bf V,H,d,_,N,t,D,rfl⟩,E,?_,d,t,j,rfl⟩
 ·have e:a+n≤af d:=j;rw[aC,dE];omega
 ·have K:=(dR.take_drop M n _ _ (dR.take_drop M a _ _ F).2).1;have e:a+n≤af d:=j;have Q:(List.drop (a*V.size) (List.take (af d*V.size) (List.drop k cur.toList))).take (n*V.size)=(cur.toList.drop (k+a*V.size)).take (n*V.size):=by
   rw[List.drop_take,List.take_take,List.drop_drop];congr 1;have:(a+n)*V.size≤af d*V.size:=cv _ e;rw[cF]at this;omega
  rw[Q]at K;exact K
theorem amD(R:HR w0 Z0 Zp h g w){σ:Ty}{c:Nat}{x:Option (Nat×Nat×Nat)}{v:Value}(E:CR w w0.heap.size Zp h g (.gs c x) v){k:List σ.den→HM}{D:A×bm×Log}(e:(P7 σ c x k).eval next h L=some D):
  ∃l L1,(k l).eval next h L1=some D∧PR w (Ek h g w).Z Zp (.sl σ) l [v]:=by
 unfold P7 at e;have e:=cA e
 split at e
 ·rename_i wr K H ho
  split at e
  ·rename_i H' V hn;obtain⟨W,rfl⟩:=jP V;subst W;obtain⟨l,O,e⟩:=bG e;refine⟨l,_,e,?_⟩
   cases x with
   |none=>
    cases O;have E:v= .slice none 0 0:=E;subst E;exact⟨none,0,[],rfl,az _,rfl,fun h=>absurd rfl h⟩
   |some q=>
    obtain⟨i,a,n⟩:=q;obtain⟨b,kk,p,T,e0,o,hp,B,hsz,z,_,t,rfl,d,U,S,M,_⟩:=ahX R ho E O;have d: @af σ.den l=n:=d;subst d;have I: @af σ.den l≤p -a:=by
     have:a+ @af σ.den l≤p:=z;omega
    refine⟨_,_,_,rfl,I,dR.mono (fun y es hy=>PR.mono (zB h g w) (dG.refl _ _) _ _ _ (Ty.BJ hn hy)) _ _ M,fun J=>⟨b,_,rfl,fun j u Y=> ?_⟩⟩;have Q:0< @af σ.den l:=by
     rcases Nat.eq_zero_or_pos (@af σ.den l)with F |F
     ·exfalso;apply J;rw[F];simp
     ·exact F
    have t:=t (by have:a+ @af σ.den l≤p:=z;omega);subst t;have N:=kU B _ _ j u Y;exact⟨N,.inr (.inr ⟨c,i,U,by rw[N];rfl⟩)⟩
  ·exact(aj e).elim
 ·exact(aj e).elim
theorem aon(R:HR w0 Z0 Zp h g w){σ:Ty}{c:Nat}{x:Option (Nat×Nat×Nat)}{v:Value}(F:CR w w0.heap.size Zp h g (.gs c x) v){K:GK}{H:List (Option K.xp)}(Q:look .dead c h= .gh true K H){Y:List (Option (GK.bf (.data σ)).xp)}(hH:oI K (.bf (.data σ)) H=some Y)(hn:σ.cE=true)
  {r:List σ.den×List (Option (List σ.den))} (I:gsF Y x=some r):
  ∃g1,HR w0 Z0 Zp ((c,.gh true (.bf (.data σ)) r.2)::h) g1 w∧Le Zp h g w ((c,.gh true (.bf (.data σ)) r.2)::h) g1 w∧Fz h g ((c,.gh true (.bf (.data σ)) r.2)::h) g1∧PR w g1.Z Zp (.sl σ) r.1 [v]:=by
 obtain⟨hK,rfl⟩:=jP hH;subst hK
 cases x with
 |none=>
  cases I;have F:v= .slice none 0 0:=F;subst F;have D:∀o,look .dead o h=look .dead o ((c,Ob.gh true (.bf (.data σ)) H)::h):=fun o=>by
   rw[aW]
   split
   ·rename_i F;subst F;exact Q
   ·rfl
  exact⟨g,R.same D,Le.same D,⟨rfl,fun S id b ⟨wr,K,H1,x,e,E,k⟩=>⟨wr,K,H1,x,e,(D S).trans E,k⟩⟩,none,0,[],rfl,az _,rfl,fun h=>absurd rfl h⟩
 |some q=>
  obtain⟨i,a,n⟩:=q;unfold gsF at I;simp only at I
  split at I
  ·rename_i l hl
   cases I;obtain⟨b,kk,p,cur,e0,o,hp,N,hsz,J,_,B,rfl,d,hG,hpos,W,l0,O,_⟩:=ahX R Q F hl;obtain⟨R',L'⟩:=R.aw2 (K:=.bf (.data σ)) Q O hp rfl true rfl;have V:i<H.length:=(List.getElem?_eq_some_iff.1 O).1;refine⟨_,R',L',⟨rfl,fun S id b' ⟨wr,K,H1,x,e,E,k,h3,h4⟩=> ?_⟩,?_⟩
   ·by_cases M:S=c
    ·subst M;rw[aW,if_pos rfl]at E
     cases E;have k:(aX (α:=Option (GK.bf (.data σ)).xp) H i none)[id]? =some (some x):=k
     have t:id≠i:=by intro h;subst h;rw[fl V]at k;cases k
     rw[dq (Ne.symm t)]at k;exact⟨true,.bf (.data σ),H,x,e,Q,k,h3,h4⟩
    ·rw[aW,if_neg (Ne.symm M)]at E;exact⟨wr,K,H1,x,e,E,k,h3,h4⟩
   ·have d: @af σ.den l=n:=d;subst d;have U: @af σ.den l≤p -a:=by
     have:a+ @af σ.den l≤p:=J;omega
    refine⟨_,_,_,rfl,U,dR.mono (fun y es hy=>PR.mono L'.z L'.zp _ _ _ (Ty.BJ hn hy)) _ _ W,fun t=>⟨b,_,rfl,fun j u hj=> ?_⟩⟩;have aB5:0< @af σ.den l:=by
     rcases Nat.eq_zero_or_pos (@af σ.den l)with T |T
     ·exfalso;apply t;rw[T];simp
     ·exact T
    have B:=B (by have:a+ @af σ.den l≤p:=J;omega);subst B;exact⟨kU N _ _ j u hj,.inr ⟨rfl,rfl⟩⟩
  ·cases I
theorem aqp{Z:cD}{e:Ty}{l:List e.den}{bs:Option Addr}{cap:Nat}(Q:PR w Z Zp (.sl e) l [.slice bs (af l) cap]){a b:Nat}(N:a≤b)(R:b≤af l)(m:Nat)(hm:b≤m)(_:0<e.size):
  PR w Z Zp (.sl e) ((List.take b l).drop a:List e.den) [.slice (if m=a then bs else bs.map (·.add (a*e.size))) (b -a) (m -a)]:=by
 obtain⟨I,B,z,F,D,t,o⟩:=Q;simp at F;obtain⟨rfl,rfl⟩:=F;have E:=PR.k (w:=w) (Z:=Z) (Zp:=Zp) e;have K:=(dR.take_drop E b l z t).1;have M:=(dR.take_drop E a _ _ K).2;have c:af ((List.take b l).drop a)=b -a:=by simp;omega
 refine⟨_,_,_,by rw[c],by rw[c];omega,M,fun i=> ?_⟩;have x:z≠[]:=by intro J;subst J;simp at i
 obtain⟨H,y,rfl,O⟩:=o x;have d:m≠a:=by
  intro d;have p:b=a:=by omega
  apply i;rw[List.drop_eq_nil_iff,aC,p];exact Nat.min_le_left _ _
 refine⟨H,y+a*e.size,by simp[d,iQ],fun j u n=> ?_⟩;have q:z[a*e.size+j]? =some u:=by
  rw[List.getElem?_drop,db]at n
  split at n
  ·exact n
  ·cases n
 have:=O _ _ q;rw[eZ];exact this
theorem OQ{a:Act}{env:Env}(b:∀t,AR w base Zp h g (look aJ t env) (a.tmps.getD t undef))(x:Option Operand):
  match x.map (Di env),x.map a.eval with |none,none=>True |some a,some u=>AR w base Zp h g a u |_,_=>False:=by
 cases x with
 |none=>trivial
 |some x=>exact dT b x
end
section
variable {P:Program} {w0:W0} {w:World} {Z0 Zp:cD} {h h':bm} {g:G} {new next base:Nat} {r:A} {L L':Log} {X:Cx}
theorem toBeq{a b:Bool}(h:(a==b)=true):a=b:=by simpa using h
theorem amE(hX:Yk P X.tt)(hV:ae1 P X.Ue)(R:HR w0 Z0 Zp h g w){t:TypeId}{d:TD}(T:eH P t d){x:A}{vx:Value}{lo hi mx:Option A}{vlo vhi p:Option Value}
  (hx:AR w w0.heap.size Zp h g x vx)
  (J:match lo,vlo with |none,none=>True |some a,some u=>AR w w0.heap.size Zp h g a u |_,_=>False)
  (E:match hi,vhi with |none,none=>True |some a,some u=>AR w w0.heap.size Zp h g a u |_,_=>False)
  (Q:match mx,p with |none,none=>True |some a,some u=>AR w w0.heap.size Zp h g a u |_,_=>False)
  (e:(amz X d x lo hi mx).eval next h L=some (r,h',L')):
  ∃u g',(Instr.sliceAt t vx vlo vhi p).run P w= .ok u w∧HR w0 Z0 Zp h' g' w∧Le Zp h g w h' g' w∧Fz h g h' g'∧AR w w0.heap.size Zp h' g' r u:=by
 unfold amz at e
 split at e
 ·rename_i W;have K:p=none:=by cases p with |none=>rfl |some _=>exact Q.elim
  subst K
  split at e
  ·rename_i s;have hs:=hx.c;simp only[CR]at hs;subst hs
   split at e
   ·rename_i a b ha hb;obtain⟨m,O,e⟩:=bG e;obtain⟨rfl,rfl,_⟩:=cd e;obtain⟨I,N,h2,rfl⟩:=Qg O;have hb2:=sf E hb;refine⟨_,g,?_,R,Le.refl _ _ _ _,Fz.refl _ _,AR.qF (v:=.string ((⟨s.toArray⟩:ByteArray).extract a.toNat b.toNat)) ?_⟩
    ·have:=sg (P:=P) (w:=w) (isS:=false) (len:=s.length) (cap:=s.length) (az _) I N h2 (sf J ha) hb2;simp[Instr.sliceAt,Instr.slice,run_underlying (T.string W),Jk,this]
    ·simp only[CR];congr 1;apply ByteArray.ext;apply Array.ext';simp[List.drop_take]
   ·exact(aj e).elim
  ·exact(aj e).elim
 ·rename_i te W;have K:p=none:=by cases p with |none=>rfl |some _=>exact Q.elim
  subst K
  split at e
  ·rename_i c y
   split at e
   ·rename_i V' j F hV' Z Y;have e:=cA e
    split at e
    ·rename_i wr V H ho
     split at e
     ·rename_i azi D;rw[←aj2 azi]at hV';obtain⟨z,M,e⟩:=bG e;obtain⟨rfl,rfl,_⟩:=cd e;have B:=(hV.get hV').sizeOf (P:=P);have hgN:=hx.c
      cases y with
      |none=>
       unfold gsS at M;simp only at M
       split at M
       ·rename_i I
        cases M;obtain⟨rfl,rfl⟩:=I;have hx:vx= .slice none 0 0:=hgN;subst hx;refine⟨.slice none 0 0,g,?_,R,Le.refl _ _ _ _,Fz.refl _ _,AR.qF rfl⟩;have hb2:=sf E Y;have:=sg (P:=P) (w:=w) (isS:=true) (len:=0) (cap:=0) (az _) (Int.le_refl 0) (Int.le_refl 0) (Int.le_refl 0) (sf J Z) hb2;simp at this;simp[Instr.sliceAt,Instr.slice,run_underlying (T.slice W),this,B]
       ·cases M
      |some q=>
       obtain⟨i,a0,n⟩:=q;unfold gsS at M;simp only at M
       split at M
       ·rename_i I
        cases M;obtain⟨I,N,h2⟩:=I;obtain⟨b,k,cap,sz,o,S,hac,hoo,hv⟩:=hgN;have hsz:=R.gh.psz c _ V H i _ ho S;simp only at hsz;subst hsz;subst hv;have:=sg (P:=P) (w:=w) (isS:=true) (len:=n) (cap:=cap -a0) (by omega) I N h2 (sf J Z) (sf E Y)
        by_cases O:cap -a0=j.toNat
        ·refine⟨.slice (some ⟨b,o,none⟩) (F -j).toNat (cap -(a0+j.toNat)),g,?_,R,Le.refl _ _ _ _,Fz.refl _ _,AR.qF ⟨b,k,cap,V.size,o,S,by omega,fun h=>by omega,rfl⟩⟩;have e1:F.toNat -j.toNat=(F -j).toNat:=by omega
         have e2:cap -a0 -j.toNat=cap -(a0+j.toNat):=by omega
         rw[O]at this;simp[Instr.sliceAt,Instr.slice,run_underlying (T.slice W),O,this,B,e1,←e2]
        ·have hoo:=hoo (by omega);refine⟨.slice (some ⟨b,k+(a0+j.toNat)*V.size,none⟩) (F -j).toNat (cap -(a0+j.toNat)),g,?_,R,Le.refl _ _ _ _,Fz.refl _ _,AR.qF ⟨b,k,cap,V.size,_,S,by omega,fun _=>rfl,rfl⟩⟩;have e1:F.toNat -j.toNat=(F -j).toNat:=by omega
         have e2:cap -a0 -j.toNat=cap -(a0+j.toNat):=by omega
         simp[Instr.sliceAt,Instr.slice,run_underlying (T.slice W),this,B,O,e1,←e2,hoo,iQ,cF,eZ]
       ·cases M
     ·exact(aj e).elim
    ·exact(aj e).elim
   ·exact(aj e).elim
  ·rename_i c _;obtain⟨c',N,g1,L1,e,R1,Le1,hg1,hc1⟩:=FU R hx.c e
   split at e
   ·rename_i ety l tk
    split at e
    ·rename_i hse;obtain⟨D,B⟩:=wE hX hse
     split at e
     ·rename_i a b ha hb;obtain⟨m,O,e⟩:=bG e;obtain⟨rfl,rfl,_⟩:=cd e;obtain⟨I,N,h2,rfl⟩:=Qg O;obtain⟨S,_⟩:=hc1;have hp2:=S;obtain⟨bs,cap,us,hv,U,_⟩:=hp2;simp at hv;subst hv;have hsl:=aqp (w:=w) (Zp:=Zp) S (a:=a.toNat) (b:=b.toNat) (by omega) (by omega) cap (by omega) D;refine⟨_,g1,?_,R1,Le1,hg1,AR.qF ⟨hsl,trivial⟩⟩;have:=sg (P:=P) (w:=w) (isS:=true) (len:=af l) (cap:=cap) U I N h2 (sf J ha) (sf E hb);simp[Instr.sliceAt,Instr.slice,run_underlying (T.slice W),this,B]
     ·exact(aj e).elim
    ·exact(aj e).elim
   ·exact(aj e).elim
  ·exact(aj e).elim
 ·rename_i te m0 W;obtain⟨um,rfl⟩:∃um,p=some um:=by cases p with |none=>exact Q.elim |some u=>exact⟨u,rfl⟩
  split at e
  ·rename_i c;obtain⟨c',N,g1,L1,e,R1,Le1,hg1,hc1⟩:=FU R hx.c e
   split at e
   ·rename_i ety l tk
    split at e
    ·rename_i hse;obtain⟨D,B⟩:=wE hX hse
     split at e
     ·rename_i a b m ha hb hm0;obtain⟨_,hmm,e⟩:=bG e;obtain⟨m2,O,e⟩:=bG e;obtain⟨rfl,rfl,_⟩:=cd e;obtain⟨I,N,h2,rfl⟩:=Qg O;obtain⟨h3,h4,h5,_⟩:=Qg hmm;obtain⟨S,_⟩:=hc1;have hp2:=S;obtain⟨bs,cap,us,hv,U,_⟩:=hp2;simp at hv;subst hv;have hsl:=aqp (w:=w) (Zp:=Zp) S (a:=a.toNat) (b:=b.toNat) (by omega) (by omega) m.toNat (by omega) D;rcases sf (x:=some m0) (v:=some um) Q hm0 with⟨h6,_⟩|⟨km,h6⟩
      ·cases h6
      cases h6
      cases hi with
      |none=>cases hb
      |some hi0=>
      cases vhi with
      |none=>exact E.elim
      |some azm=>
      rcases sf (x:=some hi0) (v:=some azm) E hb with⟨h6,_⟩|⟨kb,h6⟩
      ·cases h6
      ·cases h6;refine⟨_,g1,?_,R1,Le1,hg1,AR.qF ⟨hsl,trivial⟩⟩;have:=Yl (P:=P) (w:=w) (isS:=true) (len:=af l) (cap:=cap) (km:=km) (kb:=kb) (m:=m) (a:=a) (b:=b) (by omega) I N h4 (sf J ha) rfl;simp[Instr.sliceAt,Instr.slice,run_underlying (T.slice W),this,B]
     ·exact(aj e).elim
    ·exact(aj e).elim
   ·exact(aj e).elim
  ·exact(aj e).elim
 ·exact(aj e).elim
def ao3(w w1:World):Prop:=w1=w∨w1=w.drew
theorem ao3.heap{w1:World}(i:ao3 w w1):w1.heap=w.heap:=by rcases i with rfl |rfl<;>rfl
theorem ao3.ext{w1:World}(j:ao3 w w1)(i:w0.Extends w):w0.Extends w1:=by
 rcases j with rfl |rfl
 ·exact i
 ·exact i.drew
theorem bY.alloc(R:HR w0 Z0 Zp h g w)(I:¬ g.al new){y:Sem Next}{w1:World}(H:ao3 w w1){cur:Array Value}{e0:TypeId}{v:Value}(x:Ob)(k:Nat)
  (hr:y.run P w= .ok (.value v) (w1.alloc (.cells cur e0)))
  (hx:Le Zp h g w ((new,x)::h) (BD g new (some w.heap.size) k) (w1.alloc (.cells cur e0))→
   (w1.alloc (.cells cur e0)).heap[w.heap.size]? =some (.cells cur e0 (0,0))→
   Qf (w1.alloc (.cells cur e0)) w0.heap.size Zp ((new,x)::h) (BD g new (some w.heap.size) k) new x∧
   AR (w1.alloc (.cells cur e0)) w0.heap.size Zp ((new,x)::h) (BD g new (some w.heap.size) k) r v)
  (D:x.open? =true→k=0):bY P w0 Z0 Zp h g w new y r ((new,x)::h):=by
 have E:(w1.alloc (.cells cur e0)).heap=w.heap.push (.cells cur e0):=by
  show w1.heap.push _=_;rw[H.heap]
 have i:=Le.alloc R I x k E;have j:(w1.alloc (.cells cur e0)).heap[w.heap.size]? =some (.cells cur e0 (0,0)):=by rw[E];simp
 obtain⟨J,K⟩:=hx i j;exact⟨_,v,_,_,hr,.inl rfl,R.alloc I x k E ((H.ext R.ext).alloc _) J D,i,K,fun o D=>D⟩
theorem uK(g:G)(new:Nat)(b:Option Nat)(k:Nat):(BD g new b k).hm new=b:=qd _ _ _
theorem ahY(g:G)(new:Nat)(b:Option Nat)(k:Nat):(BD g new b k).lo new=k:=qd _ _ _
theorem aqq(new:Nat)(x:Ob)(h:bm):look .dead new ((new,x)::h)=x:=by rw[aW,if_pos rfl]
theorem lj{base:Nat}:∀τ:Ty,dM w base Zp h g τ.mU τ.lK
 |.bool=>⟨_,[],rfl,rfl,rfl⟩
 |.int _=>⟨_,[],rfl,rfl,rfl⟩
 |.str=>⟨_,[],rfl,rfl,rfl⟩
 |.sl _=>⟨_,[],rfl,rfl,rfl⟩
 |.pair a b=>dM.append _ _ _ _ (lj a) (lj b)
 |.unit=>rfl
 |.ref _=>⟨_,[],rfl,rfl,rfl⟩
 |.fn _=>⟨_,[],rfl,rfl,rfl⟩
 |.cl _ _=>⟨_,[],rfl,rfl,rfl⟩
theorem ao4(R:HR w0 Z0 Zp h g w)(j:¬ g.al new){t:TypeId}{d:TD}(T:eH P t d){τ:Ty}(hz:d.zero=true)(k:d.ty=some τ):
  bY P w0 Z0 Zp h g w new (do pure (.value (←Instr.alloc t true (.tuple #[])))) (.v false [.ptr new 0]) ((new,.cells τ.mU)::h):=by
 obtain⟨i,z,e,_,_,b,c,_⟩:=T.zeroV hz k;refine bY.alloc R j (w1:=w) (.inl rfl) (cur:=z.cells) (e0:=t) (v:=.pointer (some ⟨w.heap.size,0,none⟩)) _ 0 ?_ (fun l a=>⟨⟨_,_,_,uK _ _ _ _,a,?_⟩,AR.qF ⟨.inr rfl,⟨_,rfl⟩,fun _=>⟨_,uK _ _ _ _,rfl⟩⟩⟩) (fun _=>rfl)
 ·simp[Instr.alloc,zeroValue,typeInfo,e,b,newVar,newRow,newObj,Sem.run]
 ·rw[c];exact lj τ
theorem mP{base:Nat}{b:Bool}{cs:List C}{v:Value}(c:cs.all C.known=true)(hh:VR w base Zp h g b cs v):dM w base Zp h g cs v.cells.toList:=by
 cases b with
 |true=>obtain⟨d,rfl,a⟩:=hh;simpa[Value.cells]using a
 |false=>
  have a:v.oneCell'=true:=dM.one cs [v] c hh v (by simp);have:v.cells= #[v]:=by cases v<;>simp[Value.oneCell']at a<;>rfl
  rw[this];exact hh
theorem asS(R:HR w0 Z0 Zp h g w)(e:¬ g.al new){t:TypeId}{c:Bool}{cs:List C}{v:Value}(d:cs.all C.known=true)(hh:VR w w0.heap.size Zp h g c cs v):
  bY P w0 Z0 Zp h g w new (do pure (.value (←Instr.box t v))) (.v false [.ptr new 0]) ((new,.cells cs)::h):=by
 refine bY.alloc R e (w1:=w) (.inl rfl) (cur:=v.cells) (e0:=t) (v:=.pointer (some ⟨w.heap.size,0,none⟩)) _ 0 ?_ (fun b a=>⟨⟨_,_,_,uK _ _ _ _,a,?_⟩,AR.qF ⟨.inr rfl,⟨_,rfl⟩,fun _=>⟨_,uK _ _ _ _,rfl⟩⟩⟩) (fun _=>rfl)
 ·simp[Instr.box,newVar,newRow,newObj,Sem.run]
 ·exact dM.mono b _ _ (mP d hh)
end
section
variable {P:Program} {w0:W0} {w w':World} {Z0 Zp:cD} {h h':bm} {g:G} {new next base:Nat} {r:A} {L L':Log} {X:Cx}
theorem abx(a:w0.Extends w)(d:w'.os=w.os)(e:w'.tape=w.tape)(j:w'.output=w.output)(k:w.heap.size≤w'.heap.size)(l:∀i:Nat,i<w0.heap.size→¬ w0.B i→w'.heap[i]? =w.heap[i]?):w0.Extends w':=
 ⟨d.trans a.os,e.trans a.tape,j.trans a.output,ei a.size k,fun i c b=>(l i c b).trans (a.block i c b)⟩
theorem setRow_size(w:World)(b:Nat)(c:Array Value):(w.setRow b c).heap.size=w.heap.size:=by simp[World.setRow]
theorem uL(j:w0.Extends w){b:Nat}(d:w0.heap.size≤b∨w0.B b)(c:Array Value):w0.Extends (w.setRow b c):=
 abx j rfl rfl rfl (by rw[setRow_size];exact az _) fun i k a=>setRow_other w b i c (fun e=>d.elim (fun h=>by omega) (fun h=>a (e▸h)))
theorem dR.splitAt{α:Type}{R:α→List Value→Prop}{k:Nat}(M:∀x es,R x es→es.length=k):∀(l:List α) (us:List Value) (i:Nat) (x:α),dR R l us→l[i]? =some x→
  ∃a es c,us=a++es++c∧a.length=i*k∧R x es∧∀y j,R y j→dR R (l.set i y) (a++j++c)
 |[],_,i,x,_,E=>by simp at E
 |z::l,_,0,x,⟨es,D,e,H,J⟩,E=>by
  simp at E;subst E;exact⟨[],es,D,by simpa using e,by simp,H,fun y j K=>⟨j,D,by simp,K,J⟩⟩
 |z::l,_,i+1,x,⟨es,D,e,H,J⟩,E=>by
  obtain⟨a,I,c,N,O,Q,S⟩:=dR.splitAt M l D i x J (by simpa using E);refine⟨es++a,I,c,by simp[e,N],by simp[M _ _ H,O,cF];omega,Q,fun y j K=>⟨es,a++j++c,by simp,H,S y j K⟩⟩
theorem sj{base:Nat}{cs:List C}{vs:List Value}{off:Nat}{new:List C}{a:List Value}(b:dM w base Zp h g cs vs)(c:dM w base Zp h g new a):
  dM w base Zp h g (wA cs off new) (vs.take off++a++vs.drop (off+a.length)):=by
 unfold wA;rw[c.length];exact dM.append _ _ _ _ (dM.append _ _ _ _ (dM.take off _ _ b) c) (dM.drop _ _ _ b)
theorem agx{α:Type}(a b c d:List α)(k:Nat)(e:k+d.length≤b.length):
  (a++b++c).take (a.length+k)++d++(a++b++c).drop (a.length+k+d.length)=a++(b.take k++d++b.drop (k+d.length))++c:=by
 rw[bo a b c,List.take_length_add_append,eZ a.length,List.drop_length_add_append,List.take_append_of_le_length (by omega),List.drop_append_of_le_length e];simp[bo]
theorem AR.skip{base:Nat}:AR w base Zp h g BH undef:=⟨[],rfl,rfl⟩
theorem aby{b off:Nat}{cur:Array Value}{e0:TypeId}{vs:List Value}(a:w.heap[b]? =some (.cells cur e0 (0,0)))(d:off+vs.length≤cur.size)(c:∀v∈vs,v.oneCell'=true):
  (storeCells ⟨b,off,none⟩ vs).run P w= .ok () (w.setRow b (cur.toList.take off++vs++cur.toList.drop (off+vs.length)).toArray):=by
 have:=run_storeCells_at P b off e0 vs 0 cur w a (by simpa using d) c;simpa using this
theorem BK{t:TypeId}{d:TD}(T:eH P t d){b off:Nat}{cur:Array Value}{e0:TypeId}{v:Value}(a:w.heap[b]? =some (.cells cur e0 (0,0)))(i:v.cells.size=d.size)(e:off+v.cells.toList.length≤cur.size)
  (c:∀u∈v.cells.toList,u.oneCell'=true):
  (Instr.storeAt t (.pointer (some ⟨b,off,none⟩)) v).run P w= .ok () (w.setRow b (cur.toList.take off++v.cells.toList++cur.toList.drop (off+v.cells.toList.length)).toArray):=by
 have:=aby (P:=P) a e c;simp only[aI]at this;simp[Instr.storeAt,Instr.sureAddr,storeVar,T.sizeOf,i,this]
theorem amF{α:Type}(cur:List α)(k n:Nat)(A d C c:List α)(off:Nat)(B:k+n≤cur.length)(o:(cur.drop k).take n=A++d++C)(z:off+c.length≤d.length):
  (cur.take (k+A.length+off)++c++cur.drop (k+A.length+off+c.length)).length=cur.length∧((cur.take (k+A.length+off)++c++cur.drop (k+A.length+off+c.length)).drop k).take n=A++(d.take off++c++d.drop (off+c.length))++C:=by
 obtain⟨b,i⟩:∃b,b=cur.take k:=⟨_,rfl⟩;obtain⟨a,e⟩:∃a,a=cur.drop (k+n):=⟨_,rfl⟩;have u:cur=(b++A)++d++(C++a):=by
  have p:=bM k cur;have q:=bM n (cur.drop k);rw[List.drop_drop,o]at q;rw[←q]at p;rw[←p,i,e];simp[bo]
 have l:b.length=k:=by rw[i,aC];omega
 have y:n=(A++d++C).length:=by rw[←o,aC,dE];omega
 have j:=agx (b++A) d (C++a) c off z;rw[←u,ah,l]at j;rw[j];have x:((A++(d.take off++c++d.drop (off+c.length))++C)).length=n:=by
  rw[y];simp only[ah,aC,dE];omega
 have t:b++A++(d.take off++c++d.drop (off+c.length))++(C++a)=b++((A++(d.take off++c++d.drop (off+c.length))++C)++a):=by simp only[bo]
 rw[t];refine⟨?_,?_⟩
 ·rw[ah,ah,x,l,e,dE];omega
 ·rw[List.drop_append_of_le_length (by omega),List.drop_eq_nil_of_le (by omega),bC,List.take_append_of_le_length (by omega),aR (by omega)]
theorem ao5(R:HR w0 Z0 Zp h g w){t:TypeId}{d:TD}(T:eH P t d){a x:A}{va M:Value}(ha:AR w w0.heap.size Zp h g a va)(hx:AR w w0.heap.size Zp h g x M)
  (e:(amy d a x).eval next h L=some (r,h',L')):bY P w0 Z0 Zp h g w new (do Instr.storeAt t va M;pure .skip) r h':=by
 unfold amy at e
 split at e
 ·rename_i o off gg cs
  split at e
  ·rename_i J;simp only[ak]at J;obtain⟨⟨I,hk⟩,hgg⟩:=J;have I:=aA I;have e:=cA e
   split at e
   ·rename_i old p
    split at e
    ·rename_i B;have B:=eD B;have e:=dS e;have e:=gH e
     cases e;obtain⟨hal,hp,hd⟩:=ha.c;obtain⟨b,hb,rfl⟩:=hd (by rw[p];simp);have hob:=R.ob o;rw[p]at hob;obtain⟨b',j,e0,hb',n,hcs⟩:=hob;rw[hb]at hb';cases hb';have u:=mP hk hx;have U:=u.length;have hcl:=hcs.length;simp only[aI]at hcl U;have E:=dM.one cs _ hk u;have hbb:=R.home o b (by rw[p];simp) hb;have F:=BK (P:=P) T (off:=off) (v:=M) n (by omega) (by simp only[aI];omega) E;obtain⟨R',S⟩:=R.write (w':=w.setRow b (j.toList.take off++M.cells.toList++j.toList.drop (off+M.cells.toList.length)).toArray) (x:=.cells (wA old off cs)) hb (by rw[p];rfl) (by rw[p];exact .inr (.inr (.inl ⟨_,_,rfl,rfl⟩))) rfl
      (fun c J=>setRow_other w b c _ J) (setRow_size _ _ _) (uL R.ext (.inl hbb.1) _)
      (fun L1=>⟨b,_,e0,hb,setRow_heap w b j _ e0 _ n,by
       have:=sj (off:=off) (dM.mono L1 _ _ hcs) (dM.mono L1 _ _ u);simpa using this⟩)
     exact⟨_,undef,_,_,by simp[F],.inr ⟨rfl,rfl⟩,R',S,AR.skip,fun o p=> .inl p⟩
    ·exact(aj e).elim
   ·exact(aj e).elim
  ·exact(aj e).elim
 ·rename_i o i c gg cs
  split at e
  ·rename_i J;simp only[ak]at J;obtain⟨⟨I,hk⟩,hgg⟩:=J;have I:=aA I;have u:=mP hk hx;have E:=dM.one cs _ hk u;obtain⟨cs',h1,g1,L1,e,W,N,hg1,D⟩:=eX cs _ h g L _ _ R u e;have Z:=AR.mono N _ _ ha;have e:=cA e
   split at e
   ·rename_i O l p;obtain⟨x0,hx0,e⟩:=bG e
    split at e
    ·rename_i B;have B:=eD B
     split at e
     ·rename_i y hy;have e:=dS e;have e:=gH e
      cases e;obtain⟨hal,hp,hd⟩:=Z.c;obtain⟨b,hb,rfl⟩:=hd O (af l) (by rw[p];rfl);have hob:=W.ob o;rw[p]at hob;obtain⟨h0,h00,b',j,e0,hb',n,hpr⟩:=hob;rw[hb]at hb';cases hb';have U:=D.length;have hbb:=W.home o b (by rw[p];simp) hb;obtain⟨A1,es,C1,hsp,hA1,hxe,ave⟩:=dR.splitAt (PR.k O) l _ i x0 hpr hx0;have hes:=PR.k _ _ _ hxe;have Q:=u.length;simp only[aI]at U Q;have hlen:i*O.size+c+M.cells.toList.length≤j.size:=by
       have h9:=congrArg af hsp;simp only[aI,ah]at h9 ⊢;omega
      have F:=BK (P:=P) T (off:=i*O.size+c) (v:=M) n (by omega) hlen E;obtain⟨R',S⟩:=W.write (w':=w.setRow b (j.toList.take (i*O.size+c)++M.cells.toList++j.toList.drop (i*O.size+c+M.cells.toList.length)).toArray) (x:=.row O (l.set i y)) hb (by rw[p];rfl)
       (by rw[p];exact .inr (.inr (.inr (.inl ⟨_,rfl,by simp[jB]⟩)))) rfl
       (fun c J=>setRow_other w b c _ J) (setRow_size _ _ _) (uL W.ext (.inl hbb.1) _)
       (fun L2=>⟨h0,h00,b,_,e0,hb,setRow_heap w b j _ e0 _ n,by
        have azo:=dM.ar2 (base:=w0.heap.size) (h:=h1) (g:=g1) O x0 es hxe;have hcc:=sj (off:=c) azo D;have hyp:=ez h00 hcc hy;have Y:=ave y _ hyp;have heq:=agx A1 es C1 M.cells.toList c (by simp only[aI];omega);rw[hA1,←hsp]at heq;rw[←heq]at Y;exact dR.mono (fun x es hx=>PR.mono L2.z L2.zp _ _ _ hx) _ _ (by simpa using Y)⟩)
      exact bY.behind N (fun o p=>hg1.al▸p) ⟨_,undef,_,_,by simp[F],.inr ⟨rfl,rfl⟩,R',S,AR.skip,fun o p=> .inl p⟩
     ·exact(aj e).elim
    ·exact(aj e).elim
   ·exact(aj e).elim
  ·exact(aj e).elim
 ·rename_i c off x gg cs
  split at e
  ·rename_i J;simp only[ak]at J;obtain⟨⟨I,hk⟩,hgg⟩:=J;have I:=aA I;have u:=mP hk hx;have E:=dM.one cs _ hk u;obtain⟨cs',h1,g1,L1,e,W,N,hg1,D⟩:=eX cs _ h g L _ _ R u e;have Z:=AR.mono N _ _ ha;obtain⟨id,hid,e⟩:=bG e;rw[hid]at Z;have e:=cA e
   split at e
   ·rename_i V H p;obtain⟨y,hy,e⟩:=bG e
    split at e
    ·rename_i B;rw[ak]at B;have aw6:=eD B.1
     split at e
     ·rename_i z hz;obtain⟨H2,hH2,e⟩:=bG e;have e:=dS e;have e:=gH e
      cases e;obtain⟨_,rfl⟩:=agw hH2;obtain⟨q,hq,hq0,rfl⟩:=Z.c;obtain⟨h0,b,cap,j,e0,hp,n,hcs⟩:=W.gh.xp c true (.st V) H id y p (pu hy);rw[hp]at hq;cases hq;have U:=D.length;have hcl:=hcs.length;have Q:=u.length;rw[VT.gI]at hcl;simp only[aI]at hcl U Q;have F:=BK (P:=P) T (off:=off) (v:=M) n (by omega) (by simp only[aI];omega) E;obtain⟨R',S⟩:=W.uG (w':=w.setRow b (j.toList.take off++M.cells.toList++j.toList.drop (off+M.cells.toList.length)).toArray) (K:=.st V) (x:=z) p (pu hy) hp rfl (fun c J=>setRow_other w b c _ J) (setRow_size _ _ _)
       (uL W.ext (W.gh.own c (.st V) H id y _ p (pu hy) hp) _) (fun L2=>⟨h0,b,cap,_,e0,hp,setRow_heap w b j _ e0 _ n,by
        have:=sj (off:=off) (dM.mono L2 _ _ hcs) (dM.mono L2 _ _ D);have:=VT.rM B.2 this hz;simpa using this⟩)
      exact bY.behind N (fun o p=>hg1.al▸p) ⟨_,undef,_,_,by simp[F],.inr ⟨rfl,rfl⟩,R',S,AR.skip,fun o p=> .inl p⟩
     ·exact(aj e).elim
    ·exact(aj e).elim
   ·exact(aj e).elim
  ·exact(aj e).elim
 ·rename_i c id ix off gg cs
  split at e
  ·rename_i J;simp only[ak]at J;obtain⟨⟨I,hk⟩,hgg⟩:=J;have I:=aA I;have u:=mP hk hx;have E:=dM.one cs _ hk u;obtain⟨cs',h1,g1,L1,e,W,N,hg1,D⟩:=eX cs _ h g L _ _ R u e;have Z:=AR.mono N _ _ ha;have e:=cA e
   split at e
   ·rename_i V H p;obtain⟨l,hl,e⟩:=bG e;obtain⟨y,hy,e⟩:=bG e
    split at e
    ·rename_i B;rw[ak]at B;have aw6:=eD B.1
     split at e
     ·rename_i z hz;obtain⟨H2,hH2,e⟩:=bG e;have e:=dS e;have e:=gH e
      cases e;obtain⟨_,rfl⟩:=agw hH2;obtain⟨b,k,cap,sz',hq,rfl⟩:=Z.c;obtain⟨h0,b2,k2,aCa,j,e0,hp,n,azr,hll,hmx,hpr⟩:=W.gh.xp c true (.bf V) H id l p (pu hl);rw[hp]at hq;cases hq;have U:=D.length;have Q:=u.length;simp only[aI]at U Q;have hkk:∀(x:V.den) (es:List Value),dM w w0.heap.size Zp h1 g1 (V.cells x) es→es.length=V.size:=fun x es hx=>(dM.length _ _ hx).trans (VT.gI V x);obtain⟨A1,es,C1,hsp,hA1,hxe,ave⟩:=dR.splitAt hkk l _ ix y hpr hy;have hes:=hkk _ _ hxe;have hmul: @af V.den l*V.size≤cap*V.size:=cv _ hll;have hcl:j.toList.length=j.size:=aI;have hms:=amF j.toList k (@af V.den l*V.size) A1 es C1 M.cells.toList off (by omega) hsp (by rw[aI];omega);rw[hA1]at hms;have aAP:ix*V.size+V.size≤@af V.den l*V.size:=by
       have h9:=congrArg af hsp;simp only[ah,aC,dE]at h9;omega
      have F:=BK (P:=P) T (off:=k+ix*V.size+off) (v:=M) n (by omega) (by simp only[aI];omega) E;obtain⟨R',S⟩:=W.uG (w':=w.setRow b (j.toList.take (k+ix*V.size+off)++M.cells.toList++j.toList.drop (k+ix*V.size+off+M.cells.toList.length)).toArray) (K:=.bf V) (x:=(l.set ix z:List V.den)) p (pu hl) hp rfl (fun c J=>setRow_other w b c _ J) (setRow_size _ _ _)
       (uL W.ext (W.gh.own c (.bf V) H id l _ p (pu hl) hp) _) (fun L2=>⟨h0,b,k,cap,_,e0,hp,setRow_heap w b j _ e0 _ n,by
        rw[dZ,hms.1,hcl];exact azr,by simpa using hll,hmx,by
        have hcc:=sj (off:=off) hxe D;have hyp:=VT.rM B.2 hcc hz;have Y:=ave z _ hyp;have e8: @af V.den (l.set ix z)= @af V.den l:=aO;rw[e8];show dR _ _ (List.take _ (List.drop k (List.take (k+ix*V.size+off) j.toList++M.cells.toList++List.drop (k+ix*V.size+off+M.cells.toList.length) j.toList)));rw[hms.2];exact dR.mono (fun x es hx=>dM.mono L2 _ _ hx) _ _ Y⟩)
      exact bY.behind N (fun o p=>hg1.al▸p) ⟨_,undef,_,_,by simp[F],.inr ⟨rfl,rfl⟩,R',S,AR.skip,fun o p=> .inl p⟩
     ·exact(aj e).elim
    ·exact(aj e).elim
   ·exact(aj e).elim
  ·exact(aj e).elim
 ·exact(aj e).elim
end
section
variable {P:Program} {w0:W0} {w w':World} {Z0 Zp:cD} {h h':bm} {g:G} {new next base:Nat} {r:A} {L L':Log} {X:Cx}
theorem FW{Z:cD}:∀τ:Ty,τ.cE=true→τ.Jj=true→PR w Z Zp τ τ.zero τ.lK
 |.bool,_,_=>rfl
 |.int _,_,_=>rfl
 |.str,_,_=>rfl
 |.sl e,_,_=>⟨none,0,[],rfl,az _,rfl,fun h=>absurd rfl h⟩
 |.pair a b,c,d=>by
  simp[Ty.cE]at c;simp[Ty.Jj]at d;exact⟨_,_,rfl,FW a c.1 d.1,FW b c.2 d.2⟩
 |.unit,_,_=>rfl
 |.ref _,c,_=>by simp[Ty.cE]at c
 |.fn _,_,d=>by simp[Ty.Jj]at d
theorem fX{b:Nat}{n:Int}{k:Nat}(hx:Bx b n=some k):0≤n∧n.toNat*b≤room∧n≤140737488355328∧k=n.toNat:=by
 unfold Bx at hx
 split at hx
 ·rename_i a;cases hx;exact⟨a.1,a.2.1,a.2.2,rfl⟩
 ·cases hx
theorem dR.replicate{α:Type}{R:α→List Value→Prop}{x:α}{i:List Value}(hx:R x i):∀n,dR R (ao n x) (ao n i).flatten
 |0=>by simp[dR]
 |n+1=>by rw[cH,cH,ea];exact⟨i,_,rfl,hx,dR.replicate hx n⟩
theorem agy(z:Array Value)(hz:0<z.size)(n:Nat):(madeCells z (n*z.size)).toList=(ao n z.toList).flatten:=by
 induction n with
 |zero=>simp[madeCells]
 |succ n k=>
  rw[List.replicate_succ',List.flatten_append,←k];apply List.ext_getElem?;intro i;have e:(n+1)*z.size=n*z.size+z.size:=by rw[cF,Nat.one_mul]
  rw[List.getElem?_append];simp only[madeCells,aI,Array.size_map,Array.size_range,cC,Array.getElem?_map,Array.getElem?_range,ea,List.flatten_nil,cG]
  by_cases c:i<n*z.size
  ·have a:i<(n+1)*z.size:=by omega
   simp[c,a]
  ·simp only[c,if_false]
   by_cases a:i<(n+1)*z.size
   ·have b:i -n*z.size<z.size:=by omega
    have j:i % z.size=i -n*z.size:=by
     have l:z.size*n=n*z.size:=Nat.mul_comm _ _;have:i=i -n*z.size+z.size*n:=by omega
     have d:(i -n*z.size+z.size*n) % z.size=i -n*z.size:=by rw[Nat.add_mul_mod_self_left,Nat.mod_eq_of_lt b]
     rw[←this]at d;exact d
    simp[a,j,b]
   ·have b:¬ i -n*z.size<z.size:=by omega
    simp[a,b]
theorem aqs(R:HR w0 Z0 Zp h g w)(N:¬ g.al new){t e:TypeId}{d a:TD}(T:eH P t d)(x:eH P e a)(I:d.desc= .slice e){τ:Ty}(hz:a.zero=true)(B:a.ty=some τ)(O:0<a.size)
  {E D:IntKind} {n:Int} {k:Nat} (M:Bx a.bytes n=some k):
  bY P w0 Z0 Zp h g w new (do pure (.value (←Instr.makeSlice t (.int E n) (.int D n)))) (.v false [.vec new]) ((new,.row τ (ao k τ.zero))::h):=by
 obtain⟨i,z,J,K,q,u,l,_⟩:=x.zeroV hz B;obtain⟨y,F,Y,rfl⟩:=fX M;obtain⟨V,W,o,b⟩:=x.Um B;have Q:z.cells.size=a.size:=by
  have:=congrArg af l;rw[aI,PR.length τ _ _ (FW (w:=w) (Z:=Z0) (Zp:=Zp) τ o b)]at this;omega
 have H:(i.bytes:Int)*n≤281474976710656:=by
  have h3:n.toNat*i.bytes≤140737488355328:=by rw[q];exact F
  have h4:((n.toNat*i.bytes:Nat):Int)=(i.bytes:Int)*n:=by rw[Int.natCast_mul,Int.toNat_of_nonneg y,aa5]
  omega
 have j:=run_make (P:=P) w t e i z (T.slice I) J u E D n n y (Int.le_refl _) H (by omega);refine bY.alloc R N (w1:=w) (.inl rfl) (cur:=madeCells z.cells (n.toNat*i.size)) (e0:=e) (v:=.slice (some ⟨w.heap.size,0,none⟩) n.toNat n.toNat) _ 0 (by simp[j]) (fun S c=>⟨⟨by omega,o,_,_,_,uK _ _ _ _,c,?_⟩,AR.qF ⟨.inr rfl,⟨_,_,_,rfl⟩,fun U n' p=> ?_⟩⟩) (fun _=>rfl)
 ·have:i.size=z.cells.size:=by omega
  rw[this,agy z.cells (by omega),l];exact dR.replicate (FW τ o b) _
 ·rw[aqq]at p;simp[jB]at p;exact⟨_,uK _ _ _ _,by rw[←p.2]⟩
theorem AR.own{e:Ty}{l:List e.den}{b cap:Nat}{cur:Array Value}{e0:TypeId}{base:Nat}(H:g.al new)(I:g.hm new=some b)(J:g.lo new=af l*e.size)(Q:base≤b)
  (D:w.heap[b]? =some (.cells cur e0 (0,0))) (y:af l≤cap) (M:cap≤maxLen) (O:cur.size=cap*e.size) (N:dR (PR w g.Z Zp e) l (cur.toList.take (af l*e.size)))
  (hz:∀i,i<af l*e.size→g.Z b i):AR w base Zp h g (.v false [.sl e l (.own new)]) (.slice (some ⟨b,0,none⟩) (af l) cap):=by
 refine AR.qF ⟨⟨_,cap,_,rfl,y,N,fun _=>⟨b,0,rfl,fun j u E=> ?_⟩⟩,H,fun _=> .inr ⟨b,cap,cur,e0,I,rfl,D,y,M,O,Q,J⟩⟩;rw[dJ,iu D];rw[db]at E
 split at E
 ·rename_i K;exact⟨by simpa using E,hz j K⟩
 ·cases E
theorem Qh(g:G)(new:Nat)(b:Option Nat)(k:Nat):(BD g new b k).al new:=.inr rfl
theorem ao7(R:HR w0 Z0 Zp h g w)(K:¬ g.al new){t e:TypeId}{d c:TD}(T:eH P t d)(p:eH P e c)(E:d.desc= .slice e){τ:Ty}(hz:c.zero=true)(u:c.ty=some τ)
  {y x:IntKind} {n:Int} {k:Nat} (J:Bx c.bytes n=some k):
  bY P w0 Z0 Zp h g w new (do pure (.value (←Instr.makeSlice t (.int y 0) (.int x n)))) (.v false [.sl τ [] (.own new)]) ((new,.tok)::h):=by
 obtain⟨i,z,H,I,j,o,M,_⟩:=p.zeroV hz u;obtain⟨q,B,U,rfl⟩:=fX J;obtain⟨O,Q,S,F⟩:=p.Um u;have D:(i.bytes:Int)*n≤281474976710656:=by
  have V:n.toNat*i.bytes≤140737488355328:=by rw[j];exact B
  have W:((n.toNat*i.bytes:Nat):Int)=(i.bytes:Int)*n:=by rw[Int.natCast_mul,Int.toNat_of_nonneg q,aa5]
  omega
 have b:=run_make (P:=P) w t e i z (T.slice E) H o y x 0 n (Int.le_refl _) q D (by omega);refine bY.alloc R K (w1:=w) (.inl rfl) (cur:=madeCells z.cells (n.toNat*i.size)) (e0:=e) (v:=.slice (some ⟨w.heap.size,0,none⟩) 0 n.toNat) _ 0 (by simp[b]) (fun N a=>⟨trivial,?_⟩) (fun _=>rfl);have:=AR.own (h:=(new,.tok)::h) (base:=w0.heap.size) (e:=τ) (l:=[]) (Zp:=Zp) (Qh g new (some w.heap.size) 0) (uK _ _ _ _) (by rw[ahY];simp) R.im a (cap:=n.toNat) (by simp) (by simp only[maxLen];omega)
  (by rw[size_madeCells];congr 1;omega) (by simp[dR]) (by simp)
 simpa using this
theorem abz{τ:Ty}(D:τ.cE=true):∀(ps:List (Nat×A)) (vs:List Value) (n:Nat) (h:bm) (g:G) (L:Log) (k:List τ.den→HM) (b:A×bm×Log),HR w0 Z0 Zp h g w→
  dR (fun(p:Nat×A) H=>∃u,H=[u]∧AR w w0.heap.size Zp h g p.2 u) ps vs→(abj τ n ps k).eval next h L=some b→
  ∃l o g1 L1,(k l).eval next o L1=some b∧HR w0 Z0 Zp o g1 w∧Le Zp h g w o g1 w∧Fz h g o g1∧af l=ps.length∧dR (PR w g1.Z Zp τ) l (vs.flatMap fun v=>v.cells.toList)∧
   ps.map (·.1)=(List.range' n ps.length)∧∀v∈vs,v.cells.size=τ.size
 |[],vs,n,h,g,L,k,b,R,j,e=>by
  simp only[dR]at j;subst j;exact⟨[],h,g,L,e,R,Le.refl _ _ _ _,Fz.refl _ _,rfl,rfl,rfl,by simp⟩
 |(i,a)::ps,vs,n,h,g,L,k,b,R,⟨H,F,e1,⟨u,e2,S⟩,O⟩,e=>by
  subst e2;subst e1;unfold abj at e
  split at e
  ·rename_i d;cases d
  ·rename_i i' gg W r' d
   cases d
   split at e
   ·rename_i I;simp only[ak]at I;have hi:=aA I.1.1;subst hi;have J:=mP I.2 S;obtain⟨Y,o,g1,L1,e,U,q,K,t⟩:=eX W _ h g L _ _ R J e
    split at e
    ·rename_i x hx;have E:=ez D t hx;obtain⟨l,h2,g2,T,e,V,c,M,y,N,B,Q⟩:=abz D ps F _ o g1 L1 _ b U
      (dR.mono (fun p H ⟨u,e,S⟩=>⟨u,e,AR.mono q _ _ S⟩) _ _ O) e
     refine⟨x::l,h2,g2,T,e,V,q.trans c,K.trans M,by simp[y],?_,?_,?_⟩
     ·simp only[List.singleton_append,List.flatMap_cons];exact⟨_,_,rfl,PR.mono c.z c.zp _ _ _ E,N⟩
     ·simp only[cb,bg,List.range'_succ,B]
     ·intro v j;simp at j;rcases j with rfl |j
      ·have:=PR.length _ _ _ E;simpa using this
      ·exact Q v j
    ·exact(aj e).elim
   ·exact(aj e).elim
  ·exact(aj e).elim
theorem ae3{vs:List Value}:∀(ps:List (Nat×Value)) (n:Nat),ps.map (·.1)=List.range' n ps.length→ps.map (·.2)=vs→ps=(vs.zipIdx n).map fun x=>(x.2,x.1):=by
 induction vs with
 |nil=>intro ps n _ a;cases ps with |nil=>rfl |cons _ _=>simp at a
 |cons v vs c=>
  intro ps n b a
  cases ps with
  |nil=>simp at a
  |cons p ps=>
   simp only[cb,List.cons.injEq]at a;simp only[cb,bg,List.range'_succ,List.cons.injEq]at b;simp only[List.zipIdx_cons,cb];rw[←c ps (n+1) b.2 a.2];congr 1
   cases p;simp_all
theorem aj5{base:Nat}{env:Env}{a:Act}(b:∀t,AR w base Zp h g (look aJ t env) (a.tmps.getD t undef)):∀(ps:List (Nat×Operand)),
  dR (fun(p:Nat×A) c=>∃u,c=[u]∧AR w base Zp h g p.2 u) (ps.map fun(i,x)=>(i,Di env x)) (ps.map fun p=>a.eval p.2)
 |[]=>rfl
 |(_,x)::ps=>⟨[a.eval x],_,rfl,⟨_,rfl,dT b x⟩,aj5 b ps⟩
theorem abA(R:HR w0 Z0 Zp h g w)(hn:¬ g.al new){t e:TypeId}{d q:TD}(T:eH P t d)(N:eH P e q)(hd:d.desc= .slice e){τ:Ty}(hτ:q.ty=some τ){len:Nat}{parts:Array (Nat×Operand)}
  {env:Env} {a:Act} (he:∀t,AR w w0.heap.size Zp h g (look aJ t env) (a.tmps.getD t undef))
  (hc:(bT parts.size len&&Nat.ble (len*q.size) 16777216&&Nat.blt 0 q.size&&(len==0||q.zero))=true)
  (e1:(abj τ 0 (parts.toList.map fun(i,x)=>(i,Di env x)) fun l=> .set new .tok (oF (.sl τ l (.own new)))).eval next h L=some (r,h',L')):
  bY P w0 Z0 Zp h g w new (do pure (.value (←Instr.buildSlice t len (parts.map fun(i,x)=>(i,a.eval x))))) r h':=by
 simp only[ak]at hc;obtain⟨⟨⟨c,B⟩,j⟩,O⟩:=hc;have c:=aA c;have B:=eD B;have j:0<q.size:=by simpa[eV]using j
 obtain⟨t1,t2,t3,t4⟩:=N.Um hτ;obtain⟨l,h1,g1,L1,e2,R1,M,E,b,H,u,V⟩:=abz t3 _ _ 0 h g L _ _ R (aj5 he parts.toList) e1;have e3:=dS e2;obtain⟨rfl,rfl,_⟩:=cd e3;have U:¬ g1.al new:=by rw[E.al];exact hn
 simp only[dc,aI,c]at b;have hvs:(parts.toList.map fun p=>a.eval p.2).length=len:=by simp[c]
 have y:(parts.map fun(i,x)=>(i,a.eval x)).toList=((parts.toList.map fun p=>a.eval p.2).zipIdx 0).map fun x=>(x.2,x.1):=by
  apply ae3
  ·simp only[Array.toList_map,List.map_map,dc,aI];simp only[List.map_map,dc,aI]at u;exact u
  ·simp only[Array.toList_map,List.map_map];rfl
 have D:=dR.length (PR.k τ) _ _ H;refine bY.behind M (fun o ho=>E.al▸ho) ?_;have J:(Instr.buildSlice t len (parts.map fun(i,x)=>(i,a.eval x))).run P w= .ok (.slice (some ⟨w.heap.size,0,none⟩) len len) (w.alloc (.cells ((parts.toList.map fun p=>a.eval p.2).flatMap fun v=>v.cells.toList).toArray e)):=by
  obtain⟨ie,Q,his,_⟩:=N.inf
  by_cases h0:len=0
  ·subst h0;have:parts= #[]:=Array.eq_empty_of_size_eq_zero c;subst this;simp[Instr.buildSlice,run_underlying (T.slice hd),Go.sizeOf,typeInfo,Q,Instr.fill,newRow,Array.range_zero']
  ·have Y:q.zero=true:=by simpa[h0]using O
   obtain⟨i,z,K,n,hib,S,W,_⟩:=N.zeroV Y hτ;have hzs:z.cells.size=q.size:=by
    have:=congrArg af W;rw[aI,PR.length τ _ _ (FW (w:=w) (Z:=Z0) (Zp:=Zp) τ t3 t4)]at this;omega
   have I:¬ len*i.size=0:=by rw[n];exact Nat.ne_of_gt (Nat.mul_pos (by omega) j)
   refine run_buildSlice w t e len _ _ i z (T.slice hd) K S (by rw[n];omega) I ?_;rw[y,n];exact Go.Great.fill_whole j _ _ (fun v hv=>by rw[V v hv,t1]) (by simp[c])
 refine bY.alloc R1 U (w1:=w) (.inl rfl) (cur:=((parts.toList.map fun p=>a.eval p.2).flatMap fun v=>v.cells.toList).toArray) (e0:=e) (v:=.slice (some ⟨w.heap.size,0,none⟩) len len) _ (len*τ.size) (by simp[J]) (fun L2 F=>⟨trivial,?_⟩) (fun h=>by cases h);have:=AR.own (h:=(new,.tok)::h1) (base:=w0.heap.size) (e:=τ) (l:=l) (Zp:=Zp) (Qh g1 new (some w.heap.size) (len*τ.size)) (uK _ _ _ _) (by rw[ahY,b]) R.im F (cap:=len) (by omega)
  (by
   have:len*1≤len*q.size:=Nat.mul_le_mul_left _ j;simp only[maxLen];omega) (by rw[dZ,D,b])
  (by
   rw[←D];simp only[ch];exact dR.mono (fun x es hx=>PR.mono L2.z L2.zp _ _ _ hx) _ _ H)
  (fun i K=> .inr ⟨rfl,by rw[b]at K;exact K⟩)
 rw[b]at this;exact this
end
section
variable {P:Program} {w0:W0} {w w':World} {Z0 Zp:cD} {h h':bm} {g:G} {new next base:Nat} {r:A} {L L':Log} {X:Cx}
theorem ahZ(off:Nat)(v:Array Value)(cells:Array Value)(d:off+v.size≤cells.size):
  (v.zipIdx.foldl (fun cs (x:Value×Nat)=>cs.setIfInBounds (off+x.2) x.1) cells).toList=cells.toList.take off++v.toList++cells.toList.drop (off+v.size):=by
 have e:v.zipIdx.foldl (fun cs (x:Value×Nat)=>cs.setIfInBounds (off+x.2) x.1) cells=(v.toList.zipIdx 0).foldl (fun cs (x:Value×Nat)=>cs.setIfInBounds (off+x.2) x.1) cells:=by
  rw[←Array.foldl_toList,Array.toList_zipIdx]
 rw[e];obtain⟨i,a⟩:=Go.Great.foldl_set off v.toList 0 cells;apply List.ext_getElem?;intro k;rw[cC,a k];simp only[Nat.add_zero,aI,List.getElem?_append,ah,aC]
 by_cases b:k<off
 ·rw[if_neg (by omega),if_pos (by omega),if_pos (by omega),db,if_pos b,cC]
 ·by_cases c:k<off+v.size
  ·rw[if_pos ⟨by omega,c,by omega⟩,if_pos (by omega),if_neg (by omega)];congr 1;omega
  ·rw[if_neg (by omega),if_neg (by omega),List.getElem?_drop,cC];congr 1;omega
theorem Qi{base:Nat}{F pc:Nat→Option (Nat×Nat)}(D:∀i q,F i=some q→pc i=some q){env:Env}{a:Act}(B:∀t,AR w base Zp h g (look aJ t env) (a.tmps.getD t undef)):
  ∀(ps:List (Nat×Operand)) (cs c:List C) (cells:Array Value),dM w base Zp h g cs cells.toList→Qa F cs (ps.map fun(i,x)=>(i,Di env x))=some c→
   ∃b,Instr.fill pc cells (ps.map fun(i,x)=>(i,a.eval x))=some b∧dM w base Zp h g c b.toList
 |[],cs,c,cells,n,e=>by
  cases e;exact⟨cells,rfl,n⟩
 |(i,x)::ps,cs,c,cells,n,e=>by
  simp only[cb]at e ⊢;have E:=dT B x;unfold Qa at e
  split at e
  ·rename_i j;cases j
  ·rename_i N J O Q j;simp only[List.cons.injEq,Prod.mk.injEq]at j;obtain⟨⟨rfl,z⟩,rfl⟩:=j
   split at e
   ·rename_i off size u
    split at e
    ·rename_i k;simp only[ak]at k;have K:=aA k.1.1;have M:=eD k.1.2;rw[z]at E;have l:=mP k.2 E;have p:=l.length;have o:=n.length;simp only[aI]at p o;have y:=ahZ off (a.eval x).cells cells (by omega);have d:=sj (off:=off) n l;simp only[aI]at d;rw[←y]at d;obtain⟨b,H,I⟩:=Qi D B ps _ c _ d e;refine⟨b,?_,I⟩;unfold Instr.fill;rw[D _ _ u];simp only;rw[if_neg (by simp;omega)];exact H
    ·cases e
   ·cases e
  ·rename_i j
   cases e
theorem OR(k:Yk P X.tt):∀(a:List Field) (pl:List (Nat×Nat)),
  uH (fun f:TypeId×Nat=>match cW f.1 X.tt with |some j=>some (f.2,j.size)|none=>none) (a.map fun x=>(x.type,x.offset))=some pl→
  a.mapM (fun f=>(P.info? f.type).map fun i=>(f.offset,i.size))=some pl
 |[],pl,e=>by simp[uH]at e;subst e;rfl
 |f::a,pl,e=>by
  simp only[cb,uH]at e
  cases c:cW f.type X.tt with
  |none=>simp[c]at e
  |some j=>
   simp only[c]at e
   split at e
   ·rename_i l b
    cases e;obtain⟨i,n,d,_⟩:=(k.get c).inf;have o:=OR k a l b;simp[List.mapM_cons,n,d,o]
   ·cases e
theorem ah0(B:Yk P X.tt)(R:HR w0 Z0 Zp h g w){t:TypeId}{d:TD}(T:eH P t d){o:List (TypeId×Nat)}(E:d.desc= .struct o)(hz:d.zero=true){τ:Ty}(M:d.ty=some τ){pl:List (Nat×Nat)}
  (c:uH (fun f:TypeId×Nat=>match cW f.1 X.tt with |some p=>some (f.2,p.size)|none=>none) o=some pl) {parts:Array (Nat×Operand)}
  {env:Env} {a:Act} (F:∀t,AR w w0.heap.size Zp h g (look aJ t env) (a.tmps.getD t undef)) {cs:List C} (H:Qa (fun i=>pl[i]?) τ.mU (parts.toList.map fun(i,x)=>(i,Di env x))=some cs):
  bY P w0 Z0 Zp h g w new (do pure (.value (←Instr.build t (parts.map fun(i,x)=>(i,a.eval x))))) (.v true cs) h:=by
 obtain⟨f,K,e⟩:=T.struct E;obtain⟨i,z,I,_,_,j,n,_⟩:=T.zeroV hz M;have l:dM w w0.heap.size Zp h g τ.mU z.cells.toList:=by rw[n];exact lj τ
 rw[←e]at c;have k:=OR B _ _ c;obtain⟨b,u,y⟩:=Qi (pc:=fun i=>pl.toArray[i]?) (fun i q J=>by simpa using J) F parts.toList _ _ z.cells l H;refine bY.pure R (v:=.agg b) ?_ ⟨b.toList,by simp,y⟩;have D:P.built t (parts.map fun(i,x)=>(i,a.eval x)).toList=some b:=by
  unfold Program.built;simp only[I,K,j,k,Array.toList_map];exact u
 simp[run_build w t _ b D]
theorem aj6(R:HR w0 Z0 Zp h g w){t e:TypeId}{d j:TD}(T:eH P t d)(B:eH P e j){n:Nat}(H:d.desc= .array n e)(hz:d.zero=true){τ:Ty}(M:d.ty=some τ){parts:Array (Nat×Operand)}
  {env:Env} {a:Act} (I:∀t,AR w w0.heap.size Zp h g (look aJ t env) (a.tmps.getD t undef)) {cs:List C}
  (J:Qa (fun i=>match Nat.blt i n with |true=>some (i*j.size,j.size)|false=>none) τ.mU (parts.toList.map fun(i,x)=>(i,Di env x))=some cs):
  bY P w0 Z0 Zp h g w new (do pure (.value (←Instr.build t (parts.map fun(i,x)=>(i,a.eval x))))) (.v true cs) h:=by
 obtain⟨i,z,K,_,_,l,u,_⟩:=T.zeroV hz M;obtain⟨y,k,c,_⟩:=B.inf;have p:dM w w0.heap.size Zp h g τ.mU z.cells.toList:=by rw[u];exact lj τ
 obtain⟨b,D,E⟩:=Qi (pc:=fun i=>some (i*y.size,y.size)) (fun i q o=>by
  split at o
  ·rw[c];exact o
  ·cases o) I parts.toList _ _ z.cells p J
 refine bY.pure R (v:=.agg b) ?_ ⟨b.toList,by simp,E⟩;have F:P.built t (parts.map fun(i,x)=>(i,a.eval x)).toList=some b:=by
  unfold Program.built;simp only[K,T.array H,l,k,Array.toList_map];exact D
 simp[run_build w t _ b F]
theorem amG{Z:cD}:∀(τ:Ty) (x:τ.den) (vs:List Value),PR w Z Zp τ x vs→∀u∈vs,u.oneCell'=true
 |.bool,_,_,c=>by simp[PR]at c;subst c;simp[Value.oneCell']
 |.int _,_,_,c=>by simp[PR]at c;subst c;simp[Value.oneCell']
 |.str,_,_,c=>by simp[PR]at c;subst c;simp[Value.oneCell']
 |.sl _,_,_,⟨_,_,_,c,_⟩=>by subst c;simp[Value.oneCell']
 |.pair a b,_,_,⟨l,k,e,i,j⟩=>by
  subst e;intro u d;rcases List.mem_append.1 d with d |d
  ·exact amG a _ _ i u d
  ·exact amG b _ _ j u d
 |.unit,_,_,c=>by simp[PR]at c;subst c;simp
 |.ref _,_,_,⟨_,_,_,c,_⟩=>by subst c;simp[Value.oneCell']
 |.fn _,_,_,c=>by simp[PR]at c;subst c;simp[Value.oneCell']
 |.cl _ _,_,_,⟨_,c,_⟩=>by subst c;simp[Value.oneCell']
theorem ah1{Z:cD}{e:Ty}:∀(l:List e.den) (vs:List Value),dR (PR w Z Zp e) l vs→∀u∈vs,u.oneCell'=true
 |[],_,c=>by simp[dR]at c;subst c;simp
 |x::l,_,⟨i,b,d,j,k⟩=>by
  subst d;intro u a;rcases List.mem_append.1 a with a |a
  ·exact amG e x i j u a
  ·exact ah1 l b k u a
theorem avf{Z:cD}{e:Ty}{m:List e.den}{v:Value}{D t:TypeId}(z:P.underlying D=some (.slice t))(I:PR w Z Zp (.sl e) m [v]):
  ∃a,Src P e.size D v (af m) a w∧dR (PR w Z Zp e) m a:=by
 obtain⟨F,o,a,B,x,d,l⟩:=I;simp at B;subst B;have c:=dR.length (PR.k e) m a d;have n:=ah1 m a d;refine⟨a,?_,d⟩
 cases F with
 |some E=>
  refine Src.ofSlice w z E _ o a c (fun j u y=> ?_) n;obtain⟨b,q,p,H⟩:=l (by intro i;subst i;simp at y)
  cases p;rw[iQ];exact(H j u y).1
 |none=>
  have i:a=[]:=by
   by_cases i:a=[]
   ·exact i
   ·obtain⟨b,q,p,_⟩:=l i
    cases p
  subst i;refine⟨.inl ⟨t,z⟩,fun _=>rfl,run_firstCells_none w _ _ _ _,run_firstCells_none w.drew _ _ _ _,c,by simp⟩
theorem Uo{t p ty e:TypeId}{i:TypeInfo}(q:P.underlying t=some (.slice e))(hi:P.info? e=some i){b sLen sCap:Nat}{cur:Array Value}{e0:TypeId}(d:w.heap[b]? =some (.cells cur e0 (0,0))){x:Value}{n:Nat}{a:List Value}
  (l:Src P i.size p x n a w) (c:sLen+n≤sCap) (j:sLen*i.size+a.length≤cur.size):
  (Builtin.append_ #[t,p] ty #[.slice (some ⟨b,0,none⟩) sLen sCap,x]).run P w= .ok (.slice (some ⟨b,0,none⟩) (sLen+n) sCap) (w.setRow b (cur.toList.take (sLen*i.size)++a++cur.toList.drop (sLen*i.size+a.length)).toArray):=by
 have k:=run_storeCells_at P b (sLen*i.size) e0 a 0 cur w d (by simpa using j) l.one;simp only[Nat.add_zero]at k;rcases l.kind with⟨u,o⟩|o<;>simp[Builtin.append_,run_underlying q,run_underlying o,sizeOf,typeInfo,hi,l.len,c,l.cells,Addr.add_lit,k]
theorem Em{t d ty e:TypeId}{i:TypeInfo}(j:P.underlying t=some (.slice e))(hi:P.info? e=some i){x:Value}{a:List Value}(b:Src P i.size d x 0 a w):
  (Builtin.append_ #[t,d] ty #[.slice none 0 0,x]).run P w= .ok (.slice none 0 0) w:=by
 rcases b.kind with⟨k,c⟩|c<;>simp[Builtin.append_,run_underlying j,run_underlying c,sizeOf,typeInfo,hi,b.len,b.cells]
def asT(w:World)(base:Nat)(Zp:cD)(h:bm)(g:G)(e:Ty)(l:List e.den)(v:Value):Prop:=
 (v= .slice none 0 0∧l=[])∨
 (∃b a d j,v= .slice (some ⟨b,0,none⟩) (af l) a∧w.heap[b]? =some (.cells d j (0,0))∧af l≤a∧a≤maxLen∧d.size=a*e.size∧base≤b∧b<w.heap.size∧
  (∀o,look .dead o h≠.dead→g.hm o≠some b)∧(∀c id,¬ GL h g c id b)∧(∀i,g.Z b i→i<af l*e.size)∧dR (PR w g.Z Zp e) l (d.toList.take (af l*e.size)))
theorem dU{α:Type}{b:Nat}{l m n:List α}(h:app b l m=some n):(l.length+m.length)*b≤140737488355328∧l.length+m.length≤140737488355328∧n=l++m:=by
 unfold app at h;split at h
 ·rename_i a;cases h;exact⟨a.1,a.2,rfl⟩
 ·cases h
theorem dR.app{α:Type}{R:α→List Value→Prop}:∀(l m:List α) (vs us:List Value),dR R l vs→dR R m us→dR R (l++m) (vs++us)
 |[],_,_,_,y,j=>by simp[dR]at y;subst y;simpa using j
 |x::l,m,_,us,⟨es,i,e,E,D⟩,j=>by subst e;exact⟨es,i++us,by simp,E,dR.app l m i us D j⟩
theorem Jl(z:Array Value)(n:Nat):(Builtin.zeroCells z n).size=n*z.size:=by simp[Builtin.zeroCells]
theorem Jm(R:HR w0 Z0 Zp h g w)(hn:¬ g.al new){t tx e ty:TypeId}{d de:TD}(T:eH P t d)(Te:eH P e de)(hd:d.desc= .slice e){τ:Ty}(hz:de.zero=true)(hτ:de.ty=some τ)
  {l m n:List τ.den} {v x:Value} {J:List Value} (hon:asT w w0.heap.size Zp h g τ l v) (D:Src P τ.size tx x (af m) J w) (hpl:dR (PR w g.Z Zp τ) m J) (avg:app de.bytes l m=some n):
  bY P w0 Z0 Zp h g w new (do pure (.value (←Builtin.append_ #[t,tx] ty #[v,x]))) (.v false [.sl τ n (.own new)]) ((new,.tok)::h):=by
 obtain⟨hb1,hb2,rfl⟩:=dU avg;obtain⟨t1,t2,t3,t4⟩:=Te.Um hτ;obtain⟨i,z,hi,his,hib,hiz,hzv,_⟩:=Te.zeroV hz hτ;have hzs:z.cells.size=i.size:=by
  have:=congrArg af hzv;rw[aI,PR.length τ _ _ (FW (w:=w) (Z:=Z0) (Zp:=Zp) τ t3 t4)]at this;omega
 have y:τ.size=i.size:=by omega
 rw[y]at D;have N:=D.newsLen;have O:∀(bs:Option Addr) (a:Nat) (q:List Value),v= .slice bs (af l) a→a<af l+af m→dR (PR w g.Z Zp τ) l q→
   (Builtin.firstCells i.size (af l) (.slice bs (af l) a)).run P w.drew= .ok q.toArray w.drew→
   bY P w0 Z0 Zp h g w new (do pure (.value (←Builtin.append_ #[t,tx] ty #[v,x]))) (.v false [.sl τ (l++m) (.own new)]) ((new,.tok)::h):=by
  intro bs a q hv hlt K hfc;subst hv;have hr:=run_append_grow_src (P:=P) w t tx ty e i z (T.slice hd) hi hiz bs (af l) a q hfc x _ J D hlt (by omega) (growslice_fits hlt (by rw[hib];exact hb1));have hge:=grownCap_ge w (af l+af m) a e;have V:=grownCap_le_maxLen w (af l+af m) a e (by simp only[maxLen];omega);have M:=dR.length (PR.k τ) l q K;have p:af (l++m)=af l+af m:=ah;have Q:(af l+af m)*τ.size=af l*τ.size+af m*τ.size:=cF _ _ _;rw[y]at Q M;refine bY.alloc R hn (w1:=w.drew) (.inr rfl) (cur:=(q++J).toArray++Builtin.zeroCells z.cells (grownCap w (af l+af m) a e -(af l+af m))) (e0:=e)
   (v:=.slice (some ⟨w.heap.size,0,none⟩) (af l+af m) (grownCap w (af l+af m) a e)) _ ((af l+af m)*τ.size) (by simp[hr]) (fun L2 hnew=>⟨trivial,?_⟩) (fun h=>by cases h)
  have:=AR.own (h:=(new,.tok)::h) (base:=w0.heap.size) (e:=τ) (l:=l++m) (Zp:=Zp) (Qh g new (some w.heap.size) ((af l+af m)*τ.size)) (uK _ _ _ _) (by rw[ahY,p]) R.im hnew
   (cap:=grownCap w (af l+af m) a e) (by rw[p];exact hge) V
   (by
    rw[Array.size_append,Jl,dZ,ah,M,N,hzs,y,Nat.sub_mul];have:(af l+af m)*i.size≤grownCap w (af l+af m) a e*i.size:=cv _ hge;omega)
   (by
    have e1:af (l++m)*τ.size=(q++J).length:=by rw[p,y,ah,M,N,Q]
    rw[e1,Array.toList_append,List.take_left];exact dR.mono (fun x es hx=>PR.mono L2.z L2.zp _ _ _ hx) _ _ (dR.app _ _ _ _ K hpl))
   (fun j E=> .inr ⟨rfl,by rw[p]at E;exact E⟩)
  rw[p]at this;exact this
 rcases hon with⟨rfl,rfl⟩|⟨b,cap,cur,e0,rfl,H,hlc,V,hcs,S,hbl,W,hgl,Y,I⟩
 ·by_cases hm:m=[]
  ·subst hm;have hr:=Em (P:=P) (ty:=ty) (T.slice hd) hi D;obtain⟨R1,L1⟩:=R.au6 hn;refine⟨_,.slice none 0 0,w,_,by simp[hr],.inl rfl,R1,L1,AR.qF ⟨⟨none,0,[],rfl,az _,rfl,fun h=>absurd rfl h⟩,Qh _ _ _ _,fun _=> .inl ⟨uK _ _ _ _,rfl,rfl⟩⟩,fun o ho=>ho⟩
  ·have:0<af m:=List.length_pos_iff.2 hm;exact O none 0 [] rfl (by simpa using this) rfl (run_firstCells_none w.drew _ _ _ _)
 ·by_cases F:af l+af m≤cap
  ·have hfit:af l*i.size+J.length≤cur.size:=by
    rw[N,hcs,←cF,y];exact cv _ F
   have hr:=Uo (P:=P) (ty:=ty) (T.slice hd) hi H D F hfit;rw[y]at I Y hcs;have htl:(cur.toList.take (af l*i.size)).length=af l*i.size:=by simp;omega
   have U:∀j,j<af l*i.size→(cur.toList.take (af l*i.size)++J++cur.toList.drop (af l*i.size+J.length)).toArray[j]? =cur[j]? :=by
    intro j E;rw[List.getElem?_toArray,bo,aP (by omega),db,if_pos E,cC]
   have B:=setRow_heap w b cur (cur.toList.take (af l*i.size)++J++cur.toList.drop (af l*i.size+J.length)).toArray e0 (0,0) H;obtain⟨R1,L1⟩:=R.au7 (w':=w.setRow b (cur.toList.take (af l*i.size)++J++cur.toList.drop (af l*i.size+J.length)).toArray) (k:=(af l+af m)*τ.size) hn W hgl S hbl
    (fun c hc=>setRow_other w b c _ hc) (setRow_size _ _ _) (uL R.ext (.inl S) _) (fun j E=>⟨by
     have:=Y j E;rw[y,cF];omega,by rw[iu B,iu H,U j (Y j E)]⟩)
   have p:af (l++m)=af l+af m:=ah;refine⟨_,.slice (some ⟨b,0,none⟩) (af l+af m) cap,_,_,by simp[hr],.inl rfl,R1,L1,?_,fun o ho=>ho⟩;have:=AR.own (h:=(new,.tok)::h) (base:=w0.heap.size) (e:=τ) (l:=l++m) (Zp:=Zp) (Qh g new (some b) ((af l+af m)*τ.size)) (uK _ _ _ _) (by rw[ahY,p]) S B
    (cap:=cap) (by rw[p];exact F) V (by rw[y];simp;omega)
    (by
     have e1:af (l++m)*τ.size=(cur.toList.take (af l*i.size)++J).length:=by rw[p,y,ah,htl,N,cF]
     rw[e1];simp only[List.take_left];exact dR.mono (fun x es hx=>PR.mono L1.z L1.zp _ _ _ hx) _ _ (dR.app _ _ _ _ I hpl))
    (fun j E=> .inr ⟨rfl,by rw[p]at E;exact E⟩)
   rw[p]at this;exact this
  ·refine O _ cap _ rfl (by omega) I ?_;have K:=dR.length (PR.k τ) _ _ I;rw[y]at K ⊢;refine run_firstCells_some w.drew i.size _ _ _ cap _ K fun j u E=> ?_;rw[iQ,dJ];show w.cell? _=_;rw[iu H];rw[db]at E
   split at E
   ·simpa using E
   ·cases E
theorem aoo{e:Ty}{l:List e.den}{b:Nat}{cur:Array Value}{e0:TypeId}{o:Nat×Nat}{d i:TypeId}(q:P.underlying d=some (.slice i))(a:w.heap[b]? =some (.cells cur e0 o))(c:dR (PR w g.Z Zp e) l cur.toList)(n:Nat):
  Src P e.size d (.slice (some ⟨b,0,none⟩) (af l) n) (af l) cur.toList w:=
 Src.ofSlice w q _ _ _ _ (dR.length (PR.k e) l _ c) (fun j u p=>by rw[iQ,dJ,iu a];simpa using p) (ah1 l _ c)
theorem Ty.oJ:∀(τ:Ty) (x:τ.den),(τ.cells x).all C.known=true
 |.bool,_ |.int _,_ |.str,_ |.sl _,_ |.unit,_ |.ref _,_ |.fn _,_ |.cl _ _,_=>rfl
 |.pair a b,x=>by simp only[Ty.cells,List.all_append,Ty.oJ a,Ty.oJ b,Bool.and_self]
theorem VT.oJ:∀(V:VT) (x:V.den),(V.cells x).all C.known=true
 |.data τ,x=>Ty.oJ τ x
 |.gp _ _,_ |.gs _,_ |.gm _,_ |.unit,_=>rfl
 |.pair a b,x=>by simp only[VT.cells,List.all_append,VT.oJ a,VT.oJ b,Bool.and_self]
theorem aj7{base:Nat}{V:VT}:∀(l:List V.den) (vs:List Value),dR (fun y c=>dM w base Zp h g (V.cells y) c) l vs→∀u∈vs,u.oneCell'=true
 |[],_,d=>by simp[dR]at d;subst d;simp
 |x::l,_,⟨c,b,e,i,j⟩=>by
  subst e;intro u a;rcases List.mem_append.1 a with a |a
  ·exact dM.one _ _ (VT.oJ V x) i u a
  ·exact aj7 l b j u a
theorem kV{base:Nat}(V:VT):∀(x:V.den) (a:List Value),dM w base Zp h g (V.cells x) a→a.length=V.size:=fun x _ b=>(dM.length _ _ b).trans (VT.gI V x)
theorem aqu(R:HR w0 Z0 Zp h g w){c:Nat}{wr:Bool}{V:VT}{H:List (Option (List V.den))}(T:look .dead c h= .gh wr (.bf V) H){y:Option (Nat×Nat×Nat)}{l:List V.den}{v:Value}(x:CR w w0.heap.size Zp h g (.gs c y) v)(E:rX H y=some l){J O:TypeId}(I:P.underlying J=some (.slice O)):
  ∃K,Src P V.size J v l.length K w∧dR (fun y Q=>dM w w0.heap.size Zp h g (V.cells y) Q) l K:=by
 cases y with
 |none=>
  cases E;have x:v= .slice none 0 0:=x;subst x;exact⟨[],Src.ofNil w I 0,rfl⟩
 |some q=>
  obtain⟨i,a,n⟩:=q;obtain⟨b,k,M,N,W,o,hp,p,U,S,_,D,rfl,t,Y,F,e,_⟩:=ahX R T x E;refine⟨_,?_,e⟩;have d:=dR.length (kV V) l _ e;subst t;refine Src.ofSlice w I ⟨b,o,none⟩ _ _ _ d (fun j u B=> ?_) (aj7 l _ e);have Z:0<l.length:=by
   rcases Nat.eq_zero_or_pos l.length with z |z
   ·rw[z]at B;simp at B
   ·exact z
  rw[D (by omega),iQ];exact kU p _ _ j u B
theorem aj8(R:HR w0 Z0 Zp h g w){τ:Ty}{x:A}{v:Value}{S U:TypeId}(E:P.underlying S=some (.slice U))(hx:AR w w0.heap.size Zp h g x v){k:List τ.den→HM}{F:A×bm×Log}(e:(aqe false τ x k).eval next h L=some F):
  ∃m u L1,(k m).eval next h L1=some F∧Src P τ.size S v (af m) u w∧dR (PR w g.Z Zp τ) m u:=by
 unfold aqe at e
 split at e
 ·rename_i c y;unfold P7 at e;have e:=cA e
  split at e
  ·rename_i wr K H q
   split at e
   ·rename_i H' Y hn;obtain⟨hK,rfl⟩:=jP Y;subst hK;obtain⟨l,hl,e⟩:=bG e;obtain⟨u,N,O⟩:=aqu R q hx.c hl E;exact⟨l,u,_,e,N,dR.mono (fun y es hy=>Ty.BJ hn hy) _ _ O⟩
   ·exact(aj e).elim
  ·exact(aj e).elim
 ·rename_i c p;have I:=hx.c;clear p
  cases c
  case vec o=>
   simp only[pt]at e;have e:=cA e;obtain⟨hal,hs,Q⟩:=I
   split at e
   ·rename_i j l q;have d:=R.ob o;rw[q]at d;obtain⟨W,M,b,J,V,z,a,i⟩:=d;obtain⟨T,n,rfl⟩:=Q j (af l) (by rw[q];rfl);rw[n]at z;cases z
    split at e
    ·rename_i m D;obtain⟨B,rfl⟩:=nS D;subst B;exact⟨_,_,_,e,aoo E a i _,i⟩
    ·exact(aj e).elim
   ·rename_i j l q;have d:=R.ob o;rw[q]at d;obtain⟨W,M,b,J,V,fz,z,a,i,_⟩:=d;obtain⟨T,n,rfl⟩:=Q j (af l) (by rw[q];rfl);rw[n]at z;cases z
    split at e
    ·rename_i m D;obtain⟨B,rfl⟩:=nS D;subst B;exact⟨_,_,_,e,aoo E a i _,i⟩
    ·exact(aj e).elim
   ·exact(aj e).elim
  case sl j l t=>
   simp only[pt]at e
   split at e
   ·rename_i m D;obtain⟨B,rfl⟩:=nS D;subst B;obtain⟨u,N,O⟩:=avf (P:=P) E I.1;exact⟨_,u,_,e,N,O⟩
   ·exact(aj e).elim
  case nils=>
   simp only[pt]at e;simp only[CR]at I;subst I;exact⟨[],[],_,e,Src.ofNil w E 0,rfl⟩
  all_goals (simp only[pt]at e;exact(aj e).elim)
 ·exact(aj e).elim
theorem GL.drop{o c id b:Nat}(y:GL ((o,.dead)::h) g c id b):GL h g c id b:=by
 obtain⟨wr,K,H,x,e,i,j⟩:=y;rw[aW]at i
 split at i
 ·cases i
 ·exact⟨wr,K,H,x,e,i,j⟩
theorem aqv(R:HR w0 Z0 Zp h g w){o:Nat}{e:Ty}{l:List e.den}{v:Value}(u:look .dead o h= .tok)(H:CR w w0.heap.size Zp h g (.sl e l (.own o)) v):asT w w0.heap.size Zp ((o,.dead)::h) g e l v:=by
 obtain⟨a,hal,ht⟩:=H;rcases ht u with⟨q,y,z⟩|⟨b,O,n,Q,q,y,z,T,U,V,W,Y⟩
 ·exact .inl ⟨y,List.length_eq_zero_iff.1 z⟩
 ·obtain⟨bs,d,B,N,_,x,D⟩:=a;simp at N;subst N;simp at y;obtain⟨rfl,rfl⟩:=y;have K:=dR.length (PR.k e) l B x;have F:=(R.home o b (by rw[u];simp) q).2;refine .inr ⟨b,d,n,Q,rfl,z,T,U,V,W,F,fun p a J=> ?_,fun c id Z=>R.gh.loc c id b o (GL.drop Z) (by rw[u];simp) q,fun i hi=>Y▸R.Mv o b i u q hi,?_⟩
  ·rw[aW]at a
   split at a
   ·exact a rfl
   ·rename_i I;exact I (R.nA o p b (by rw[u];simp) a q J)
  ·have:n.toList.take (af l*e.size)=B:=by
    rw[←K];apply List.ext_getElem?;intro j;rw[db]
    by_cases t:j<B.length
    ·rw[if_pos t];obtain⟨b2,off,E,H⟩:=D (by intro S;subst S;simp at t)
     cases E;have M:=(H j B[j] (ai t)).1;rw[dJ,iu z]at M;rw[ai t,cC,M]
    ·rw[if_neg t,bd (by omega)]
   rw[this];exact x
theorem aqw(R:HR w0 Z0 Zp h g w){o:Nat}{e:Ty}{l:List e.den}{v:Value}(a:look .dead o h= .row e l)(J:CR w w0.heap.size Zp h g (.vec o) v)(M:af l≤maxLen):asT w w0.heap.size Zp ((o,.dead)::h) g e l v:=by
 obtain⟨I,S,N⟩:=J;obtain⟨b,d,rfl⟩:=N e (af l) (by rw[a];rfl);have t:=R.ob o;rw[a]at t;obtain⟨Q,F,O,z,E,j,q,u⟩:=t;rw[d]at j;cases j;have x:=dR.length (PR.k e) l _ u;have n:=R.home o b (by rw[a];simp) d;refine .inr ⟨b,af l,z,E,rfl,q,az _,M,by simpa using x,n.1,n.2,fun p y D=> ?_,fun c id H=>R.gh.loc c id b o (GL.drop H) (by rw[a];simp) d,fun i K=>absurd K (R.kS o b i (by rw[a];rfl) d),?_⟩
 ·rw[aW]at y
  split at y
  ·exact y rfl
  ·rename_i B;exact B (R.nA o p b (by rw[a];simp) y d D)
 ·rw[←x,ch];exact u
theorem aqx{e:Ty}:asT w base Zp h g e ([]:List e.den) (.slice none 0 0):=.inl ⟨rfl,rfl⟩
theorem amH(R:HR w0 Z0 Zp h g w)(I:¬ g.al new){t O e U ty:TypeId}{d M u:TD}(T:eH P t d)(S:eH P O M)(q:eH P e u)(E:d.desc= .slice e)(F:M.desc= .slice U){τ:Ty}(hz:u.zero=true)(y:u.ty=some τ)
  {s x:A} {v Q:Value} (K:AR w w0.heap.size Zp h g s v) (hx:AR w w0.heap.size Zp h g x Q) (B:(ahL new τ u.bytes s x).eval next h L=some (r,h',L')):
  bY P w0 Z0 Zp h g w new (do pure (.value (←Builtin.append_ #[t,O] ty #[v,Q]))) r h':=by
 obtain⟨t1,t2,t3,t4⟩:=q.Um y;unfold ahL at B;obtain⟨m,Z,Y,a,i,p⟩:=aj8 R (S.slice F) hx B;clear B
 split at a
 ·obtain⟨n,b,a⟩:=bG a;have a:=dS a;obtain⟨rfl,rfl,_⟩:=cd a;have N:=K.c;simp only[CR]at N;subst N;exact Jm R I T q E hz y aqx i p b
 ·rename_i D l o
  split at a
  ·rename_i W k;obtain⟨H,rfl⟩:=nS k;subst H;have a:=cA a
   split at a
   ·rename_i J;obtain⟨n,b,a⟩:=bG a;have a:=dS a;have a:=dS a;obtain⟨rfl,rfl,_⟩:=cd a;obtain⟨z,j⟩:=R.drop o;exact bY.behind j (fun _ h=>h) (Jm z I T q E hz y (aqv R J K.c) i p b)
   ·exact(aj a).elim
  ·exact(aj a).elim
 ·rename_i o;have a:=cA a
  split at a
  ·rename_i D l J
   split at a
   ·rename_i W k;obtain⟨H,rfl⟩:=nS k;subst H;obtain⟨n,b,a⟩:=bG a;have a:=dS a;have a:=dS a;obtain⟨rfl,rfl,_⟩:=cd a;obtain⟨z,j⟩:=R.drop o;have V:af l+af m≤140737488355328:=(dU b).2.1;exact bY.behind j (fun _ h=>h) (Jm z I T q E hz y (aqw R J K.c (by simp only[maxLen];omega)) i p b)
   ·exact(aj a).elim
  ·exact(aj a).elim
 ·exact(aj a).elim
end
section
variable {P:Program} {w0:W0} {w w':World} {Z0 Zp:cD} {h h':bm} {g:G} {new next base:Nat} {r:A} {L L':Log} {X:Cx}
theorem Ty.kW:∀τ:Ty,τ.lK.length=τ.size
 |.bool |.int _ |.str |.sl _ |.unit |.ref _ |.fn _ |.cl _ _=>rfl
 |.pair a b=>by simp[Ty.lK,Ty.size,Ty.kW a,Ty.kW b]
theorem VT.kW:∀V:VT,V.lK.length=V.size
 |.data τ=>Ty.kW τ
 |.gp _ _ |.gs _ |.gm _ |.unit=>rfl
 |.pair a b=>by simp[VT.lK,VT.size,VT.kW a,VT.kW b]
theorem VT.Qj{base:Nat}:∀V:VT,V.Jj=true→dM w base Zp h g (V.cells V.zero) V.lK
 |.data τ,i=>by
  have i:(τ.cE&&τ.Jj)=true:=i;rw[ak]at i;exact dM.ar2 τ _ _ (FW τ i.1 i.2)
 |.gp _ _,_=>⟨_,[],rfl,rfl,rfl⟩
 |.gs _,_=>⟨_,[],rfl,rfl,rfl⟩
 |.gm _,_=>⟨_,[],rfl,rfl,rfl⟩
 |.pair a b,i=>by
  have i:(a.Jj&&b.Jj)=true:=i;rw[ak]at i;exact dM.append _ _ _ _ (VT.Qj a i.1) (VT.Qj b i.2)
 |.unit,_=>rfl
theorem VT.lj{base:Nat}:∀V:VT,dM w base Zp h g V.mU V.lK
 |.data τ=>Go.Am.lj τ
 |.gp _ _=>⟨_,[],rfl,rfl,rfl⟩
 |.gs _=>⟨_,[],rfl,rfl,rfl⟩
 |.gm _=>⟨_,[],rfl,rfl,rfl⟩
 |.pair a b=>dM.append _ _ _ _ (VT.lj a) (VT.lj b)
 |.unit=>rfl
theorem bY.abB(R:HR w0 Z0 Zp h g w){c k cap sz:Nat}{K:GK}{H:List (Option K.xp)}{x:K.xp}(D:look .dead c h= .gh true K H){y:Sem Next}{w1:World}(J:ao3 w w1){cur:Array Value}{e0:TypeId}{v:Value}
  (hr:y.run P w= .ok (.value v) (w1.alloc (.cells cur e0 (0,0)))) (I:∀V,K= .bf V→sz=V.size)
  (hx:∀(g':G) (w':World) (h':bm),Le Zp h g w h' g' w'→g'.pm c H.length=some (w.heap.size,k,cap,sz)→w'.heap[w.heap.size]? =some (.cells cur e0 (0,0))→uI w' w0.heap.size Zp h' g' c H.length K x∧AR w' w0.heap.size Zp h' g' r v):
  bY P w0 Z0 Zp h g w new y r ((c,.gh true K (eE H x))::h):=by
 have M:(w1.alloc (.cells cur e0 (0,0))).heap=w.heap.push (.cells cur e0 (0,0)):=by
  show w1.heap.push _=_;rw[J.heap]
 have i:(w1.alloc (.cells cur e0 (0,0))).heap[w.heap.size]? =some (.cells cur e0 (0,0)):=by rw[M];simp
 obtain⟨g',E⟩:∃g':G,g'={ g with pm:=Ul g.pm c H.length (w.heap.size,k,cap,sz) }:=⟨_,rfl⟩;have j:g'.pm c H.length=some (w.heap.size,k,cap,sz):=by rw[E];exact rK _ _ _ _
 obtain⟨N,L'⟩:=R.eE (x:=x) D M ((J.ext R.ext).alloc _) I E (fun L=>(hx g' _ _ L j i).1);exact⟨_,v,_,_,hr,.inl rfl,N,L',(hx g' _ _ L' j i).2,fun o D=> .inl (by rw[E]at D;exact D)⟩
theorem Up{t q ty e:TypeId}{i:TypeInfo}(u:P.underlying t=some (.slice e))(hi:P.info? e=some i){b o sLen sCap:Nat}{cur:Array Value}{e0:TypeId}(d:w.heap[b]? =some (.cells cur e0 (0,0))){x:Value}{n:Nat}{a:List Value}
  (l:Src P i.size q x n a w) (c:sLen+n≤sCap) (j:o+sLen*i.size+a.length≤cur.size):
  (Builtin.append_ #[t,q] ty #[.slice (some ⟨b,o,none⟩) sLen sCap,x]).run P w= .ok (.slice (some ⟨b,o,none⟩) (sLen+n) sCap) (w.setRow b (cur.toList.take (o+sLen*i.size)++a++cur.toList.drop (o+sLen*i.size+a.length)).toArray):=by
 have k:=run_storeCells_at P b (o+sLen*i.size) e0 a 0 cur w d (by simpa using j) l.one;simp only[Nat.add_zero]at k;rcases l.kind with⟨y,p⟩|p<;>simp[Builtin.append_,run_underlying u,run_underlying p,sizeOf,typeInfo,hi,l.len,c,l.cells,iQ,k]
theorem Uq{t d ty e:TypeId}{i:TypeInfo}(j:P.underlying t=some (.slice e))(hi:P.info? e=some i){base:Option Addr}{sLen sCap:Nat}(a:sLen≤sCap){x:Value}(b:Src P i.size d x 0 [] w):
  (Builtin.append_ #[t,d] ty #[.slice base sLen sCap,x]).run P w= .ok (.slice base sLen sCap) w:=by
 rcases b.kind with⟨k,c⟩|c<;>cases base<;>simp[Builtin.append_,run_underlying j,run_underlying c,sizeOf,typeInfo,hi,b.len,b.cells,a,storeCells]
theorem aqy(R:HR w0 Z0 Zp h g w){V:VT}{x:A}{v:Value}{q t:TypeId}(n:P.underlying q=some (.slice t))(hx:AR w w0.heap.size Zp h g x v){k:List V.den→HM}{a:A×bm×Log}(e:(auW V x k).eval next h L=some a):
  ∃m b L1,(k m).eval next h L1=some a∧Src P V.size q v (af m) b w∧dR (fun y d=>dM w w0.heap.size Zp h g (V.cells y) d) m b:=by
 by_cases p:∃τ,V= .data τ
 ·obtain⟨τ,rfl⟩:=p;have e:(aqe false τ x k).eval next h L=some a:=e
  obtain⟨m,b,L1,e,i,j⟩:=aj8 R n hx e;exact⟨m,b,L1,e,i,dR.mono (fun y d E=>dM.ar2 τ y d E) _ _ j⟩
 unfold auW at e
 split at e
 ·exact absurd ⟨_,rfl⟩ p
 ·rename_i V c y k _;have e:=cA e
  split at e
  ·rename_i wr K H D
   split at e
   ·rename_i F u;obtain⟨z,rfl⟩:=jP u;subst z;obtain⟨l,B,e⟩:=bG e;obtain⟨b,i,j⟩:=aqu R D hx.c B n;exact⟨l,b,_,e,i,j⟩
   ·exact(aj e).elim
  ·exact(aj e).elim
 ·have o:=hx.c;simp only[CR]at o;subst o;exact⟨[],[],_,e,Src.ofNil w n 0,rfl⟩
 ·exact(aj e).elim
theorem aj9(R:HR w0 Z0 Zp h g w){t tx e ex ty:TypeId}{d dx de:TD}(T:eH P t d)(Tx:eH P tx dx)(Te:eH P e de)(hd:d.desc= .slice e)(hdx:dx.desc= .slice ex){V:VT}(hV:VOK P e V)(hpos:0<de.size){c:Nat}{y:Option (Nat×Nat×Nat)}
  {x:A} {v vx:Value} (hs:CR w w0.heap.size Zp h g (.gs c y) v) (hx:AR w w0.heap.size Zp h g x vx) (e1:(ahM V c de.bytes y x).eval next h L=some (r,h',L')):
  bY P w0 Z0 Zp h g w new (do pure (.value (←Builtin.append_ #[t,tx] ty #[v,vx]))) r h':=by
 unfold ahM at e1;obtain⟨m,N,L1,Y,F,hpl⟩:=aqy R (Tx.slice hdx) hx e1;clear e1;have Y:=cA Y
 split at Y
 ·rename_i K H U
  split at Y
  ·rename_i H' hH;obtain⟨hK,rfl⟩:=jP hH;subst hK;obtain⟨r1,p,Y⟩:=bG Y;have Y:=dS Y;obtain⟨rfl,rfl,_⟩:=cd Y;obtain⟨i,z,hi,J,hiz,hzv,_⟩:=hV.inf;obtain⟨i',hi',aCe,hib⟩:=Te.inf;rw[hi]at hi';cases hi';have hzs:z.cells.size=i.size:=by
    have:=congrArg af hzv;rw[aI,VT.kW]at this;omega
   rw[←J]at F;have hul:=F.newsLen;have hVp:0<V.size:=by omega
   have grow:∀(l:List V.den) (n:List V.den) (bs:Option Addr) (sCap:Nat) (E:List Value) (H1:List (Option (List V.den))) (h1:bm),v= .slice bs (af l) sCap→sCap<af l+af m→dR (fun y es=>dM w w0.heap.size Zp h g (V.cells y) es) l E→
     app de.bytes l m=some n→(Builtin.firstCells i.size (af l) (.slice bs (af l) sCap)).run P w.drew= .ok E.toArray w.drew→HR w0 Z0 Zp h1 g w→Le Zp h g w h1 g w→look .dead c h1= .gh true (.bf V) H1→
     bY P w0 Z0 Zp h1 g w new (do pure (.value (←Builtin.append_ #[t,tx] ty #[v,vx]))) (.v false [.gs c (some (H1.length,0,af n))]) ((c,.gh true (.bf V) (eE H1 n))::h1):=by
    intro l n bs sCap E H1 h1 hv hlt hol avg hfc R1 Le1 ho1;subst hv;obtain⟨hb1,hb2,rfl⟩:=dU avg;have hr:=run_append_grow_src (P:=P) w t tx ty e i z (T.slice hd) hi hiz bs (af l) sCap E hfc vx _ N F hlt (by omega) (growslice_fits hlt (by rw[hib];exact hb1));have hge:=grownCap_ge w (af l+af m) sCap e;have hcm:=grownCap_le_maxLen w (af l+af m) sCap e (by simp only[maxLen];omega);have aw9:=dR.length (kV V) l E hol;have B:af (l++m)=af l+af m:=ah;refine bY.abB R1 ho1 (w1:=w.drew) (.inr rfl) (cur:=(E++N).toArray++Builtin.zeroCells z.cells (grownCap w (af l+af m) sCap e -(af l+af m))) (e0:=e) (k:=0) (cap:=grownCap w (af l+af m) sCap e) (sz:=V.size)
     (v:=.slice (some ⟨w.heap.size,0,none⟩) (af l+af m) (grownCap w (af l+af m) sCap e)) (K:=.bf V) (by simp[hr]) (fun V' h=>by cases h;rfl) (fun g' w' h' L2 O hnew=>⟨⟨hVp,_,_,_,_,_,O,hnew,?_,?_,hcm,?_⟩,?_⟩)
    ·rw[Array.size_append,Jl,dZ,ah,aw9,hul,hzs,Nat.sub_mul,←J,dJ];have:=cv i.size hge;rw[cF]at this ⊢;omega
    ·show af (l++m)≤_;rw[B];exact hge
    ·have e1:af (l++m)*V.size=(E++N).length:=by rw[B,ah,aw9,hul,←J,cF]
     rw[dy];show dR _ (l++m) (List.take (af (l++m)*V.size) _);rw[e1,Array.toList_append,List.take_left];exact dR.mono (fun x es hx=>dM.mono L2 _ _ (dM.mono Le1 _ _ hx)) _ _ (dR.app _ _ _ _ hol hpl)
    ·refine AR.qF ⟨_,_,_,_,0,O,?_,fun _=>by simp,?_⟩
     ·show 0+af (l++m)≤_;rw[B];omega
     ·show Value.slice _ _ _=Value.slice _ (af (l++m)) _;rw[B];rfl
   cases y with
   |none=>
    have hv:v= .slice none 0 0:=hs;unfold gsA at p;simp only at p
    split at p
    ·cases p;subst hv;have hus:N=[]:=hpl;subst hus;have hr:=Em (P:=P) (ty:=ty) (T.slice hd) hi F;have W:∀o,look .dead o h=look .dead o ((c,Ob.gh true (.bf V) H)::h):=fun o=>by
      rw[aW]
      split
      ·rename_i hc;subst hc;exact U
      ·rfl
     exact⟨_,.slice none 0 0,w,g,by simp[hr],.inl rfl,R.same W,Le.same W,AR.qF rfl,fun o U=> .inl U⟩
    ·rename_i y0 m0
     split at p
     ·rename_i n hn
      cases p;exact grow [] n none 0 [] H h hv (by simp) rfl hn (run_firstCells_none w.drew _ _ _ _) R (Le.refl _ _ _ _) U
     ·cases p
   |some q=>
    obtain⟨id,a,D⟩:=q;unfold gsA at p;simp only at p
    split at p
    ·rename_i l hl
     split at p
     ·rename_i n hn
      cases p;obtain⟨b,k,cap,cur,e0,o,hp,Q,hsz,hac,hmx,hoo,rfl,M,hG,_,hpr,l0,hl0,aw6,_⟩:=ahX R U hs hl;obtain⟨hb1,hb2,Z⟩:=dU hn;have M:af l=D:=M
      by_cases I:D+af m≤cap -a
      ·
       have B:af n=D+af m:=by rw[Z,ah,M]
       obtain⟨g',hg⟩:∃g':G,g'={ g with pm:=Ul g.pm c H.length (b,k+a*V.size,cap -a,V.size) }:=⟨_,rfl⟩;have O:g'.pm c H.length=some (b,k+a*V.size,cap -a,V.size):=by rw[hg];exact rK _ _ _ _
       have aAR:(cap -a)*V.size+a*V.size=cap*V.size:=by rw[←cF];congr 1;omega
       have avh:g'.al=g.al:=by rw[hg]
       by_cases azy:a<cap
       ·have hoo:=hoo azy;subst hoo;have hfit:k+a*V.size+D*i.size+N.length≤cur.size:=by
         rw[hul,J,eZ,←cF,hsz];have:=cv V.size I;omega
        have hr:=Up (P:=P) (ty:=ty) (T.slice hd) hi Q F I hfit;have S:=setRow_heap w b cur (cur.toList.take (k+a*V.size+D*i.size)++N++cur.toList.drop (k+a*V.size+D*i.size+N.length)).toArray e0 (0,0) Q;obtain⟨R',L'⟩:=R.auB (w':=w.setRow b (cur.toList.take (k+a*V.size+D*i.size)++N++cur.toList.drop (k+a*V.size+D*i.size+N.length)).toArray) (x:=n) (K:=.bf V) U hl0 hp rfl (fun c hc=>setRow_other w b c _ hc) (setRow_size _ _ _) (uL R.ext (R.gh.own c (.bf V) H id _ _ U hl0 hp) _) (fun V' h=>by cases h;rfl) hg (fun L2=>by
         have hcl:cur.toList.length=cur.size:=aI;have htl:(cur.toList.take (k+a*V.size+D*i.size)).length=k+a*V.size+D*i.size:=by
          rw[aC,hcl];omega
         refine⟨hVp,b,_,_,_,e0,O,S,?_,?_,by omega,?_⟩
         ·rw[dZ,ah,ah,htl,dE,hcl];omega
         ·show af n≤_;rw[B];exact I
         ·have e3:((cur.toList.take (k+a*V.size+D*i.size)++N++cur.toList.drop (k+a*V.size+D*i.size+N.length)).drop (k+a*V.size)).take (af n*V.size)=(cur.toList.drop (k+a*V.size)).take (D*V.size)++N:=by
           have e4:cur.toList.take (k+a*V.size+D*i.size)=cur.toList.take (k+a*V.size)++(cur.toList.drop (k+a*V.size)).take (D*i.size):=by
            rw[List.take_add]
           rw[e4,bo,bo,List.drop_append_of_le_length (by rw[aC,aI];omega),List.drop_eq_nil_of_le (by rw[aC,aI];omega),bC,←bo,B,J];have e5:((cur.toList.drop (k+a*V.size)).take (D*V.size)++N).length=(D+af m)*V.size:=by
            rw[ah,aC,dE,aI,hul,J,cF];rw[hul,J]at hfit;omega
           rw[←e5,List.take_left]
          show dR _ n (List.take (af n*V.size) _);show dR _ n (List.take (af n*V.size) (List.drop (k+a*V.size) (cur.toList.take (k+a*V.size+D*i.size)++N++cur.toList.drop (k+a*V.size+D*i.size+N.length))));rw[e3];have ah2:=dR.mono (fun x es hx=>dM.mono L2 _ _ hx) _ _ (dR.app _ _ _ _ hpr hpl);rw[←Z]at ah2;exact ah2)
        refine⟨_,.slice (some ⟨b,k+a*V.size,none⟩) (D+af m) (cap -a),_,_,by simp[hr],.inl rfl,R',L',AR.qF ⟨b,_,_,_,k+a*V.size,O,?_,fun _=>by simp,?_⟩,fun o U=> .inl (avh▸U)⟩
        ·show 0+af n≤_;rw[B];omega
        ·show _=Value.slice _ (af n) _;rw[B];rfl
       ·
        have hca:cap -a=0:=by omega
        have hm0:af m=0:=by omega
        have avi:D=0:=by omega
        have hmn:m=[]:=List.length_eq_zero_iff.1 hm0;subst hmn;have hus:N=[]:=hpl;subst hus;have azz:l=[]:=List.length_eq_zero_iff.1 (M.trans avi);have hr:=Uq (P:=P) (ty:=ty) (T.slice hd) hi (base:=some ⟨b,o,none⟩) (sLen:=D) (sCap:=cap -a) (by omega) F;obtain⟨R',L'⟩:=R.auB (w':=w) (x:=n) (K:=.bf V) U hl0 hp rfl (fun _ _=>rfl) rfl R.ext (fun V' h=>by cases h;rfl) hg (fun L2=>by
         refine⟨hVp,b,_,_,cur,e0,O,Q,?_,?_,by omega,?_⟩
         ·omega
         ·show af n≤_;rw[B];exact I
         ·rw[Z,azz];show dR _ [] _;simp[dR])
        refine⟨_,.slice (some ⟨b,o,none⟩) D (cap -a),_,_,by simp[hr],.inl rfl,R',L',AR.qF ⟨b,_,_,_,o,O,?_,fun h=>by omega,?_⟩,fun o U=> .inl (avh▸U)⟩
        ·show 0+af n≤_;rw[B];omega
        ·show _=Value.slice _ (af n) _;rw[B];rfl
      ·
       obtain⟨R1,Le1⟩:=R.aw2 (K:=.bf V) U hl0 hp rfl false (g':=g) (by simp);have hlk:look .dead c ((c,Ob.gh true (.bf V) (H.set id none))::h)= .gh true (.bf V) (H.set id none):=by rw[aW,if_pos rfl]
       have hol:=dR.length (kV V) l _ hpr;have hg1:=grow l n (some ⟨b,o,none⟩) (cap -a) _ (H.set id none) _ (by rw[M]) (by omega) hpr hn (by
        refine run_firstCells_some w.drew i.size _ _ _ (cap -a) _ (by rw[J];exact hol) fun j u hj=> ?_;have hn0:0<D:=by
         rcases Nat.eq_zero_or_pos D with h0 |h0
         ·subst h0;simp at hj
         ·exact h0
        rw[hoo (by omega),iQ];exact kU Q _ _ j u hj) R1 Le1 hlk
       obtain⟨nn,vv,w2,g2,q1,q2,q3,q4,q5,q6⟩:=bY.behind Le1 (fun _ h=>h) hg1;have W:∀o,look .dead o ((c,Ob.gh true (.bf V) (eE (H.set id none) n))::(c,Ob.gh true (.bf V) (H.set id none))::h)=look .dead o ((c,Ob.gh true (.bf V) (eE (H.set id none) n))::h):=fun o=>by
        rw[aW,aW,aW]
        split
        ·rfl
        ·rfl
       have hL: @af (Option (List V.den)) (@aX (Option (GK.bf V).xp) H id none)= @af (Option (List V.den)) H:=aO;rw[hL]at q5;exact⟨nn,vv,w2,g2,q1,q2,q3.same W,q4.trans (Le.same W),AR.mono (Le.same W) _ _ q5,q6⟩
     ·cases p
    ·cases p
  ·exact(aj Y).elim
 ·exact(aj Y).elim
theorem amI(R:HR w0 Z0 Zp h g w){t:TypeId}{V:VT}(d:VOK P t V){c:Nat}{H:List (Option V.den)}(o:look .dead c h= .gh true (.st V) H):
  bY P w0 Z0 Zp h g w new (do pure (.value (←Instr.alloc t true (.tuple #[])))) (.v false [.gp c 0 (some H.length)]) ((c,.gh true (.st V) (eE (α:=V.den) H V.zero))::h):=by
 obtain⟨i,z,l,n,e,j,_⟩:=d.inf;refine bY.abB R (K:=.st V) o (w1:=w) (.inl rfl) (cur:=z.cells) (e0:=t) (k:=0) (cap:=0) (sz:=V.size) (v:=.pointer (some ⟨w.heap.size,0,none⟩)) ?_ (fun _ h=>by cases h) (fun q w' h' p b a=>⟨⟨d.pos,_,_,_,_,b,a,?_⟩,AR.qF ⟨_,b,rfl,rfl⟩⟩)
 ·simp[Instr.alloc,zeroValue,typeInfo,l,e,newVar,newRow,newObj,Sem.run]
 ·rw[j];exact VT.Qj V d.nf
theorem aqB(R:HR w0 Z0 Zp h g w){t:TypeId}{V:VT}(d:VOK P t V){c:Nat}{H:List (Option V.den)}(j:look .dead c h= .gh true (.st V) H){cs:List C}{v:Value}(i:dM w w0.heap.size Zp h g cs v.cells.toList){z:V.den}(hz:V.dC cs=some z):
  bY P w0 Z0 Zp h g w new (do pure (.value (←Instr.box t v))) (.v false [.gp c 0 (some H.length)]) ((c,.gh true (.st V) (eE (α:=V.den) H z))::h):=by
 refine bY.abB R (K:=.st V) j (w1:=w) (.inl rfl) (cur:=v.cells) (e0:=t) (k:=0) (cap:=0) (sz:=V.size) (v:=.pointer (some ⟨w.heap.size,0,none⟩)) ?_ (fun _ h=>by cases h) (fun l w' h' e b a=>⟨⟨d.pos,_,_,_,_,b,a,?_⟩,AR.qF ⟨_,b,rfl,rfl⟩⟩)
 ·simp[Instr.box,newVar,newRow,newObj,Sem.run]
 ·exact dM.mono e _ _ (VT.rM d.ok i hz)
theorem dR.abC{base:Nat}{V:VT}(i:V.Jj=true):∀n,dR (fun y es=>dM w base Zp h g (V.cells y) es) (ao n V.zero) (ao n V.lK).flatten
 |0=>rfl
 |n+1=>⟨V.lK,(ao n V.lK).flatten,by simp[cH],VT.Qj V i,dR.abC i n⟩
theorem ao8(R:HR w0 Z0 Zp h g w){t e:TypeId}{d F:TD}(T:eH P t d)(Q:eH P e F)(W:d.desc= .slice e){V:VT}(B:VOK P e V){c:Nat}{H:List (Option (List V.den))}(ho:look .dead c h= .gh true (.bf V) H)
  {O N:IntKind} {n:Int} {k:Nat} (Z:Bx F.bytes n=some k):
  bY P w0 Z0 Zp h g w new (do pure (.value (←Instr.makeSlice t (.int O n) (.int N n)))) (.v false [.gs c (some (H.length,0,k))]) ((c,.gh true (.bf V) (eE (α:=List V.den) H (ao k V.zero)))::h):=by
 obtain⟨i,z,J,Y,E,x,_⟩:=B.inf;obtain⟨i',b,M,D⟩:=Q.inf;rw[J]at b;cases b;obtain⟨I,S,h2,rfl⟩:=fX Z;have p:=B.pos;have hzs:z.cells.size=V.size:=by
  have:=congrArg af x;rw[aI,VT.kW]at this;omega
 have U:(i.bytes:Int)*n≤281474976710656:=by
  have h3:n.toNat*i.bytes≤140737488355328:=by rw[D];exact S
  have h4:((n.toNat*i.bytes:Nat):Int)=(i.bytes:Int)*n:=by rw[Int.natCast_mul,Int.toNat_of_nonneg I,aa5]
  omega
 have u:=run_make (P:=P) w t e i z (T.slice W) J E O N n n I (Int.le_refl _) U (by omega);have a:(madeCells z.cells (n.toNat*i.size)).toList=(ao n.toNat V.lK).flatten:=by
  have:i.size=z.cells.size:=by omega
  rw[this,agy z.cells (by omega),x]
 have q:=fun(y:G) (w':World) (h':bm)=>dR.abC (w:=w') (base:=w0.heap.size) (Zp:=Zp) (h:=h') (g:=y) B.nf n.toNat;have j:((ao n.toNat V.lK).flatten).length=n.toNat*V.size:=by
  have:=dR.length (kV (w:=w) (base:=w0.heap.size) (Zp:=Zp) (h:=h) (g:=g) V) _ _ (q g w h);rw[aU]at this;exact this
 refine bY.abB R (K:=.bf V) ho (w1:=w) (.inl rfl) (cur:=madeCells z.cells (n.toNat*i.size)) (e0:=e) (k:=0) (cap:=n.toNat) (sz:=V.size) (v:=.slice (some ⟨w.heap.size,0,none⟩) n.toNat n.toNat) (by simp[u]) (fun V' h=>by cases h;rfl)
  (fun y w' h' L2 o l=>⟨⟨p,_,_,_,_,_,o,l,?_,?_,by simp only[maxLen];omega,?_⟩,AR.qF ⟨_,_,_,_,0,o,by omega,fun _=>by simp,by simp⟩⟩)
 ·rw[←aI,a,j,dJ]
 ·show @af V.den (ao n.toNat V.zero)≤_;rw[aU];exact az _
 ·show dR _ (ao n.toNat V.zero) (List.take (@af V.den (ao n.toNat V.zero)*V.size) _);rw[aU,dy,a,←j,ch];exact q y w' h'
theorem amJ(R:HR w0 Z0 Zp h g w){t e:TypeId}{d n:TD}(T:eH P t d)(l:eH P e n)(p:d.desc= .slice e){V:VT}(o:VOK P e V){c:Nat}{H:List (Option (List V.den))}(u:look .dead c h= .gh true (.bf V) H){ps:Array (Nat×Value)}(x:ps= #[]):
  bY P w0 Z0 Zp h g w new (do pure (.value (←Instr.buildSlice t 0 ps))) (.v false [.gs c (some (H.length,0,0))]) ((c,.gh true (.bf V) (eE (α:=List V.den) H []))::h):=by
 subst x;obtain⟨D,j,q,_⟩:=l.inf;have i:(Instr.buildSlice t 0 #[]).run P w= .ok (.slice (some ⟨w.heap.size,0,none⟩) 0 0) (w.alloc (.cells #[] e)):=by
  simp[Instr.buildSlice,run_underlying (T.slice p),Go.sizeOf,typeInfo,j,Instr.fill,newRow,Array.range_zero']
 refine bY.abB R (K:=.bf V) u (w1:=w) (.inl rfl) (cur:= #[]) (e0:=e) (k:=0) (cap:=0) (sz:=V.size) (v:=.slice (some ⟨w.heap.size,0,none⟩) 0 0) (by simp[i]) (fun z h=>by cases h;rfl)
  (fun B w' h' y b a=>⟨⟨o.pos,_,_,_,_,_,b,a,by simp,az _,by simp only[maxLen];omega,by simp[dR]⟩,AR.qF ⟨_,_,_,_,0,b,by omega,fun _=>by simp,by simp⟩⟩)
theorem ae4(D:Yk P X.tt)(R:HR w0 Z0 Zp h g w){t:TypeId}{d:TD}(T:eH P t d){o:List (TypeId×Nat)}(F:d.desc= .struct o){V:VT}(B:VOK P t V){pl:List (Nat×Nat)}
  (c:uH (fun f:TypeId×Nat=>match cW f.1 X.tt with |some p=>some (f.2,p.size)|none=>none) o=some pl) {parts:Array (Nat×Operand)}
  {env:Env} {a:Act} (H:∀t,AR w w0.heap.size Zp h g (look aJ t env) (a.tmps.getD t undef)) {cs:List C} (I:Qa (fun i=>pl[i]?) V.mU (parts.toList.map fun(i,x)=>(i,Di env x))=some cs):
  bY P w0 Z0 Zp h g w new (do pure (.value (←Instr.build t (parts.map fun(i,x)=>(i,a.eval x))))) (.v true cs) h:=by
 obtain⟨f,M,e⟩:=T.struct F;obtain⟨i,z,J,_,j,n,_⟩:=B.inf;have l:dM w w0.heap.size Zp h g V.mU z.cells.toList:=by rw[n];exact VT.lj V
 rw[←e]at c;have k:=OR D _ _ c;obtain⟨b,u,y⟩:=Qi (pc:=fun i=>pl.toArray[i]?) (fun i q K=>by simpa using K) H parts.toList _ _ z.cells l I;refine bY.pure R (v:=.agg b) ?_ ⟨b.toList,by simp,y⟩;have E:P.built t (parts.map fun(i,x)=>(i,a.eval x)).toList=some b:=by
  unfold Program.built;simp only[J,M,j,k,Array.toList_map];exact u
 simp[run_build w t _ b E]
end
end Go.Am
