import Derived.Test.YtpdgokkbljiccaaGreatA1
import Derived.Great.FillDense
import Derived.Great.BuildSlice
import Derived.Laws.MakeOwn
set_option linter.unusedVariables false
set_option linter.unusedSimpArgs false
open Array renaming getElem?_toList→av,length_toList→ap
open Bool renaming and_eq_true→ae
open List renaming append_assoc→bd,cons_append→bU,getElem?_append_left→aH,getElem?_drop→aT,getElem?_eq_getElem→ah,getElem?_eq_none→bM,getElem?_set_ne→bI,getElem?_set_self→bJ,getElem?_take→ao,length_append→aE,length_drop→bV,length_take→aP,length→aa,map_cons→aQ,nil_append→bH,replicate→bE,size_toArray→bD,take_of_length_le→bw
open Nat renaming add_assoc→ce,add_mul→bF,add_zero→b8,beq→aJ,blt_eq→b9,eq_of_beq_eq_true→af,le_of_ble_eq_true→cj,le_refl→aq,mul_le_mul_right→a5,zero_add→bv
open Go.Value renaming oneCell'→cq
namespace Go.Am
open Go
section
variable {P:Program} {w0:W0} {w:World} {Z0 Zp:aL} {h h':aD} {g:G} {new next base:Nat} {r:A} {L L':Log} {X:Cx}
theorem dj(b off j:Nat):(⟨b,off,none⟩:Addr).add j=⟨b,off+j,none⟩:=by
 unfold Addr.add;split
 ·rename_i h;subst h;rfl
 ·rfl
theorem Bf{off size:Nat}{cs b:List C}(a:sub off size cs=some b):off+size≤cs.length∧b=(cs.drop off).take size:=by
 unfold sub at a
 split at a
 ·rename_i c;cases a;exact⟨cj c,rfl⟩
 ·cases a
theorem sT{agg:Bool}{size off:Nat}{cs:List C}(e:(partOf agg size off cs .ret).eval next h L=some (r,h',L')):
  h'=h∧L'=L∧off+size≤cs.length∧r= .v agg ((cs.drop off).take size)∧(agg=false→size=1):=by
 unfold partOf at e
 split at e
 ·rename_i k j;obtain⟨b,d⟩:=Bf j;subst d
  split at e
  ·rename_i l;simp[HM.eval]at e;exact⟨e.2.1.symm,e.2.2.symm,b,by rw[←e.1],fun i=>by cases i⟩
  ·rename_i c n a;simp[HM.eval]at e;refine⟨e.2.1.symm,e.2.2.symm,b,by rw[←e.1,a],fun _=> ?_⟩;have:=congrArg aa a;simp at this;omega
  ·exact(ac e).elim
 ·exact(ac e).elim
theorem getElem?_sub{α:Type}(vs:List α)(c n j:Nat)(u:α)(h:((vs.drop c).take n)[j]? =some u):vs[c+j]? =some u:=by
 rw[ao]at h
 split at h
 ·rw[aT]at h;exact h
 ·cases h
theorem kL{t:TypeId}{d:TD}(T:cn P t d){cs:List C}{vs:List Value}{b off c:Nat}(q:bG w base Zp h g cs vs)
  (n:∀j u,vs[j]? =some u→w.cell? ⟨b,off+j,none⟩=some u) (e:(partOf d.agg d.size c cs .ret).eval next h L=some (r,h',L')):
  h'=h∧∃v,(loadVar t ⟨b,off+c,none⟩).run P w= .ok v w∧AR w base Zp h g r v:=by
 obtain⟨rfl,_,z,rfl,x⟩:=sT e;have B:=q.length;have i:∀j u,((vs.drop c).take d.size)[j]? =some u→w.cell? ((⟨b,off+c,none⟩:Addr).add j)=some u:=fun j u y=>by
  rw[dj,ce];exact n (c+j) u (getElem?_sub vs c d.size j u y)
 have a:((vs.drop c).take d.size).length=d.size:=by simp;omega
 have k:=bG.take d.size _ _ (bG.drop c _ _ q);refine⟨rfl,?_⟩
 cases o:d.agg with
 |true=>
  have l:=run_loadCells_list (P:=P) w ⟨b,off+c,none⟩ ((vs.drop c).take d.size) i;rw[a]at l;refine⟨_,?_,(vs.drop c).take d.size,rfl,k⟩;simp[loadVar,T.isAgg,T.sizeOf,o,l]
 |false=>
  have p:=x o;rw[p]at k a i;obtain⟨v,n⟩:∃v,(vs.drop c).take 1=[v]:=List.length_eq_one_iff.1 a;refine⟨v,?_,?_⟩
  ·have:=i 0 v (by rw[n];rfl);rw[dj,b8]at this;simp[loadVar,T.isAgg,o,run_load,this]
  ·rw[p];rw[n]at k;exact k
theorem Fl{t:TypeId}{d:TD}(T:cn P t d){cs:List C}{vs:List Value}{c:Nat}(k:bG w base Zp h g cs vs)
  (e:(partOf d.agg d.size c cs .ret).eval next h L=some (r,h',L')):
  h'=h∧∃v,(part t vs.toArray c).run P w= .ok v w∧AR w base Zp h g r v:=by
 obtain⟨rfl,_,p,rfl,n⟩:=sT e;have q:=k.length;have b:((vs.drop c).take d.size).length=d.size:=by simp;omega
 have a:=bG.take d.size _ _ (bG.drop c _ _ k);refine⟨rfl,?_⟩
 cases i:d.agg with
 |true=>
  refine⟨.agg (vs.toArray.extract c (c+d.size)),?_,(vs.drop c).take d.size,?_,a⟩
  ·simp[part,T.isAgg,T.sizeOf,i]
  ·simp
 |false=>
  have j:=n i;rw[j]at a b;obtain⟨v,l⟩:∃v,(vs.drop c).take 1=[v]:=List.length_eq_one_iff.1 b;refine⟨v,?_,?_⟩
  ·have o:vs[c]? =some v:=by
    have:=getElem?_sub vs c 1 0 v (by rw[l];rfl);simpa using this
   simp[part,T.isAgg,i,o]
  ·rw[j];rw[l]at a;exact a
theorem bm.get{α:Type}{R:α→List Value→Prop}{k:Nat}(p:∀x d,R x d→d.length=k):∀(l:List α) (vs:List Value),bm R l vs→∀(i:Nat) (x:α),l[i]? =some x→R x ((vs.drop (i*k)).take k)
 |[],_,_,i,x,b=>by simp at b
 |y::l,_,⟨d,a,e,j,t⟩,0,x,b=>by
  simp at b;subst b;subst e;have:=p _ _ j;simp[←this];exact j
 |y::l,_,⟨d,a,e,j,t⟩,i+1,x,b=>by
  subst e;have u:=bm.get p l a t i x (by simpa using b);have D:=p _ _ j;have:(i+1)*k=d.length+i*k:=by rw[D,bF];omega
  rw[this,←List.drop_drop,List.drop_left];exact u
theorem PR.k{Z:aL}(e:Ty):∀(x:e.den) (a:List Value),PR w Z Zp e x a→a.length=e.size:=fun x a b=>PR.length e x a b
theorem cW{b:Nat}{cur:Array Value}{e0:TypeId}{a:Nat×Nat}(c:w.heap[b]? =some (.cells cur e0 a))(i:Nat):w.cell? ⟨b,i,none⟩=cur[i]? :=by
 simp[World.cell?,c]
theorem dK{b:Nat}{cur:Array Value}{e0:TypeId}{a:Nat×Nat}(c:w.heap[b]? =some (.cells cur e0 a))(k n:Nat):∀j u,((cur.toList.drop k).take n)[j]? =some u→w.cell? ⟨b,k+j,none⟩=some u:=by
 intro j u d;rw[cW c];have:=getElem?_sub _ k n j u d;simpa using this
def VT.dJ:VT→List Value
 |.data τ=>τ.dJ
 |.gp _ _=>[.pointer none]
 |.gs _=>[.slice none 0 0]
 |.gm _=>[.map none]
 |.cl _ _ _=>[.nilFunc]
 |.pair a b=>a.dJ++b.dJ
 |.unit=>[]
def VT.mu:VT→Bool
 |.data τ=>τ.aX&&τ.mu
 |.pair a b=>a.mu&&b.mu
 |_=>true
structure r0 (P:Program) (t:TypeId) (V:VT):Prop where
 ok:V.ok=true
 nf:V.mu=true
 pos:0<V.size
 info:(P.info? t).map (fun i=>(i.size,i.zero.map fun z=>(z.cells.toList,xp z)))=some (V.size,some (V.dJ,V.isAgg))
def xq(P:Program)(l:List (TypeId×VT)):Prop:=∀p∈l,r0 P p.1 p.2
theorem xq.get{l:List (TypeId×VT)}(H:xq P l){t:TypeId}{V:VT}(h:ba t l=some V):r0 P t V:=H _ (kK h)
theorem r0.inf{t:TypeId}{V:VT}(T:r0 P t V):∃i z,P.info? t=some i∧i.size=V.size∧i.zero=some z∧z.cells.toList=V.dJ∧xp z=V.isAgg:=by
 have:=T.info
 cases a:P.info? t with
 |none=>simp[a]at this
 |some i=>
  cases b:i.zero with
  |none=>simp[a,b]at this
  |some z=>simp[a,b]at this;exact⟨i,z,rfl,this.1,b,this.2.1,this.2.2⟩
theorem r0.sizeOf{t:TypeId}{V:VT}(T:r0 P t V)(w:World):(Go.sizeOf t).run P w= .ok V.size w:=by
 obtain⟨i,z,a,b,_⟩:=T.inf;simp[Go.sizeOf,typeInfo,a,b]
theorem Ty.cL:∀(τ:Ty) (x:τ.den),(τ.cells x).length=τ.size
 |.bool,_ |.int _,_ |.str,_ |.sl _,_ |.unit,_ |.ref _,_ |.fn _,_ |.cl _ _,_=>rfl
 |.pair a b,x=>by simp[Ty.cells,Ty.size,Ty.cL a,Ty.cL b]
theorem VT.cL:∀(V:VT) (x:V.den),(V.cells x).length=V.size
 |.data τ,x=>Ty.cL τ x
 |.gp _ _,_ |.gs _,_ |.gm _,_ |.cl _ _ _,_ |.unit,_=>rfl
 |.pair a b,x=>by simp[VT.cells,VT.size,VT.cL a,VT.cL b]
theorem cO{α:Type}{H:List (Option α)}{i:Nat}{x:α}(a:dI H i=some x):H[i]? =some (some x):=by
 unfold dI at a
 split at a
 ·rename_i h;cases a;exact h
 ·cases a
theorem nV{α:Type}{H b:List (Option α)}{i:Nat}{x:α}(a:n5 H i x=some b):(∃y,H[i]? =some (some y))∧b=H.set i (some x):=by
 unfold n5 at a
 split at a
 ·rename_i y h;cases a;exact⟨⟨y,h⟩,rfl⟩
 ·cases a
theorem cB{K b:GK}{H:List (Option K.ga)}{c:List (Option b.ga)}(a:dz K b H=some c):∃h:K=b,c=h▸H:=by
 unfold dz at a
 split at a
 ·rename_i e _;subst e;cases a;exact⟨rfl,rfl⟩
 ·cases a
theorem IW{base:Nat}{V:VT}{l:List V.den}{vs:List Value}(b:bm (fun y a=>bG w base Zp h g (V.cells y) a) l vs){i:Nat}{y:V.den}(d:l[i]? =some y):bG w base Zp h g (V.cells y) ((vs.drop (i*V.size)).take V.size):=
 bm.get (fun x a c=>(bG.length _ _ c).trans (VT.cL V x)) l vs b i y d
theorem eI{α:Type}{x:α}{p:Prop}(h:none=some x):p:=by cases h
theorem VT.GH{c off:Nat}(d:C){cs r:List C}{x:Option Nat}(b:VT.take (.gp c off) (d::cs)=some (x,r)):(d= .nilp∧x=none∧r=cs)∨(d= .gp c off x∧r=cs):=by
 cases d
 case nilp=>
  have h:some ((none:Option Nat),cs)=some (x,r):=b;have h:=Option.some.inj h;exact .inl ⟨rfl,(congrArg Prod.fst h).symm,(congrArg Prod.snd h).symm⟩
 case gp i a y=>
  have h:(match aJ c i&&aJ off a with |true=>some (y,cs)|false=>none)=some (x,r):=b
  split at h
  ·rename_i hb;rw[ae]at hb;have h:=Option.some.inj h;rw[af hb.1,af hb.2];exact .inr ⟨by rw[show y=x from congrArg Prod.fst h],(congrArg Prod.snd h).symm⟩
  ·exact eI h
 all_goals exact eI (show(none:Option (Option Nat×List C))=some (x,r)from b)
theorem VT.GI{c:Nat}(d:C){cs r:List C}{x:Option (Nat×Nat×Nat)}(a:VT.take (.gs c) (d::cs)=some (x,r)):(d= .nils∧x=none∧r=cs)∨(d= .gs c x∧r=cs):=by
 cases d
 case nils=>
  have h:some ((none:Option (Nat×Nat×Nat)),cs)=some (x,r):=a;have h:=Option.some.inj h;exact .inl ⟨rfl,(congrArg Prod.fst h).symm,(congrArg Prod.snd h).symm⟩
 case gs b y=>
  have h:(match aJ c b with |true=>some (y,cs)|false=>none)=some (x,r):=a
  split at h
  ·rename_i hb;have h:=Option.some.inj h;rw[af hb];exact .inr ⟨by rw[show y=x from congrArg Prod.fst h],(congrArg Prod.snd h).symm⟩
  ·exact eI h
 all_goals exact eI (show(none:Option (Option (Nat×Nat×Nat)×List C))=some (x,r)from a)
theorem VT.GJ{c:Nat}(d:C){cs r:List C}{x:Option Nat}(a:VT.take (.gm c) (d::cs)=some (x,r)):d= .gm c x∧r=cs:=by
 cases d
 case gm b y=>
  have h:(match aJ c b with |true=>some (y,cs)|false=>none)=some (x,r):=a
  split at h
  ·rename_i hb;have h:=Option.some.inj h;rw[af hb];exact⟨by rw[show y=x from congrArg Prod.fst h],(congrArg Prod.snd h).symm⟩
  ·exact eI h
 all_goals exact eI (show(none:Option (Option Nat×List C))=some (x,r)from a)
theorem VT.GM{f:FuncId}{l m:List (Nat×Nat)}(d:C){cs r:List C}{x:Option (List Nat×List Nat)}(a:VT.take (.cl f l m) (d::cs)=some (x,r)):d= .gcl f l m x∧r=cs:=by
 cases d
 case gcl p t u y=>
  have h:(match decEq f p,decEq l t,decEq m u with |.isTrue _,.isTrue _,.isTrue _=>some (y,cs)|_,_,_=>none)=some (x,r):=a
  split at h
  ·rename_i b i j _ _ _;have h:=Option.some.inj h;rw[b,i,j];exact⟨by rw[show y=x from congrArg Prod.fst h],(congrArg Prod.snd h).symm⟩
  ·exact eI h
 all_goals exact eI (show(none:Option (Option (List Nat×List Nat)×List C))=some (x,r)from a)
theorem VT.Ef{a b:VT}{cs r:List C}{x:a.den×b.den}(d:VT.take (.pair a b) cs=some (x,r)):∃y z i,a.take cs=some (y,i)∧b.take i=some (z,r)∧x=(y,z):=by
 have d:(match a.take cs with
  |some (x,r)=>(match b.take r with
   |some (y,u)=>some ((x,y),u)
   |none=>none:Option ((a.den×b.den)×List C))
  |none=>none)=some (x,r):=d
 split at d
 ·rename_i y i p
  split at d
  ·rename_i z D t;have d:=Option.some.inj d;have j:(y,z)=x:=congrArg Prod.fst d;have l:D=r:=congrArg Prod.snd d;subst l;exact⟨y,z,i,p,t,j.symm⟩
  ·exact eI d
 ·exact eI d
theorem VT.vm{base:Nat}:∀(V:VT) (cs:List C) (vs:List Value) (x:V.den) (r:List C),V.ok=true→bG w base Zp h g cs vs→V.take cs=some (x,r)→
  ∃u rs,vs=u++rs∧bG w base Zp h g (V.cells x) u∧bG w base Zp h g r rs
 |.data τ,cs,vs,x,r,t,D,j=>by
  obtain⟨u,rs,e,l,p⟩:=uT τ cs vs x r t D j;exact⟨u,rs,e,bG.gT τ x u l,p⟩
 |.gp c E,[],_,_,_,_,_,j=>by cases j
 |.gs c,[],_,_,_,_,_,j=>by cases j
 |.gm c,[],_,_,_,_,_,j=>by cases j
 |.cl _ _ _,[],_,_,_,_,_,j=>by cases j
 |.gp c E,d::cs,vs,x,r,_,⟨v,i,e,l,p⟩,j=>by
  rcases VT.GH d j with⟨rfl,rfl,rfl⟩|⟨rfl,rfl⟩
  ·exact⟨[v],i,e,⟨v,[],rfl,l,rfl⟩,p⟩
  ·exact⟨[v],i,e,⟨v,[],rfl,l,rfl⟩,p⟩
 |.gs c,d::cs,vs,x,r,_,⟨v,i,e,l,p⟩,j=>by
  rcases VT.GI d j with⟨rfl,rfl,rfl⟩|⟨rfl,rfl⟩
  ·exact⟨[v],i,e,⟨v,[],rfl,l,rfl⟩,p⟩
  ·exact⟨[v],i,e,⟨v,[],rfl,l,rfl⟩,p⟩
 |.gm c,d::cs,vs,x,r,_,⟨v,i,e,l,p⟩,j=>by
  obtain⟨rfl,rfl⟩:=VT.GJ d j;exact⟨[v],i,e,⟨v,[],rfl,l,rfl⟩,p⟩
 |.cl _ _ _,d::cs,vs,x,r,_,⟨v,i,e,l,p⟩,j=>by
  obtain⟨rfl,rfl⟩:=VT.GM d j;exact⟨[v],i,e,⟨v,[],rfl,l,rfl⟩,p⟩
 |.pair a b,cs,vs,x,r,t,D,j=>by
  have t:(a.ok&&b.ok)=true:=t;rw[ae]at t;obtain⟨y,z,J,l,p,O⟩:=VT.Ef j;subst O;obtain⟨u,rs,e,Q,K⟩:=VT.vm a cs vs y J t.1 D l;obtain⟨I,H,N,R,M⟩:=VT.vm b J rs z _ t.2 K p;exact⟨u++I,H,by rw[e,N,bd],bG.append _ _ _ _ Q R,M⟩
 |.unit,cs,vs,x,r,_,D,j=>by
  cases j;exact⟨[],vs,by simp,rfl,D⟩
theorem VT.eX{base:Nat}{V:VT}{cs:List C}{vs:List Value}{x:V.den}(d:V.ok=true)(b:bG w base Zp h g cs vs)(a:V.bp cs=some x):bG w base Zp h g (V.cells x) vs:=by
 unfold VT.bp at a
 split at a
 ·rename_i y i
  cases a;obtain⟨j,rs,e,p,c⟩:=VT.vm V cs vs _ _ d b i;simp only[bG]at c;subst c;simp at e;subst e;exact p
 ·cases a
theorem uU(R:HR w0 Z0 Zp h g w){a:C}{v:Value}(B:CR w w0.heap.size Zp h g a v){k:List C→HM}{p:A×aD×Log}(e:(J5 a k).eval next h L=some p):
  ∃b off cs vs O,v= .pointer (some ⟨b,off,none⟩)∧bG w w0.heap.size Zp h g cs vs∧(∀(j:Nat) u,vs[j]? =some u→w.cell? ⟨b,off+j,none⟩=some u)∧(k cs).eval next h O=some p:=by
 unfold J5 at e
 split at e
 ·rename_i c off x;obtain⟨id,E,e⟩:=aC e;rw[E]at B;have e:=aR e
  split at e
  ·rename_i wr V H F;obtain⟨y,K,e⟩:=aC e;obtain⟨S,b,t,z,Q,I,d,D⟩:=R.gh.ga c wr _ H id y F (cO K);obtain⟨q,o,W,rfl⟩:=B;rw[I]at o;cases o;exact⟨b,off,_,_,_,rfl,bG.drop off _ _ D,fun j u n=>by rw[cW d];rw[aT]at n;simpa using n,e⟩
  ·exact(ac e).elim
 ·rename_i c id M off;have e:=aR e
  split at e
  ·rename_i wr V H F;obtain⟨l,T,e⟩:=aC e;obtain⟨y,K,e⟩:=aC e;obtain⟨S,b,kk,t,z,Q,I,d,Y,U,_,J⟩:=R.gh.ga c wr _ H id l F (cO T);obtain⟨b',k',N,Z,o,rfl⟩:=B;rw[I]at o;cases o;refine⟨b,kk+M*V.size+off,_,_,_,rfl,bG.drop off _ _ (IW J K),fun j u n=> ?_,e⟩;rw[cW d];rw[aT]at n;have i:=getElem?_sub _ _ _ _ _ n;rw[ao]at i
   split at i
   case isFalse=>cases i
   rw[aT]at i;rw[←av];rw[show kk+M*V.size+off+j=kk+(M*V.size+(off+j))by omega];exact i
  ·exact(ac e).elim
 ·exact(ac e).elim
theorem r2(R:HR w0 Z0 Zp h g w){t:TypeId}{d:TD}(T:cn P t d){a:A}{v:Value}(K:AR w w0.heap.size Zp h g a v)(e:(u4 d a).eval next h L=some (r,h',L')):
  h'=h∧∃u,(Instr.loadAt t v).run P w= .ok u w∧AR w w0.heap.size Zp h g r u:=by
 unfold u4 at e
 split at e
 ·rename_i o off;have e:=aR e
  split at e
  ·rename_i H E;obtain⟨M,hp,Q⟩:=K.c;obtain⟨b,N,rfl⟩:=Q (by rw[E];simp);have y:=R.ob o;rw[E]at y;obtain⟨b',J,e0,p,q,D⟩:=y;rw[N]at p;cases p;have:=kL (P:=P) T (off:=0) (b:=b) D (fun j u hj=>by rw[bv,cW q];simpa using hj) e;simpa[Instr.loadAt,Instr.sureAddr]using this
  ·exact(ac e).elim
 ·rename_i τ x c;obtain⟨b,off,us,rfl,F,hce⟩:=K.c;have:=kL (P:=P) T (h:=h) (g:=g) (base:=w0.heap.size) (Zp:=Zp) (bG.gT τ x us F) (fun j u hj=>(hce j u hj).1) e;simpa[Instr.loadAt,Instr.sureAddr]using this
 ·rename_i o i c;have e:=aR e
  split at e
  ·rename_i z l E;obtain⟨x,hx,e⟩:=aC e;obtain⟨M,hp,Q⟩:=K.c;obtain⟨b,N,rfl⟩:=Q z (aa l) (by rw[E];rfl);have y:=R.ob o;rw[E]at y;obtain⟨_,_,b',J,e0,p,q,F⟩:=y;rw[N]at p;cases p;have S:=bm.get (PR.k z) l _ F i x hx;have:=kL (P:=P) T (h:=h) (g:=g) (base:=w0.heap.size) (Zp:=Zp) (bG.gT z x _ S) (b:=b) (off:=i*z.size) (dK q _ _) e;simpa[Instr.loadAt,Instr.sureAddr]using this
  ·rename_i z l E;obtain⟨x,hx,e⟩:=aC e;obtain⟨M,hp,Q⟩:=K.c;obtain⟨b,N,rfl⟩:=Q z (aa l) (by rw[E];rfl);have y:=R.ob o;rw[E]at y;obtain⟨_,_,b',J,e0,fz,p,q,F,_⟩:=y;rw[N]at p;cases p;have S:=bm.get (PR.k z) l _ F i x hx;have:=kL (P:=P) T (h:=h) (g:=g) (base:=w0.heap.size) (Zp:=Zp) (bG.gT z x _ S) (b:=b) (off:=i*z.size) (dK q _ _) e;simpa[Instr.loadAt,Instr.sureAddr]using this
  ·exact(ac e).elim
 ·rename_i o off len i
  split at e
  ·rename_i k hk;have e:=aR e
   split at e
   ·rename_i H E
    split at e
    ·rename_i ds hs
     split at e
     ·rename_i l B;obtain⟨n,I,e⟩:=aC e;obtain⟨rfl,rfl,_⟩:=cu e;obtain⟨M,hp,Q⟩:=K.c;obtain⟨b,N,rfl⟩:=Q (by rw[E];simp);have y:=R.ob o;rw[E]at y;obtain⟨b',J,e0,p,q,D⟩:=y;rw[N]at p;cases p;obtain⟨_,rfl⟩:=Bf hs;have Z:=bG.take len _ _ (bG.drop off _ _ D);have key:∀(H:List C) (U:List Value) (l:List Int),bG w w0.heap.size Zp h' g H U→u2 k H=some l→∀(i:Nat) (n:Int),l[i]? =some n→U[i]? =some (.int k n):=by
       intro H
       induction H with
       |nil=>intro U l _ B i n I;simp[u2]at B;subst B;simp at I
       |cons c H ih=>
        intro U l D B i n I;obtain⟨v,rest,e,V,W⟩:=D;subst e
        cases c<;>simp only[u2]at B<;>try (cases B;done)
        split at B
        ·rename_i hkk _;subst hkk
         split at B
         ·rename_i l2 PO
          cases B
          cases i with
          |zero=>simp at I;subst I;simpa[CR]using V
          |succ i=>simp at I;simpa using ih rest l2 W PO i n I
         ·cases B
        ·cases B
      have h5:=getElem?_sub _ _ _ _ _ (key _ _ _ Z B i n I);have O:w.cell? ⟨b,off+i,none⟩=some (.int k n):=by rw[cW q];simpa using h5
      have Y:d.agg=false:=by have:=T.agg;rw[hk]at this;simpa[D6]using this.symm
      refine⟨rfl,.int k n,?_,AR.eU rfl⟩;simp[Instr.loadAt,Instr.sureAddr,loadVar,T.isAgg,Y,run_load,O]
     ·exact(ac e).elim
    ·exact(ac e).elim
   ·exact(ac e).elim
  ·exact(ac e).elim
 ·rename_i c off x;obtain⟨b,o,H,U,L1,rfl,V,W,e⟩:=uU R K.c e;have:=kL (P:=P) T (off:=o) (b:=b) V W e;simpa[Instr.loadAt,Instr.sureAddr]using this
 ·rename_i c id ix off;obtain⟨b,o,H,U,L1,rfl,V,W,e⟩:=uU R K.c e;have:=kL (P:=P) T (off:=o) (b:=b) V W e;simpa[Instr.loadAt,Instr.sureAddr]using this
 ·exact(ac e).elim
theorem vn{f:Field}{a:TD}(T:cn P f.type a)(c:0<a.size)(b off:Nat):(fieldPlace ⟨b,off,none⟩ f).run P w= .ok ⟨b,off+f.offset,none⟩ w:=by
 have:a.size≠0:=by omega
 simp[fieldPlace,T.sizeOf,this,dj]
theorem vo{a:A}{v:Value}{n:Nat}(z:AR w base Zp h g a v)(e:(zr a n).eval next h L=some (r,h',L')):
  h'=h∧∃b off,v= .pointer (some ⟨b,off,none⟩)∧AR w base Zp h g r (.pointer (some ⟨b,off+n,none⟩)):=by
 unfold zr at e
 split at e
 ·rename_i o off;have e:=aR e
  split at e
  ·exact(ac e).elim
  ·rename_i I;obtain⟨rfl,rfl,_⟩:=aS e;obtain⟨p,⟨B,E⟩,y⟩:=z.c;obtain⟨b,d,j⟩:=y I;exact⟨rfl,b,off,j,AR.eU ⟨p,⟨_,rfl⟩,fun _=>⟨b,d,rfl⟩⟩⟩
 ·rename_i τ x c;obtain⟨rfl,rfl,_⟩:=aS e;obtain⟨b,off,R,E,d,j⟩:=z.c;exact⟨rfl,b,off+c,E,AR.eU ⟨b,off,R,by rw[ce],d,j⟩⟩
 ·rename_i o i c;have e:=aR e
  split at e
  ·rename_i t l M;obtain⟨rfl,rfl,_⟩:=aS e;obtain⟨p,⟨B,E⟩,y⟩:=z.c;obtain⟨b,d,j⟩:=y t (aa l) (by rw[M];rfl);refine⟨rfl,b,_,j,AR.eU ⟨p,⟨_,rfl⟩,fun H N J=> ?_⟩⟩;obtain⟨O,u,D⟩:=y H N J;rw[d]at u;cases u;rw[j]at D;simp at D;exact⟨b,d,by simp;try omega⟩
  ·rename_i t l M;obtain⟨rfl,rfl,_⟩:=aS e;obtain⟨p,⟨B,E⟩,y⟩:=z.c;obtain⟨b,d,j⟩:=y t (aa l) (by rw[M];rfl);refine⟨rfl,b,_,j,AR.eU ⟨p,⟨_,rfl⟩,fun H N J=> ?_⟩⟩;obtain⟨O,u,D⟩:=y H N J;rw[d]at u;cases u;rw[j]at D;simp at D;exact⟨b,d,by simp;try omega⟩
  ·exact(ac e).elim
 ·rename_i c off x;obtain⟨id,K,e⟩:=aC e;rw[K]at z;obtain⟨rfl,rfl,_⟩:=aS e;obtain⟨q,d,j,u⟩:=z.c;exact⟨rfl,q.1,off,u,AR.eU ⟨q,d,j,rfl⟩⟩
 ·rename_i c id S off;obtain⟨rfl,rfl,_⟩:=aS e;obtain⟨b,k,F,Q,d,j⟩:=z.c;exact⟨rfl,b,_,j,AR.eU ⟨b,k,F,Q,d,by rw[ce]⟩⟩
 ·exact(ac e).elim
theorem Bg{α:Type}{l:List α}{i:Int}{x:α}(a:idx l i=some x):0≤i∧i<l.length∧l[i.toNat]? =some x:=by
 unfold idx at a
 split at a
 ·rename_i b;have:=(List.getElem?_eq_some_iff.1 a).1;exact⟨b,by omega,a⟩
 ·cases a
theorem p4{i:Int}{n k:Nat}(a:ck i n=some k):0≤i∧i<n∧k=i.toNat:=by
 unfold ck at a
 split at a
 ·rename_i b;cases a;exact⟨b.1,b.2,rfl⟩
 ·cases a
theorem GN{Z:aL}{e:Ty}{l:List e.den}{v:Value}(F:PR w Z Zp (.sl e) l [v]){i:Nat}{x:e.den}(y:l[i]? =some x)(z:0<e.size):
  ∃b off cap,v= .slice (some ⟨b,off,none⟩) (aa l) cap∧aa l≤cap∧∃a,PR w Z Zp e x a∧∀j u,a[j]? =some u→w.cell? ⟨b,off+i*e.size+j,none⟩=some u∧Z b (off+i*e.size+j):=by
 obtain⟨H,cap,a,t,c,n,p⟩:=F;have d:=bm.length (PR.k e) l a n;have J:=(List.getElem?_eq_some_iff.1 y).1;have q:a≠[]:=by
  intro o;have B:a.length=0:=by rw[o];rfl
  rw[d]at B;have I:0<aa l*e.size:=Nat.mul_pos (by omega) z;omega
 obtain⟨b,off,rfl,D⟩:=p q;simp at t;refine⟨b,off,cap,t,c,_,bm.get (PR.k e) l a n i x y,fun j u E=> ?_⟩;have:=D _ _ (getElem?_sub _ _ _ _ _ E);rw[ce];exact this
theorem hW(i:pR P X.tt){t:TypeId}{n:Nat}(a:ld X t n=true):0<n∧∀w:World,(Go.sizeOf t).run P w= .ok n w:=by
 unfold ld at a
 split at a
 ·rename_i d j;simp only[ae]at a;have b:=af a.1;have c:0<n:=by have:=a.2;simp[b9]at this;exact this
  exact⟨c,fun w=>by rw[(i.get j).sizeOf,b]⟩
 ·cases a
theorem Bh{V a:VT}(h:DK V a=true):V=a:=by
 unfold DK at h;split at h
 ·assumption
 ·cases h
theorem xr(hX:pR P X.tt)(hV:xq P X.la)(R:HR w0 Z0 Zp h g w){t:TypeId}{d:TD}(T:cn P t d){x ix:A}{vx vi:Value}(hx:AR w w0.heap.size Zp h g x vx)(hi:AR w w0.heap.size Zp h g ix vi)
  (e:(py X d x ix).eval next h L=some (r,h',L')):
  h'=h∧∃u,(Instr.indexAt t vx vi).run P w= .ok u w∧AR w w0.heap.size Zp h g r u:=by
 unfold py at e
 split at e
 ·rename_i k i;have Z:=hi.c;simp only[CR]at Z;subst Z
  split at e
  ·rename_i _ _ te a l tk J
   split at e
   ·rename_i B;obtain⟨p,D⟩:=hW hX B;obtain⟨y,hy,e⟩:=aC e;obtain⟨rfl,rfl,_⟩:=aS e;obtain⟨E,F,h2⟩:=Bg hy;obtain⟨b,off,Q,rfl,_,us,C6,O⟩:=GN hx.c.1 h2 p;refine⟨rfl,_,?_,AR.eU ⟨b,off+i.toNat*a.size,us,rfl,C6,fun j u hj=>⟨(O j u hj).1,.inl (O j u hj).2⟩⟩⟩;have:i<((aa l:Nat):Int):=F;simp[Instr.indexAt,asIntOf,run_underlying (T.slice J),E,this,D,dj]
   ·exact(ac e).elim
  ·rename_i _ _ te c y J;have e:=aR e
   split at e
   ·rename_i wr V H M
    split at e
    ·rename_i V' Me
     split at e
     ·rename_i U p;have:=Bh U;subst this;obtain⟨q,hq,e⟩:=aC e;obtain⟨n,K,e⟩:=aC e;obtain⟨rfl,rfl,_⟩:=aS e;obtain⟨E,F,rfl⟩:=p4 K;obtain⟨id,a0,n0⟩:=q;rw[hq]at hx;obtain⟨b,k,Q,sz,o0,hp,hle,N,rfl⟩:=hx.c;have Y:=R.gh.Gp c _ V H id _ M hp;simp only at Y;subst Y;refine⟨rfl,_,?_,AR.eU ⟨b,k,Q,V.size,hp,rfl⟩⟩;have PP:=(hV.get Me).sizeOf (P:=P);have MG:i<(n0:Int):=F;have N:=N (by omega);subst N;simp[Instr.indexAt,asIntOf,run_underlying (T.slice J),E,MG,PP,dj,bF,ce]
     ·exact(ac e).elim
    ·exact(ac e).elim
   ·exact(ac e).elim
  ·rename_i _ _ te o J;have e:=aR e;obtain⟨I,hs,hr⟩:=hx.c
   split at e
   ·rename_i a l M
    split at e
    ·rename_i B;obtain⟨p,D⟩:=hW hX B;obtain⟨n,K,e⟩:=aC e;obtain⟨rfl,rfl,_⟩:=aS e;obtain⟨E,F,rfl⟩:=p4 K;have z:dn (look .dead o h')=some (a,aa l):=by rw[M];rfl
     obtain⟨b,S,rfl⟩:=hr a _ z;refine⟨rfl,.pointer (some ⟨b,i.toNat*a.size,none⟩),?_,AR.eU ⟨I,⟨_,rfl⟩,fun e2 n2 W=> ?_⟩⟩
     ·simp[Instr.indexAt,asIntOf,run_underlying (T.slice J),E,F,D,dj]
     ·rw[z]at W;cases W;exact⟨b,S,rfl⟩
    ·exact(ac e).elim
   ·rename_i a l M
    split at e
    ·rename_i B;obtain⟨p,D⟩:=hW hX B;obtain⟨n,K,e⟩:=aC e;obtain⟨rfl,rfl,_⟩:=aS e;obtain⟨E,F,rfl⟩:=p4 K;have z:dn (look .dead o h')=some (a,aa l):=by rw[M];rfl
     obtain⟨b,S,rfl⟩:=hr a _ z;refine⟨rfl,.pointer (some ⟨b,i.toNat*a.size,none⟩),?_,AR.eU ⟨I,⟨_,rfl⟩,fun e2 n2 W=> ?_⟩⟩
     ·simp[Instr.indexAt,asIntOf,run_underlying (T.slice J),E,F,D,dj]
     ·rw[z]at W;cases W;exact⟨b,S,rfl⟩
    ·exact(ac e).elim
   ·exact(ac e).elim
  ·rename_i _ _ len te o off J
   split at e
   ·rename_i de GO
    split at e
    ·rename_i O;simp only[ae]at O;have PQ:=af O.1;have Sf:1<len:=by have:=O.2;simp[b9]at this;exact this
     have e:=aR e
     split at e
     ·rename_i cs M;obtain⟨n,K,e⟩:=aC e;obtain⟨rfl,rfl,_⟩:=aS e;obtain⟨E,F,rfl⟩:=p4 K;obtain⟨I,hs,hr⟩:=hx.c;obtain⟨b,S,rfl⟩:=hr (by rw[M];simp);have Te:=hX.get GO;refine⟨rfl,_,?_,AR.eU ⟨I,⟨_,rfl⟩,fun _=>⟨b,S,rfl⟩⟩⟩;simp[Instr.indexAt,asIntOf,run_underlying (T.array J),E,F,Te.sizeOf,dj,PQ,Instr.sureAddr]
     ·exact(ac e).elim
    ·exact(ac e).elim
   ·exact(ac e).elim
  ·exact(ac e).elim
 ·exact(ac e).elim
end
section
variable {P:Program} {w0:W0} {w:World} {Z0 Zp:aL} {h h':aD} {g:G} {new next base:Nat} {r:A} {L L':Log} {X:Cx}
theorem zD{Z k:aL}{e:Ty}{l:List e.den}{b:Nat}{cur:Array Value}{e0:TypeId}{q:Nat×Nat}(a:w.heap[b]? =some (.cells cur e0 q))(n:bm (PR w Z Zp e) l cur.toList)
  (z:∀c i,Z c i→k c i) (o:∀i,i<cur.size→k b i):PR w k Zp (.sl e) l [.slice (some ⟨b,0,none⟩) (aa l) (aa l)]:=
 ⟨_,_,cur.toList,rfl,aq _,bm.mono (fun x p y=>PR.mono (fun c i h=>⟨z c i h,rfl⟩) (bc.refl _ _) e x p y) _ _ n,
  fun _=>⟨b,0,rfl,fun j u t=>by
   have d:cur[j]? =some u:=by simpa using t
   rw[bv];exact⟨by rw[cW a];exact d,o j (Array.getElem?_eq_some_iff.1 d).1⟩⟩⟩
theorem lh(R:HR w0 Z0 Zp h g w){c:C}{v:Value}(E:CR w w0.heap.size Zp h g c v){k:C→HM}{x:A×aD×Log}(e:(fk true c k).eval next h L=some x):
  ∃K p g1 y,(k K).eval next p y=some x∧HR w0 Z0 Zp p g1 w∧Le Zp h g w p g1 w∧Fz h g p g1∧CR w w0.heap.size Zp p g1 K v:=by
 cases c
 case vec o=>
  simp only[fk]at e;have e:=aR e;obtain⟨D,S,M⟩:=E
  split at e
  ·rename_i i l u;have e:=bx e;obtain⟨g1,I,y,F⟩:=R.freeze u;have d:=I.ob o;rw[ax,if_pos rfl]at d;obtain⟨Q,B,b,z,N,O,q,a,n,H⟩:=d;obtain⟨J,j,rfl⟩:=M i (aa l) (by rw[u];rfl);have:J=b:=by
    have:=y.hm o D (by rw[ax,if_pos rfl];simp);rw[this,j]at q;cases q;rfl
   subst this;exact⟨_,_,g1,_,e,I,y,F,zD a n (fun _ _ h=>h) H,trivial⟩
  ·rename_i i l u;have d:=R.ob o;rw[u]at d;obtain⟨Q,B,b,z,N,O,q,a,n,H⟩:=d;obtain⟨J,j,rfl⟩:=M i (aa l) (by rw[u];rfl);rw[j]at q;cases q;exact⟨_,_,g,_,e,R,Le.refl _ _ _ _,Fz.refl _ _,zD a n (fun _ _ h=>h) H,trivial⟩
  ·exact(ac e).elim
 case sl i l t=>exact⟨_,h,g,L,e,R,Le.refl _ _ _ _,Fz.refl _ _,E.1,trivial⟩
 all_goals exact⟨_,h,g,L,e,R,Le.refl _ _ _ _,Fz.refl _ _,E⟩
theorem cd:∀(cs:List C) (vs:List Value) (h:aD) (g:G) (L:Log) (k:List C→HM) (a:A×aD×Log),HR w0 Z0 Zp h g w→bG w w0.heap.size Zp h g cs vs→(di true cs k).eval next h L=some a→
  ∃b i g1 u,(k b).eval next i u=some a∧HR w0 Z0 Zp i g1 w∧Le Zp h g w i g1 w∧Fz h g i g1∧bG w w0.heap.size Zp i g1 b vs
 |[],vs,h,g,L,k,a,R,n,e=>⟨[],h,g,L,e,R,Le.refl _ _ _ _,Fz.refl _ _,n⟩
 |c::cs,vs,h,g,L,k,a,R,n,e=>by
  obtain⟨v,d,rfl,i,J⟩:=n;obtain⟨D,K,H,x,E,z,j,q,o⟩:=lh R i e;obtain⟨b,M,I,y,F,B,l,t,p⟩:=cd cs d K H x _ a z (bG.mono j _ _ J) E;exact⟨D::b,M,I,y,F,B,j.trans l,q.trans t,⟨v,d,rfl,CR.mono l _ _ o,p⟩⟩
def kM(h:aD)(g:G)(w:World):G:=
 { g with Z:=fun b i=>g.Z b i∨(∃o e,∃l:List (Ty.den e),look .dead o h= .row e l∧g.hm o=some b∧(w.cell? ⟨b,i,none⟩).isSome=true)∨∃c id,GL h g c id b∧(w.cell? ⟨b,i,none⟩).isSome=true }
theorem jg(h:aD)(g:G)(w:World):bc w w g.Z (kM h g w).Z:=fun _ _ a=>⟨.inl a,rfl⟩
theorem Bi(h:aD)(g:G)(w:World):Le Zp h g w h (kM h g w) w:=
 ⟨fun _ h=>h,jg h g w,bc.refl _ _,fun _ _=>Ob.to.refl _,fun _ _ _=>rfl,fun _ _ _=>⟨rfl,fun _ _=>rfl⟩,fun _ _ _ h=>h⟩
theorem ow(R:HR w0 Z0 Zp h g w){c:C}{v:Value}(B:CR w w0.heap.size Zp h g c v){k:C→HM}{x:A×aD×Log}(e:(fk false c k).eval next h L=some x):
  ∃E H,(k E).eval next h H=some x∧CR w w0.heap.size Zp h (kM h g w) E v:=by
 cases c
 case vec o=>
  simp only[fk]at e;have e:=aR e;obtain⟨M,Q,F⟩:=B
  split at e
  ·rename_i d l q;have j:=R.ob o;rw[q]at j;obtain⟨K,z,b,y,J,u,a,p⟩:=j;obtain⟨I,n,rfl⟩:=F d (aa l) (by rw[q];rfl);rw[n]at u;cases u;exact⟨_,_,e,zD a p (fun _ _ h=> .inl h) (fun i D=> .inr (.inl ⟨o,d,l,q,n,by rw[cW a];simp[D]⟩)),trivial⟩
  ·rename_i d l q;have j:=R.ob o;rw[q]at j;obtain⟨K,z,b,y,J,O,u,a,p,N⟩:=j;obtain⟨I,n,rfl⟩:=F d (aa l) (by rw[q];rfl);rw[n]at u;cases u;exact⟨_,_,e,zD a p (fun _ _ h=> .inl h) (fun i D=> .inl (N i D)),trivial⟩
  ·exact(ac e).elim
 case sl d l t=>exact⟨_,L,e,PR.mono (jg h g w) (bc.refl _ _) _ _ _ B.1,trivial⟩
 all_goals exact⟨_,L,e,CR.mono (Bi h g w) _ _ B⟩
theorem gj(R:HR w0 Z0 Zp h g w):∀(cs:List C) (vs:List Value) (L:Log) (k:List C→HM) (a:A×aD×Log),bG w w0.heap.size Zp h g cs vs→(di false cs k).eval next h L=some a→
  ∃b n,(k b).eval next h n=some a∧bG w w0.heap.size Zp h (kM h g w) b vs
 |[],vs,L,k,a,i,e=>⟨[],L,e,i⟩
 |c::cs,vs,L,k,a,i,e=>by
  obtain⟨v,d,rfl,x,y⟩:=i;obtain⟨q,o,t,j⟩:=ow R x e;obtain⟨b,p,u,l⟩:=gj R cs d o _ a y t;exact⟨q::b,p,u,⟨v,d,rfl,j,l⟩⟩
theorem Fo(_:HR w0 Z0 Zp h g w){x:A}{v:Value}(j:AR w w0.heap.size Zp h g x v)(e:(IE x).eval next h L=some (r,h',L')):
  h'=h∧∃(n:Nat) (a:Option Addr) (c:Nat),v= .slice a n c∧r= .v false [.int .i64 n]:=by
 unfold IE at e
 split at e
 ·obtain⟨rfl,rfl,_⟩:=cu e;obtain⟨⟨D,t,H,p,_⟩,_⟩:=j.c;simp at p;exact⟨rfl,_,_,_,p,rfl⟩
 ·obtain⟨rfl,rfl,_⟩:=cu e;have:=j.c;simp only[CR]at this;exact⟨rfl,0,_,_,this,rfl⟩
 ·rename_i c y;obtain⟨rfl,rfl,_⟩:=cu e
  cases y with
  |none=>exact⟨rfl,0,_,_,j.c,rfl⟩
  |some q=>
   obtain⟨i,a,n⟩:=q;obtain⟨b,k,t,F,_,_,_,_,p⟩:=j.c;exact⟨rfl,n,_,_,p,rfl⟩
 ·rename_i o;have e:=aR e;obtain⟨B,E,z⟩:=j.c
  split at e
  ·rename_i d l u;obtain⟨rfl,rfl,_⟩:=cu e;obtain⟨b,_,rfl⟩:=z d (aa l) (by rw[u];rfl);exact⟨rfl,_,_,_,rfl,rfl⟩
  ·rename_i d l u;obtain⟨rfl,rfl,_⟩:=cu e;obtain⟨b,_,rfl⟩:=z d (aa l) (by rw[u];rfl);exact⟨rfl,_,_,_,rfl,rfl⟩
  ·exact(ac e).elim
 ·exact(ac e).elim
theorem p5{α:Type}{l m:List α}{a b:Int}(c:slc l a b=some m):0≤a∧a≤b∧b≤l.length∧m=(l.take b.toNat).drop a.toNat:=by
 unfold slc at c
 split at c
 ·rename_i d;cases c;exact⟨d.1,d.2.1,d.2.2,rfl⟩
 ·cases c
theorem gn{x:Option A}{v:Option Value}{d n:Int}(b:match x,v with |none,none=>True |some a,some u=>AR w base Zp h g a u |_,_=>False)(e:Fa x d=some n):
  (v=none∧n=d)∨∃k,v=some (.int k n):=by
 unfold Fa at e
 split at e
 ·cases e
  cases v with
  |none=>exact .inl ⟨rfl,rfl⟩
  |some _=>exact b.elim
 ·rename_i k m
  cases e
  cases v with
  |none=>exact b.elim
  |some u=>have:=AR.c b;simp only[CR]at this;exact .inr ⟨k,by rw[this]⟩
 ·cases e
theorem fB{k:IntKind}{n:Int}{y:Nat}{a:BoundsCode}(b:0≤n)(c:n≤y):(Instr.sliceBound (.int k n) y a).run P w= .ok n.toNat w:=by
 simp[Instr.sliceBound,asIntOf,b,c]
theorem gq{Ii:Bool}{len cap:Nat}{lo i:Option Value}{a b:Int}(p:len≤cap)(q:0≤a)(x:a≤b)(y:b≤len)
  (j:(lo=none∧a=0)∨∃k,lo=some (.int k a)) (d:(i=none∧b=len)∨∃k,i=some (.int k b)):
  (Instr.sliceBounds Ii len cap lo i none).run P w= .ok (a.toNat,b.toNat,cap) w:=by
 have t:((b.toNat:Nat):Int)=b:=by omega
 have o:∀(c:BoundsCode) (k:IntKind),(Instr.sliceBound (.int k b) cap c).run P w= .ok b.toNat w:=fun c k=>fB (by omega) (by omega);have n:∀(c:BoundsCode) (k:IntKind),(Instr.sliceBound (.int k a) b.toNat c).run P w= .ok a.toNat w:=fun c k=>fB q (by omega);rcases j with⟨rfl,rfl⟩|⟨u,rfl⟩<;>rcases d with⟨rfl,rfl⟩|⟨z,rfl⟩
 ·simp[Instr.sliceBounds]
 ·simp[Instr.sliceBounds,o]
 ·have l:=fun c=>n c u;rw[Int.toNat_natCast]at l;simp[Instr.sliceBounds,l]
 ·simp[Instr.sliceBounds,o,n]
theorem tS{Ii:Bool}{len cap:Nat}{lo l:Option Value}{a b m:Int}{km:IntKind}{kb:IntKind}(hm:m≤cap)(n:0≤a)(q:a≤b)(t:b≤m)
  (i:(lo=none∧a=0)∨∃k,lo=some (.int k a)) (d:l=some (.int kb b)):
  (Instr.sliceBounds Ii len cap lo l (some (.int km m))).run P w= .ok (a.toNat,b.toNat,m.toNat) w:=by
 have j:∀(c:BoundsCode),(Instr.sliceBound (.int km m) cap c).run P w= .ok m.toNat w:=fun c=>fB (by omega) (by omega);have p:∀(c:BoundsCode),(Instr.sliceBound (.int kb b) m.toNat c).run P w= .ok b.toNat w:=fun c=>fB (by omega) (by omega);have o:∀(c:BoundsCode) (k:IntKind),(Instr.sliceBound (.int k a) b.toNat c).run P w= .ok a.toNat w:=fun c k=>fB n (by omega);subst d;rcases i with⟨rfl,rfl⟩|⟨u,rfl⟩<;>simp[Instr.sliceBounds]<;>rw[j]<;>simp<;>rw[p]<;>simp
 rw[o];simp
theorem bm.take_drop{α:Type}{R:α→List Value→Prop}{k:Nat}(j:∀x a,R x a→a.length=k):∀(n:Nat) (l:List α) (vs:List Value),bm R l vs→bm R (l.take n) (vs.take (n*k))∧bm R (l.drop n) (vs.drop (n*k))
 |0,l,vs,d=>by simp[bm];exact d
 |n+1,[],vs,d=>by simp[bm]at d;subst d;simp[bm]
 |n+1,x::l,vs,⟨a,b,e,i,p⟩=>by
  have t:=j _ _ i;have u:(n+1)*k=a.length+n*k:=by rw[t,bF];omega
  subst e;obtain⟨y,D⟩:=bm.take_drop j n l b p;rw[u,List.take_length_add_append,List.drop_length_add_append];exact⟨⟨a,_,rfl,i,y⟩,D⟩
theorem Bj(e:Ty)(l:List e.den):fP e e l=some l:=by
 unfold fP
 cases a:decEq e e with
 |isTrue h=>rfl
 |isFalse h=>exact absurd rfl h
theorem Ty.pB:∀(τ:Ty) (x:τ.den) (r:List C),τ.aX=true→τ.take (τ.cells x++r)=some (x,r)
 |.bool,_,_,_=>rfl
 |.int k,x,r,_=>by
  simp only[Ty.cells,bU,bH,Ty.take]
  cases i:decEq k k with
  |isTrue h=>rfl
  |isFalse h=>exact absurd rfl h
 |.str,_,_,_=>rfl
 |.sl e,l,r,_=>by
  simp only[Ty.cells,bU,bH,Ty.take];rw[Bj e l]
 |.pair a b,x,r,d=>by
  simp only[Ty.aX,ae]at d;simp only[Ty.cells,Ty.take,bd,Ty.pB a _ _ d.1,Ty.pB b _ _ d.2];rfl
 |.unit,_,_,_=>rfl
 |.ref _,_,_,d=>by simp[Ty.aX]at d
 |.cl _ _,_,_,d=>by simp[Ty.aX]at d
 |.fn f,_,r,_=>by
  simp only[Ty.cells,bU,bH,Ty.take]
  cases i:decEq f f with
  |isTrue h=>rfl
  |isFalse h=>exact absurd rfl h
theorem Ty.j0{base:Nat}{τ:Ty}(a:τ.aX=true){x:τ.den}{vs:List Value}(b:bG w base Zp h g (τ.cells x) vs):PR w g.Z Zp τ x vs:=by
 refine ci a b ?_;unfold Ty.bp;have:=Ty.pB τ x [] a;rw[List.append_nil]at this;rw[this]
theorem Fp{α:Type}{H:List (Option (List α))}{i a n:Nat}{l:List α}(b:Gu H (some (i,a,n))=some l):∃c,H[i]? =some (some c)∧a+n≤c.length∧l=(c.drop a).take n:=by
 unfold Gu at b;simp only at b
 split at b
 ·rename_i c j
  split at b
  ·rename_i d;cases b;exact⟨c,cO j,d,rfl⟩
  ·cases b
 ·cases b
theorem zE(R:HR w0 Z0 Zp h g w){c:Nat}{wr:Bool}{V:VT}{H:List (Option (List V.den))}(O:look .dead c h= .gh wr (.bf V) H){i a n:Nat}{l:List V.den}{v:Value}(T:CR w w0.heap.size Zp h g (.gs c (some (i,a,n))) v)(U:Gu H (some (i,a,n))=some l):
  ∃b k cap cur e0 o,g.pm c i=some (b,k,cap,V.size)∧w.heap[b]? =some (.cells cur e0 (0,0))∧cur.size=k+cap*V.size∧a+n≤cap∧cap≤maxLen∧(a<cap→o=k+a*V.size)∧v= .slice (some ⟨b,o,none⟩) n (cap -a)∧l.length=n∧GL h g c i b∧0<V.size∧
   bm (fun y q=>bG w w0.heap.size Zp h g (V.cells y) q) l ((cur.toList.drop (k+a*V.size)).take (n*V.size))∧∃d,H[i]? =some (some d)∧a+n≤d.length∧l=(d.drop a).take n:=by
 obtain⟨d,u,p,rfl⟩:=Fp U;obtain⟨F,b,k,cap,cur,e0,E,t,J,W,B,I⟩:=R.gh.ga c wr (.bf V) H i d O u;obtain⟨b',k',K,Z,o,Q,z,D,rfl⟩:=T;rw[E]at Q;cases Q;have N:∀(x:V.den) (q:List Value),bG w w0.heap.size Zp h g (V.cells x) q→q.length=V.size:=fun x q Y=>(bG.length _ _ Y).trans (VT.cL V x);refine⟨b,k,cap,cur,e0,o,E,t,J,z,B,D,rfl,?_,⟨wr,.bf V,H,d,_,O,u,E,rfl⟩,F,?_,d,u,p,rfl⟩
 ·have j:a+n≤aa d:=p;rw[aP,bV];omega
 ·have M:=(bm.take_drop N n _ _ (bm.take_drop N a _ _ I).2).1;have j:a+n≤aa d:=p;have S:(List.drop (a*V.size) (List.take (aa d*V.size) (List.drop k cur.toList))).take (n*V.size)=(cur.toList.drop (k+a*V.size)).take (n*V.size):=by
   rw[List.drop_take,List.take_take,List.drop_drop];congr 1;have:(a+n)*V.size≤aa d*V.size:=a5 _ j;rw[bF]at this;omega
  rw[S]at M;exact M
theorem C8(R:HR w0 Z0 Zp h g w){σ:Ty}{c:Nat}{x:Option (Nat×Nat×Nat)}{v:Value}(E:CR w w0.heap.size Zp h g (.gs c x) v){k:List σ.den→HM}{D:A×aD×Log}(e:(pT σ c x k).eval next h L=some D):
  ∃l T,(k l).eval next h T=some D∧PR w (kM h g w).Z Zp (.sl σ) l [v]:=by
 unfold pT at e;have e:=aR e
 split at e
 ·rename_i wr K H ho
  split at e
  ·rename_i H' W hn;obtain⟨Y,rfl⟩:=cB W;subst Y;obtain⟨l,O,e⟩:=aC e;refine⟨l,_,e,?_⟩
   cases x with
   |none=>
    cases O;have E:v= .slice none 0 0:=E;subst E;exact⟨none,0,[],rfl,aq _,rfl,fun h=>absurd rfl h⟩
   |some q=>
    obtain⟨i,a,n⟩:=q;obtain⟨b,kk,p,U,e0,o,hp,B,hsz,z,_,t,rfl,d,V,S,M,_⟩:=zE R ho E O;have d: @aa σ.den l=n:=d;subst d;have I: @aa σ.den l≤p -a:=by
     have:a+ @aa σ.den l≤p:=z;omega
    refine⟨_,_,_,rfl,I,bm.mono (fun y es hy=>PR.mono (jg h g w) (bc.refl _ _) _ _ _ (Ty.j0 hn hy)) _ _ M,fun J=>⟨b,_,rfl,fun j u hj=> ?_⟩⟩;have Q:0< @aa σ.den l:=by
     rcases Nat.eq_zero_or_pos (@aa σ.den l)with F |F
     ·exfalso;apply J;rw[F];simp
     ·exact F
    have t:=t (by have:a+ @aa σ.den l≤p:=z;omega);subst t;have N:=dK B _ _ j u hj;exact⟨N,.inr (.inr ⟨c,i,V,by rw[N];rfl⟩)⟩
  ·exact(ac e).elim
 ·exact(ac e).elim
theorem zF(R:HR w0 Z0 Zp h g w){σ:Ty}{c:Nat}{x:Option (Nat×Nat×Nat)}{v:Value}(F:CR w w0.heap.size Zp h g (.gs c x) v){K:GK}{H:List (Option K.ga)}(Q:look .dead c h= .gh true K H){Y:List (Option (GK.bf (.data σ)).ga)}(hH:dz K (.bf (.data σ)) H=some Y)(hn:σ.aX=true)
  {r:List σ.den×List (Option (List σ.den))} (I:IA Y x=some r):
  ∃g1,HR w0 Z0 Zp ((c,.gh true (.bf (.data σ)) r.2)::h) g1 w∧Le Zp h g w ((c,.gh true (.bf (.data σ)) r.2)::h) g1 w∧Fz h g ((c,.gh true (.bf (.data σ)) r.2)::h) g1∧PR w g1.Z Zp (.sl σ) r.1 [v]:=by
 obtain⟨hK,rfl⟩:=cB hH;subst hK
 cases x with
 |none=>
  cases I;have F:v= .slice none 0 0:=F;subst F;have D:∀o,look .dead o h=look .dead o ((c,Ob.gh true (.bf (.data σ)) H)::h):=fun o=>by
   rw[ax]
   split
   ·rename_i F;subst F;exact Q
   ·rfl
  exact⟨g,R.same D,Le.same D,⟨rfl,fun S id b ⟨wr,K,H1,x,e,E,k⟩=>⟨wr,K,H1,x,e,(D S).trans E,k⟩⟩,none,0,[],rfl,aq _,rfl,fun h=>absurd rfl h⟩
 |some q=>
  obtain⟨i,a,n⟩:=q;unfold IA at I;simp only at I
  split at I
  ·rename_i l hl
   cases I;obtain⟨b,kk,p,cur,e0,o,hp,N,hsz,J,_,B,rfl,d,hG,hpos,W,l0,O,_⟩:=zE R Q F hl;obtain⟨R',L'⟩:=R.Ko (K:=.bf (.data σ)) Q O hp rfl true rfl;have V:i<H.length:=(List.getElem?_eq_some_iff.1 O).1;refine⟨_,R',L',⟨rfl,fun S id b' ⟨wr,K,H1,x,e,E,k,h3,h4⟩=> ?_⟩,?_⟩
   ·by_cases M:S=c
    ·subst M;rw[ax,if_pos rfl]at E
     cases E;have k:(List.set (α:=Option (GK.bf (.data σ)).ga) H i none)[id]? =some (some x):=k
     have t:id≠i:=by intro h;subst h;rw[bJ V]at k;cases k
     rw[bI (Ne.symm t)]at k;exact⟨true,.bf (.data σ),H,x,e,Q,k,h3,h4⟩
    ·rw[ax,if_neg (Ne.symm M)]at E;exact⟨wr,K,H1,x,e,E,k,h3,h4⟩
   ·have d: @aa σ.den l=n:=d;subst d;have U: @aa σ.den l≤p -a:=by
     have:a+ @aa σ.den l≤p:=J;omega
    refine⟨_,_,_,rfl,U,bm.mono (fun y es hy=>PR.mono L'.z L'.zp _ _ _ (Ty.j0 hn hy)) _ _ W,fun t=>⟨b,_,rfl,fun j u hj=> ?_⟩⟩;have PS:0< @aa σ.den l:=by
     rcases Nat.eq_zero_or_pos (@aa σ.den l)with T |T
     ·exfalso;apply t;rw[T];simp
     ·exact T
    have B:=B (by have:a+ @aa σ.den l≤p:=J;omega);subst B;exact⟨dK N _ _ j u hj,.inr ⟨rfl,rfl⟩⟩
  ·cases I
theorem Fq{Z:aL}{e:Ty}{l:List e.den}{o:Option Addr}{cap:Nat}(Q:PR w Z Zp (.sl e) l [.slice o (aa l) cap]){a b:Nat}(N:a≤b)(R:b≤aa l)(m:Nat)(hm:b≤m)(_:0<e.size):
  PR w Z Zp (.sl e) ((List.take b l).drop a:List e.den) [.slice (if m=a then o else o.map (·.add (a*e.size))) (b -a) (m -a)]:=by
 obtain⟨I,D,B,H,E,x,p⟩:=Q;simp at H;obtain⟨rfl,rfl⟩:=H;have F:=PR.k (w:=w) (Z:=Z) (Zp:=Zp) e;have K:=(bm.take_drop F b l B x).1;have M:=(bm.take_drop F a _ _ K).2;have c:aa ((List.take b l).drop a)=b -a:=by simp;omega
 refine⟨_,_,_,by rw[c],by rw[c];omega,M,fun i=> ?_⟩;have y:B≠[]:=by intro J;subst J;simp at i
 obtain⟨b0,z,rfl,O⟩:=p y;have d:m≠a:=by
  intro d;have q:b=a:=by omega
  apply i;rw[List.drop_eq_nil_iff,aP,q];exact Nat.min_le_left _ _
 refine⟨b0,z+a*e.size,by simp[d,dj],fun j u n=> ?_⟩;have t:B[a*e.size+j]? =some u:=by
  rw[aT,ao]at n
  split at n
  ·exact n
  ·cases n
 have:=O _ _ t;rw[ce];exact this
theorem pC{a:Act}{env:Env}(b:∀t,AR w base Zp h g (look ar t env) (a.tmps.getD t undef))(x:Option Operand):
  match x.map (jJ env),x.map a.eval with |none,none=>True |some a,some u=>AR w base Zp h g a u |_,_=>False:=by
 cases x with
 |none=>trivial
 |some x=>exact bo b x
end
section
variable {P:Program} {w0:W0} {w:World} {Z0 Zp:aL} {h h':aD} {g:G} {new next base:Nat} {r:A} {L L':Log} {X:Cx}
theorem toBeq{a b:Bool}(h:(a==b)=true):a=b:=by simpa using h
theorem C9(hX:pR P X.tt)(hV:xq P X.la)(R:HR w0 Z0 Zp h g w){t:TypeId}{d:TD}(T:cn P t d){x:A}{vx:Value}{lo hi mx:Option A}{OE MH p:Option Value}
  (hx:AR w w0.heap.size Zp h g x vx)
  (J:match lo,OE with |none,none=>True |some a,some u=>AR w w0.heap.size Zp h g a u |_,_=>False)
  (E:match hi,MH with |none,none=>True |some a,some u=>AR w w0.heap.size Zp h g a u |_,_=>False)
  (S:match mx,p with |none,none=>True |some a,some u=>AR w w0.heap.size Zp h g a u |_,_=>False)
  (e:(C2 X d x lo hi mx).eval next h L=some (r,h',L')):
  ∃u g',(Instr.sliceAt t vx OE MH p).run P w= .ok u w∧HR w0 Z0 Zp h' g' w∧Le Zp h g w h' g' w∧Fz h g h' g'∧AR w w0.heap.size Zp h' g' r u:=by
 unfold C2 at e
 split at e
 ·rename_i Y;have K:p=none:=by cases p with |none=>rfl |some _=>exact S.elim
  subst K
  split at e
  ·rename_i s;have hs:=hx.c;simp only[CR]at hs;subst hs
   split at e
   ·rename_i a b ha hb;obtain⟨m,Q,e⟩:=aC e;obtain⟨rfl,rfl,_⟩:=aS e;obtain⟨I,O,h2,rfl⟩:=p5 Q;have Bk:=gn E hb;refine⟨_,g,?_,R,Le.refl _ _ _ _,Fz.refl _ _,AR.eU (v:=.string ((⟨s.toArray⟩:ByteArray).extract a.toNat b.toNat)) ?_⟩
    ·have:=gq (P:=P) (w:=w) (Ii:=false) (len:=s.length) (cap:=s.length) (aq _) I O h2 (gn J ha) Bk;simp[Instr.sliceAt,Instr.slice,run_underlying (T.string Y),mv,this]
    ·simp only[CR];congr 1;apply ByteArray.ext;apply Array.ext';simp[List.drop_take]
   ·exact(ac e).elim
  ·exact(ac e).elim
 ·rename_i te Y;have K:p=none:=by cases p with |none=>rfl |some _=>exact S.elim
  subst K
  split at e
  ·rename_i c y
   split at e
   ·rename_i V' j F Me Kp Z;have e:=aR e
    split at e
    ·rename_i wr V H ho
     split at e
     ·rename_i MI D;rw[←Bh MI]at Me;obtain⟨z,M,e⟩:=aC e;obtain⟨rfl,rfl,_⟩:=aS e;have B:=(hV.get Me).sizeOf (P:=P);have hgN:=hx.c
      cases y with
      |none=>
       unfold Mc at M;simp only at M
       split at M
       ·rename_i I
        cases M;obtain⟨rfl,rfl⟩:=I;have hx:vx= .slice none 0 0:=hgN;subst hx;refine⟨.slice none 0 0,g,?_,R,Le.refl _ _ _ _,Fz.refl _ _,AR.eU rfl⟩;have Bk:=gn E Z;have:=gq (P:=P) (w:=w) (Ii:=true) (len:=0) (cap:=0) (aq _) (Int.le_refl 0) (Int.le_refl 0) (Int.le_refl 0) (gn J Kp) Bk;simp at this;simp[Instr.sliceAt,Instr.slice,run_underlying (T.slice Y),this,B]
       ·cases M
      |some q=>
       obtain⟨i,N,n⟩:=q;unfold Mc at M;simp only at M
       split at M
       ·rename_i I
        cases M;obtain⟨I,O,h2⟩:=I;obtain⟨b,k,cap,sz,o,U,hac,Ij,hv⟩:=hgN;have hsz:=R.gh.Gp c _ V H i _ ho U;simp only at hsz;subst hsz;subst hv;have:=gq (P:=P) (w:=w) (Ii:=true) (len:=n) (cap:=cap -N) (by omega) I O h2 (gn J Kp) (gn E Z)
        by_cases Q:cap -N=j.toNat
        ·refine⟨.slice (some ⟨b,o,none⟩) (F -j).toNat (cap -(N+j.toNat)),g,?_,R,Le.refl _ _ _ _,Fz.refl _ _,AR.eU ⟨b,k,cap,V.size,o,U,by omega,fun h=>by omega,rfl⟩⟩;have e1:F.toNat -j.toNat=(F -j).toNat:=by omega
         have e2:cap -N -j.toNat=cap -(N+j.toNat):=by omega
         rw[Q]at this;simp[Instr.sliceAt,Instr.slice,run_underlying (T.slice Y),Q,this,B,e1,←e2]
        ·have Ij:=Ij (by omega);refine⟨.slice (some ⟨b,k+(N+j.toNat)*V.size,none⟩) (F -j).toNat (cap -(N+j.toNat)),g,?_,R,Le.refl _ _ _ _,Fz.refl _ _,AR.eU ⟨b,k,cap,V.size,_,U,by omega,fun _=>rfl,rfl⟩⟩;have e1:F.toNat -j.toNat=(F -j).toNat:=by omega
         have e2:cap -N -j.toNat=cap -(N+j.toNat):=by omega
         simp[Instr.sliceAt,Instr.slice,run_underlying (T.slice Y),this,B,Q,e1,←e2,Ij,dj,bF,ce]
       ·cases M
     ·exact(ac e).elim
    ·exact(ac e).elim
   ·exact(ac e).elim
  ·rename_i c _;obtain⟨c',O,g1,L1,e,R1,Eg,zG,IX⟩:=lh R hx.c e
   split at e
   ·rename_i PT l tk
    split at e
    ·rename_i MJ;obtain⟨D,B⟩:=hW hX MJ
     split at e
     ·rename_i a b ha hb;obtain⟨m,Q,e⟩:=aC e;obtain⟨rfl,rfl,_⟩:=aS e;obtain⟨I,O,h2,rfl⟩:=p5 Q;obtain⟨U,_⟩:=IX;have Ik:=U;obtain⟨bs,cap,us,hv,W,_⟩:=Ik;simp at hv;subst hv;have IY:=Fq (w:=w) (Zp:=Zp) U (a:=a.toNat) (b:=b.toNat) (by omega) (by omega) cap (by omega) D;refine⟨_,g1,?_,R1,Eg,zG,AR.eU ⟨IY,trivial⟩⟩;have:=gq (P:=P) (w:=w) (Ii:=true) (len:=aa l) (cap:=cap) W I O h2 (gn J ha) (gn E hb);simp[Instr.sliceAt,Instr.slice,run_underlying (T.slice Y),this,B]
     ·exact(ac e).elim
    ·exact(ac e).elim
   ·exact(ac e).elim
  ·exact(ac e).elim
 ·rename_i te m0 Y;obtain⟨um,rfl⟩:∃um,p=some um:=by cases p with |none=>exact S.elim |some u=>exact⟨u,rfl⟩
  split at e
  ·rename_i c;obtain⟨c',O,g1,L1,e,R1,Eg,zG,IX⟩:=lh R hx.c e
   split at e
   ·rename_i PT l tk
    split at e
    ·rename_i MJ;obtain⟨D,B⟩:=hW hX MJ
     split at e
     ·rename_i a b m ha hb hm0;obtain⟨_,PU,e⟩:=aC e;obtain⟨m2,Q,e⟩:=aC e;obtain⟨rfl,rfl,_⟩:=aS e;obtain⟨I,O,h2,rfl⟩:=p5 Q;obtain⟨h3,h4,h5,_⟩:=p5 PU;obtain⟨U,_⟩:=IX;have Ik:=U;obtain⟨bs,cap,us,hv,W,_⟩:=Ik;simp at hv;subst hv;have IY:=Fq (w:=w) (Zp:=Zp) U (a:=a.toNat) (b:=b.toNat) (by omega) (by omega) m.toNat (by omega) D;rcases gn (x:=some m0) (v:=some um) S hm0 with⟨h6,_⟩|⟨km,h6⟩
      ·cases h6
      cases h6
      cases hi with
      |none=>cases hb
      |some PV=>
      cases MH with
      |none=>exact E.elim
      |some MK=>
      rcases gn (x:=some PV) (v:=some MK) E hb with⟨h6,_⟩|⟨kb,h6⟩
      ·cases h6
      ·cases h6;refine⟨_,g1,?_,R1,Eg,zG,AR.eU ⟨IY,trivial⟩⟩;have:=tS (P:=P) (w:=w) (Ii:=true) (len:=aa l) (cap:=cap) (km:=km) (kb:=kb) (m:=m) (a:=a) (b:=b) (by omega) I O h4 (gn J ha) rfl;simp[Instr.sliceAt,Instr.slice,run_underlying (T.slice Y),this,B]
     ·exact(ac e).elim
    ·exact(ac e).elim
   ·exact(ac e).elim
  ·exact(ac e).elim
 ·exact(ac e).elim
def Eh(w w1:World):Prop:=w1=w∨w1=w.drew
theorem Eh.heap{w1:World}(a:Eh w w1):w1.heap=w.heap:=by rcases a with rfl |rfl<;>rfl
theorem Eh.ext{w1:World}(b:Eh w w1)(a:w0.Extends w):w0.Extends w1:=by
 rcases b with rfl |rfl
 ·exact a
 ·exact a.drew
theorem aM.alloc(R:HR w0 Z0 Zp h g w)(p:¬ g.al new){d:Sem Next}{w1:World}(l:Eh w w1){cur:Array Value}{e0:TypeId}{v:Value}(x:Ob)(k:Nat)
  (hr:d.run P w= .ok (.value v) (w1.alloc (.cells cur e0)))
  (y:Le Zp h g w ((new,x)::h) (jL g new (some w.heap.size) k) (w1.alloc (.cells cur e0))→
   (w1.alloc (.cells cur e0)).heap[w.heap.size]? =some (.cells cur e0 (0,0))→
   p2 (w1.alloc (.cells cur e0)) w0.heap.size Zp ((new,x)::h) (jL g new (some w.heap.size) k) new x∧
   AR (w1.alloc (.cells cur e0)) w0.heap.size Zp ((new,x)::h) (jL g new (some w.heap.size) k) r v)
  (i:x.open? =true→k=0):aM P w0 Z0 Zp h g w new d r ((new,x)::h):=by
 have j:(w1.alloc (.cells cur e0)).heap=w.heap.push (.cells cur e0):=by
  show w1.heap.push _=_;rw[l.heap]
 have a:=Le.alloc R p x k j;have b:(w1.alloc (.cells cur e0)).heap[w.heap.size]? =some (.cells cur e0 (0,0)):=by rw[j];simp
 obtain⟨t,u⟩:=y a b;exact⟨_,v,_,_,hr,.inl rfl,R.alloc p x k j ((l.ext R.ext).alloc _) t i,a,u,fun o i=>i⟩
theorem gX(g:G)(new:Nat)(b:Option Nat)(k:Nat):(jL g new b k).hm new=b:=fA _ _ _
theorem zH(g:G)(new:Nat)(b:Option Nat)(k:Nat):(jL g new b k).lo new=k:=fA _ _ _
theorem Fr(new:Nat)(x:Ob)(h:aD):look .dead new ((new,x)::h)=x:=by rw[ax,if_pos rfl]
theorem dQ{base:Nat}:∀τ:Ty,bG w base Zp h g τ.er τ.dJ
 |.bool=>⟨_,[],rfl,rfl,rfl⟩
 |.int _=>⟨_,[],rfl,rfl,rfl⟩
 |.str=>⟨_,[],rfl,rfl,rfl⟩
 |.sl _=>⟨_,[],rfl,rfl,rfl⟩
 |.pair a b=>bG.append _ _ _ _ (dQ a) (dQ b)
 |.unit=>rfl
 |.ref _=>⟨_,[],rfl,rfl,rfl⟩
 |.fn _=>⟨_,[],rfl,rfl,rfl⟩
 |.cl _ _=>⟨_,[],rfl,rfl,rfl⟩
theorem Ei(R:HR w0 Z0 Zp h g w)(k:¬ g.al new){t:TypeId}{d:TD}(T:cn P t d){τ:Ty}(l:d.zero=true)(n:d.ty=some τ):
  aM P w0 Z0 Zp h g w new (do pure (.value (←Instr.alloc t true (.tuple #[])))) (.v false [.ptr new 0]) ((new,.cells τ.er)::h):=by
 obtain⟨i,z,j,_,_,b,c,_⟩:=T.zeroV l n;refine aM.alloc R k (w1:=w) (.inl rfl) (cur:=z.cells) (e0:=t) (v:=.pointer (some ⟨w.heap.size,0,none⟩)) _ 0 ?_ (fun o a=>⟨⟨_,_,_,gX _ _ _ _,a,?_⟩,AR.eU ⟨.inr rfl,⟨_,rfl⟩,fun _=>⟨_,gX _ _ _ _,rfl⟩⟩⟩) (fun _=>rfl)
 ·simp[Instr.alloc,zeroValue,typeInfo,j,b,newVar,newRow,newObj,Sem.run]
 ·rw[c];exact dQ τ
theorem dL{base:Nat}{c:Bool}{cs:List C}{v:Value}(d:cs.all C.known=true)(b:VR w base Zp h g c cs v):bG w base Zp h g cs v.cells.toList:=by
 cases c with
 |true=>obtain⟨i,rfl,a⟩:=b;simpa[Value.cells]using a
 |false=>
  have a:v.oneCell'=true:=bG.one cs [v] d b v (by simp);have:v.cells= #[v]:=by cases v<;>simp[cq]at a<;>rfl
  rw[this];exact b
theorem GP(R:HR w0 Z0 Zp h g w)(j:¬ g.al new){t:TypeId}{c:Bool}{cs:List C}{v:Value}(i:cs.all C.known=true)(d:VR w w0.heap.size Zp h g c cs v):
  aM P w0 Z0 Zp h g w new (do pure (.value (←Instr.box t v))) (.v false [.ptr new 0]) ((new,.cells cs)::h):=by
 refine aM.alloc R j (w1:=w) (.inl rfl) (cur:=v.cells) (e0:=t) (v:=.pointer (some ⟨w.heap.size,0,none⟩)) _ 0 ?_ (fun b a=>⟨⟨_,_,_,gX _ _ _ _,a,?_⟩,AR.eU ⟨.inr rfl,⟨_,rfl⟩,fun _=>⟨_,gX _ _ _ _,rfl⟩⟩⟩) (fun _=>rfl)
 ·simp[Instr.box,newVar,newRow,newObj,Sem.run]
 ·exact bG.mono b _ _ (dL i d)
end
section
variable {P:Program} {w0:W0} {w w':World} {Z0 Zp:aL} {h h':aD} {g:G} {new next base:Nat} {r:A} {L L':Log} {X:Cx}
theorem gY(a:w0.Extends w)(d:w'.os=w.os)(j:w'.tape=w.tape)(k:w'.output=w.output)(l:w.heap.size≤w'.heap.size)(n:∀i:Nat,i<w0.heap.size→¬ w0.B i→w'.heap[i]? =w.heap[i]?):w0.Extends w':=
 ⟨d.trans a.os,j.trans a.tape,k.trans a.output,Nat.le_trans a.size l,fun i c b=>(n i c b).trans (a.block i c b)⟩
theorem setRow_size(w:World)(b:Nat)(c:Array Value):(w.setRow b c).heap.size=w.heap.size:=by simp[World.setRow]
theorem eY(j:w0.Extends w){b:Nat}(d:w0.heap.size≤b∨w0.B b)(c:Array Value):w0.Extends (w.setRow b c):=
 gY j rfl rfl rfl (by rw[setRow_size];exact aq _) fun i k a=>setRow_other w b i c (fun e=>d.elim (fun h=>by omega) (fun h=>a (e▸h)))
theorem bm.splitAt{α:Type}{R:α→List Value→Prop}{k:Nat}(H:∀x j,R x j→j.length=k):∀(l:List α) (I:List Value) (i:Nat) (x:α),bm R l I→l[i]? =some x→
  ∃a j c,I=a++j++c∧a.length=i*k∧R x j∧∀y b,R y b→bm R (l.set i y) (a++b++c)
 |[],_,i,x,_,p=>by simp at p
 |z::l,_,0,x,⟨j,d,e,t,D⟩,p=>by
  simp at p;subst p;exact⟨[],j,d,by simpa using e,by simp,t,fun y b E=>⟨b,d,by simp,E,D⟩⟩
 |z::l,_,i+1,x,⟨j,d,e,t,D⟩,p=>by
  obtain⟨a,u,c,J,K,M,N⟩:=bm.splitAt H l d i x D (by simpa using p);refine⟨j++a,u,c,by simp[e,J],by simp[H _ _ t,K,bF];omega,M,fun y b E=>⟨j,a++b++c,by simp,t,N y b E⟩⟩
theorem gr{base:Nat}{cs:List C}{vs:List Value}{off:Nat}{new:List C}{a:List Value}(b:bG w base Zp h g cs vs)(c:bG w base Zp h g new a):
  bG w base Zp h g (hC cs off new) (vs.take off++a++vs.drop (off+a.length)):=by
 unfold hC;rw[c.length];exact bG.append _ _ _ _ (bG.append _ _ _ _ (bG.take off _ _ b) c) (bG.drop _ _ _ b)
theorem yA{α:Type}(a b c d:List α)(k:Nat)(i:k+d.length≤b.length):
  (a++b++c).take (a.length+k)++d++(a++b++c).drop (a.length+k+d.length)=a++(b.take k++d++b.drop (k+d.length))++c:=by
 rw[bd a b c,List.take_length_add_append,ce a.length,List.drop_length_add_append,List.take_append_of_le_length (by omega),List.drop_append_of_le_length i];simp[bd]
theorem AR.skip{base:Nat}:AR w base Zp h g gR undef:=⟨[],rfl,rfl⟩
theorem vp{b off:Nat}{cur:Array Value}{e0:TypeId}{vs:List Value}(a:w.heap[b]? =some (.cells cur e0 (0,0)))(d:off+vs.length≤cur.size)(c:∀v∈vs,v.oneCell'=true):
  (storeCells ⟨b,off,none⟩ vs).run P w= .ok () (w.setRow b (cur.toList.take off++vs++cur.toList.drop (off+vs.length)).toArray):=by
 have:=run_storeCells_at P b off e0 vs 0 cur w a (by simpa using d) c;simpa using this
theorem j1{t:TypeId}{d:TD}(T:cn P t d){b off:Nat}{cur:Array Value}{e0:TypeId}{v:Value}(a:w.heap[b]? =some (.cells cur e0 (0,0)))(j:v.cells.size=d.size)(i:off+v.cells.toList.length≤cur.size)
  (c:∀u∈v.cells.toList,u.oneCell'=true):
  (Instr.storeAt t (.pointer (some ⟨b,off,none⟩)) v).run P w= .ok () (w.setRow b (cur.toList.take off++v.cells.toList++cur.toList.drop (off+v.cells.toList.length)).toArray):=by
 have:=vp (P:=P) a i c;simp only[ap]at this;simp[Instr.storeAt,Instr.sureAddr,storeVar,T.sizeOf,j,this]
theorem vq{α:Type}(cur:List α)(k n:Nat)(A d C c:List α)(off:Nat)(D:k+n≤cur.length)(p:(cur.drop k).take n=A++d++C)(B:off+c.length≤d.length):
  (cur.take (k+A.length+off)++c++cur.drop (k+A.length+off+c.length)).length=cur.length∧((cur.take (k+A.length+off)++c++cur.drop (k+A.length+off+c.length)).drop k).take n=A++(d.take off++c++d.drop (off+c.length))++C:=by
 obtain⟨b,j⟩:∃b,b=cur.take k:=⟨_,rfl⟩;obtain⟨a,i⟩:∃a,a=cur.drop (k+n):=⟨_,rfl⟩;have x:cur=(b++A)++d++(C++a):=by
  have q:=List.take_append_drop k cur;have t:=List.take_append_drop n (cur.drop k);rw[List.drop_drop,p]at t;rw[←t]at q;rw[←q,j,i];simp[bd]
 have o:b.length=k:=by rw[j,aP];omega
 have z:n=(A++d++C).length:=by rw[←p,aP,bV];omega
 have l:=yA (b++A) d (C++a) c off B;rw[←x,aE,o]at l;rw[l];have y:((A++(d.take off++c++d.drop (off+c.length))++C)).length=n:=by
  rw[z];simp only[aE,aP,bV];omega
 have u:b++A++(d.take off++c++d.drop (off+c.length))++(C++a)=b++((A++(d.take off++c++d.drop (off+c.length))++C)++a):=by simp only[bd]
 rw[u];refine⟨?_,?_⟩
 ·rw[aE,aE,y,o,i,bV];omega
 ·rw[List.drop_append_of_le_length (by omega),List.drop_eq_nil_of_le (by omega),bH,List.take_append_of_le_length (by omega),bw (by omega)]
theorem Ej(R:HR w0 Z0 Zp h g w){t:TypeId}{d:TD}(T:cn P t d){a x:A}{va M:Value}(ha:AR w w0.heap.size Zp h g a va)(hx:AR w w0.heap.size Zp h g x M)
  (e:(C0 d a x).eval next h L=some (r,h',L')):aM P w0 Z0 Zp h g w new (do Instr.storeAt t va M;pure .skip) r h':=by
 unfold C0 at e
 split at e
 ·rename_i o off gg cs
  split at e
  ·rename_i J;simp only[ae]at J;obtain⟨⟨I,hk⟩,Da⟩:=J;have I:=af I;have e:=aR e
   split at e
   ·rename_i old p
    split at e
    ·rename_i B;have B:=cj B;have e:=bx e;have e:=cm e
     cases e;obtain⟨zB,hp,hd⟩:=ha.c;obtain⟨b,hb,rfl⟩:=hd (by rw[p];simp);have Ek:=R.ob o;rw[p]at Ek;obtain⟨b',j,e0,hb',n,hcs⟩:=Ek;rw[hb]at hb';cases hb';have u:=dL hk hx;have U:=u.length;have CU:=hcs.length;simp only[ap]at CU U;have E:=bG.one cs _ hk u;have Mf:=R.home o b (by rw[p];simp) hb;have F:=j1 (P:=P) T (off:=off) (v:=M) n (by omega) (by simp only[ap];omega) E;obtain⟨R',S⟩:=R.write (w':=w.setRow b (j.toList.take off++M.cells.toList++j.toList.drop (off+M.cells.toList.length)).toArray) (x:=.cells (hC old off cs)) hb (by rw[p];rfl) (by rw[p];exact .inr (.inr (.inl ⟨_,_,rfl,rfl⟩))) rfl
      (fun c J=>setRow_other w b c _ J) (setRow_size _ _ _) (eY R.ext (.inl Mf.1) _)
      (fun L1=>⟨b,_,e0,hb,setRow_heap w b j _ e0 _ n,by
       have:=gr (off:=off) (bG.mono L1 _ _ hcs) (bG.mono L1 _ _ u);simpa using this⟩)
     exact⟨_,undef,_,_,by simp[F],.inr ⟨rfl,rfl⟩,R',S,AR.skip,fun o p=> .inl p⟩
    ·exact(ac e).elim
   ·exact(ac e).elim
  ·exact(ac e).elim
 ·rename_i o i c gg cs
  split at e
  ·rename_i J;simp only[ae]at J;obtain⟨⟨I,hk⟩,Da⟩:=J;have I:=af I;have u:=dL hk hx;have E:=bG.one cs _ hk u;obtain⟨cs',h1,g1,L1,e,W,N,zG,D⟩:=cd cs _ h g L _ _ R u e;have Z:=AR.mono N _ _ ha;have e:=aR e
   split at e
   ·rename_i O l p;obtain⟨x0,hx0,e⟩:=aC e
    split at e
    ·rename_i B;have B:=cj B
     split at e
     ·rename_i y hy;have e:=bx e;have e:=cm e
      cases e;obtain⟨zB,hp,hd⟩:=Z.c;obtain⟨b,hb,rfl⟩:=hd O (aa l) (by rw[p];rfl);have Ek:=W.ob o;rw[p]at Ek;obtain⟨h0,Mg,b',j,e0,hb',n,C6⟩:=Ek;rw[hb]at hb';cases hb';have U:=D.length;have Mf:=W.home o b (by rw[p];simp) hb;obtain⟨A1,es,C1,hsp,ML,Kq,IZ⟩:=bm.splitAt (PR.k O) l _ i x0 C6 hx0;have MM:=PR.k _ _ _ Kq;have Q:=u.length;simp only[ap]at U Q;have hlen:i*O.size+c+M.cells.toList.length≤j.size:=by
       have h9:=congrArg aa hsp;simp only[ap,aE]at h9 ⊢;omega
      have F:=j1 (P:=P) T (off:=i*O.size+c) (v:=M) n (by omega) hlen E;obtain⟨R',S⟩:=W.write (w':=w.setRow b (j.toList.take (i*O.size+c)++M.cells.toList++j.toList.drop (i*O.size+c+M.cells.toList.length)).toArray) (x:=.row O (l.set i y)) hb (by rw[p];rfl)
       (by rw[p];exact .inr (.inr (.inr (.inl ⟨_,rfl,by simp[dn]⟩)))) rfl
       (fun c J=>setRow_other w b c _ J) (setRow_size _ _ _) (eY W.ext (.inl Mf.1) _)
       (fun L2=>⟨h0,Mg,b,_,e0,hb,setRow_heap w b j _ e0 _ n,by
        have MN:=bG.gT (base:=w0.heap.size) (h:=h1) (g:=g1) O x0 es Kq;have Kr:=gr (off:=c) MN D;have hyp:=ci Mg Kr hy;have Y:=IZ y _ hyp;have heq:=yA A1 es C1 M.cells.toList c (by simp only[ap];omega);rw[ML,←hsp]at heq;rw[←heq]at Y;exact bm.mono (fun x es hx=>PR.mono L2.z L2.zp _ _ _ hx) _ _ (by simpa using Y)⟩)
      exact aM.behind N (fun o p=>zG.al▸p) ⟨_,undef,_,_,by simp[F],.inr ⟨rfl,rfl⟩,R',S,AR.skip,fun o p=> .inl p⟩
     ·exact(ac e).elim
    ·exact(ac e).elim
   ·exact(ac e).elim
  ·exact(ac e).elim
 ·rename_i c off x gg cs
  split at e
  ·rename_i J;simp only[ae]at J;obtain⟨⟨I,hk⟩,Da⟩:=J;have I:=af I;have u:=dL hk hx;have E:=bG.one cs _ hk u;obtain⟨cs',h1,g1,L1,e,W,N,zG,D⟩:=cd cs _ h g L _ _ R u e;have Z:=AR.mono N _ _ ha;obtain⟨id,hid,e⟩:=aC e;rw[hid]at Z;have e:=aR e
   split at e
   ·rename_i V H p;obtain⟨y,hy,e⟩:=aC e
    split at e
    ·rename_i B;rw[ae]at B;have Ks:=cj B.1
     split at e
     ·rename_i z hz;obtain⟨H2,I0,e⟩:=aC e;have e:=bx e;have e:=cm e
      cases e;obtain⟨_,rfl⟩:=nV I0;obtain⟨q,hq,Sg,rfl⟩:=Z.c;obtain⟨h0,b,cap,j,e0,hp,n,hcs⟩:=W.gh.ga c true (.st V) H id y p (cO hy);rw[hp]at hq;cases hq;have U:=D.length;have CU:=hcs.length;have Q:=u.length;rw[VT.cL]at CU;simp only[ap]at CU U Q;have F:=j1 (P:=P) T (off:=off) (v:=M) n (by omega) (by simp only[ap];omega) E;obtain⟨R',S⟩:=W.n5 (w':=w.setRow b (j.toList.take off++M.cells.toList++j.toList.drop (off+M.cells.toList.length)).toArray) (K:=.st V) (x:=z) p (cO hy) hp rfl (fun c J=>setRow_other w b c _ J) (setRow_size _ _ _)
       (eY W.ext (W.gh.own c (.st V) H id y _ p (cO hy) hp) _) (fun L2=>⟨h0,b,cap,_,e0,hp,setRow_heap w b j _ e0 _ n,by
        have:=gr (off:=off) (bG.mono L2 _ _ hcs) (bG.mono L2 _ _ D);have:=VT.eX B.2 this hz;simpa using this⟩)
      exact aM.behind N (fun o p=>zG.al▸p) ⟨_,undef,_,_,by simp[F],.inr ⟨rfl,rfl⟩,R',S,AR.skip,fun o p=> .inl p⟩
     ·exact(ac e).elim
    ·exact(ac e).elim
   ·exact(ac e).elim
  ·exact(ac e).elim
 ·rename_i c id ix off gg cs
  split at e
  ·rename_i J;simp only[ae]at J;obtain⟨⟨I,hk⟩,Da⟩:=J;have I:=af I;have u:=dL hk hx;have E:=bG.one cs _ hk u;obtain⟨cs',h1,g1,L1,e,W,N,zG,D⟩:=cd cs _ h g L _ _ R u e;have Z:=AR.mono N _ _ ha;have e:=aR e
   split at e
   ·rename_i V H p;obtain⟨l,hl,e⟩:=aC e;obtain⟨y,hy,e⟩:=aC e
    split at e
    ·rename_i B;rw[ae]at B;have Ks:=cj B.1
     split at e
     ·rename_i z hz;obtain⟨H2,I0,e⟩:=aC e;have e:=bx e;have e:=cm e
      cases e;obtain⟨_,rfl⟩:=nV I0;obtain⟨b,k,cap,sz',hq,rfl⟩:=Z.c;obtain⟨h0,b2,k2,MO,j,e0,hp,n,MQ,I1,Il,C6⟩:=W.gh.ga c true (.bf V) H id l p (cO hl);rw[hp]at hq;cases hq;have U:=D.length;have Q:=u.length;simp only[ap]at U Q;have hkk:∀(x:V.den) (es:List Value),bG w w0.heap.size Zp h1 g1 (V.cells x) es→es.length=V.size:=fun x es hx=>(bG.length _ _ hx).trans (VT.cL V x);obtain⟨A1,es,C1,hsp,ML,Kq,IZ⟩:=bm.splitAt hkk l _ ix y C6 hy;have MM:=hkk _ _ Kq;have hmul: @aa V.den l*V.size≤cap*V.size:=a5 _ I1;have CU:j.toList.length=j.size:=ap;have MR:=vq j.toList k (@aa V.den l*V.size) A1 es C1 M.cells.toList off (by omega) hsp (by rw[ap];omega);rw[ML]at MR;have OH:ix*V.size+V.size≤@aa V.den l*V.size:=by
       have h9:=congrArg aa hsp;simp only[aE,aP,bV]at h9;omega
      have F:=j1 (P:=P) T (off:=k+ix*V.size+off) (v:=M) n (by omega) (by simp only[ap];omega) E;obtain⟨R',S⟩:=W.n5 (w':=w.setRow b (j.toList.take (k+ix*V.size+off)++M.cells.toList++j.toList.drop (k+ix*V.size+off+M.cells.toList.length)).toArray) (K:=.bf V) (x:=(l.set ix z:List V.den)) p (cO hl) hp rfl (fun c J=>setRow_other w b c _ J) (setRow_size _ _ _)
       (eY W.ext (W.gh.own c (.bf V) H id l _ p (cO hl) hp) _) (fun L2=>⟨h0,b,k,cap,_,e0,hp,setRow_heap w b j _ e0 _ n,by
        rw[bD,MR.1,CU];exact MQ,by simpa using I1,Il,by
        have Kr:=gr (off:=off) Kq D;have hyp:=VT.eX B.2 Kr hz;have Y:=IZ z _ hyp;have e8: @aa V.den (l.set ix z)= @aa V.den l:=List.length_set;rw[e8];show bm _ _ (List.take _ (List.drop k (List.take (k+ix*V.size+off) j.toList++M.cells.toList++List.drop (k+ix*V.size+off+M.cells.toList.length) j.toList)));rw[MR.2];exact bm.mono (fun x es hx=>bG.mono L2 _ _ hx) _ _ Y⟩)
      exact aM.behind N (fun o p=>zG.al▸p) ⟨_,undef,_,_,by simp[F],.inr ⟨rfl,rfl⟩,R',S,AR.skip,fun o p=> .inl p⟩
     ·exact(ac e).elim
    ·exact(ac e).elim
   ·exact(ac e).elim
  ·exact(ac e).elim
 ·exact(ac e).elim
end
section
variable {P:Program} {w0:W0} {w w':World} {Z0 Zp:aL} {h h':aD} {g:G} {new next base:Nat} {r:A} {L L':Log} {X:Cx}
theorem li{Z:aL}:∀τ:Ty,τ.aX=true→τ.mu=true→PR w Z Zp τ τ.zero τ.dJ
 |.bool,_,_=>rfl
 |.int _,_,_=>rfl
 |.str,_,_=>rfl
 |.sl e,_,_=>⟨none,0,[],rfl,aq _,rfl,fun h=>absurd rfl h⟩
 |.pair a b,c,d=>by
  simp[Ty.aX]at c;simp[Ty.mu]at d;exact⟨_,_,rfl,li a c.1 d.1,li b c.2 d.2⟩
 |.unit,_,_=>rfl
 |.ref _,c,_=>by simp[Ty.aX]at c
 |.fn _,_,d=>by simp[Ty.mu]at d
theorem qa{b:Nat}{n:Int}{k:Nat}(a:Gn b n=some k):0≤n∧n.toNat*b≤room∧n≤140737488355328∧k=n.toNat:=by
 unfold Gn at a
 split at a
 ·rename_i c;cases a;exact⟨c.1,c.2.1,c.2.2,rfl⟩
 ·cases a
theorem bm.replicate{α:Type}{R:α→List Value→Prop}{x:α}{a:List Value}(b:R x a):∀n,bm R (bE n x) (bE n a).flatten
 |0=>by simp[bm]
 |n+1=>by rw[List.replicate_succ,List.replicate_succ,List.flatten_cons];exact⟨a,_,rfl,b,bm.replicate b n⟩
theorem yB(z:Array Value)(o:0<z.size)(n:Nat):(madeCells z (n*z.size)).toList=(bE n z.toList).flatten:=by
 induction n with
 |zero=>simp[madeCells]
 |succ n k=>
  rw[List.replicate_succ',List.flatten_append,←k];apply List.ext_getElem?;intro i;have e:(n+1)*z.size=n*z.size+z.size:=by rw[bF,Nat.one_mul]
  rw[List.getElem?_append];simp only[madeCells,ap,Array.size_map,Array.size_range,av,Array.getElem?_map,Array.getElem?_range,List.flatten_cons,List.flatten_nil,List.append_nil]
  by_cases c:i<n*z.size
  ·have a:i<(n+1)*z.size:=by omega
   simp[c,a]
  ·simp only[c,if_false]
   by_cases a:i<(n+1)*z.size
   ·have b:i -n*z.size<z.size:=by omega
    have j:i % z.size=i -n*z.size:=by
     have l:z.size*n=n*z.size:=Nat.mul_comm _ _;have:i=i -n*z.size+z.size*n:=by omega
     have d:(i -n*z.size+z.size*n) % z.size=i -n*z.size:=by rw[Nat.add_mul_mod_self_left,Nat.mod_eq_of_lt b]
     rw[←this]at d;exact d
    simp[a,j,b]
   ·have b:¬ i -n*z.size<z.size:=by omega
    simp[a,b]
theorem Fs(R:HR w0 Z0 Zp h g w)(N:¬ g.al new){t e:TypeId}{d a:TD}(T:cn P t d)(x:cn P e a)(I:d.desc= .slice e){τ:Ty}(Q:a.zero=true)(B:a.ty=some τ)(O:0<a.size)
  {E D:IntKind} {n:Int} {k:Nat} (M:Gn a.bytes n=some k):
  aM P w0 Z0 Zp h g w new (do pure (.value (←Instr.makeSlice t (.int E n) (.int D n)))) (.v false [.vec new]) ((new,.row τ (bE k τ.zero))::h):=by
 obtain⟨i,z,J,K,q,u,l,_⟩:=x.zeroV Q B;obtain⟨y,F,h2,rfl⟩:=qa M;obtain⟨W,Y,o,b⟩:=x.rZ B;have S:z.cells.size=a.size:=by
  have:=congrArg aa l;rw[ap,PR.length τ _ _ (li (w:=w) (Z:=Z0) (Zp:=Zp) τ o b)]at this;omega
 have H:(i.bytes:Int)*n≤281474976710656:=by
  have h3:n.toNat*i.bytes≤140737488355328:=by rw[q];exact F
  have h4:((n.toNat*i.bytes:Nat):Int)=(i.bytes:Int)*n:=by rw[Int.natCast_mul,Int.toNat_of_nonneg y,Int.mul_comm]
  omega
 have j:=run_make (P:=P) w t e i z (T.slice I) J u E D n n y (Int.le_refl _) H (by omega);refine aM.alloc R N (w1:=w) (.inl rfl) (cur:=madeCells z.cells (n.toNat*i.size)) (e0:=e) (v:=.slice (some ⟨w.heap.size,0,none⟩) n.toNat n.toNat) _ 0 (by simp[j]) (fun U c=>⟨⟨by omega,o,_,_,_,gX _ _ _ _,c,?_⟩,AR.eU ⟨.inr rfl,⟨_,_,_,rfl⟩,fun V n' p=> ?_⟩⟩) (fun _=>rfl)
 ·have:i.size=z.cells.size:=by omega
  rw[this,yB z.cells (by omega),l];exact bm.replicate (li τ o b) _
 ·rw[Fr]at p;simp[dn]at p;exact⟨_,gX _ _ _ _,by rw[←p.2]⟩
theorem AR.own{e:Ty}{l:List e.den}{b cap:Nat}{cur:Array Value}{e0:TypeId}{base:Nat}(t:g.al new)(x:g.hm new=some b)(y:g.lo new=aa l*e.size)(hb:base≤b)
  (d:w.heap[b]? =some (.cells cur e0 (0,0))) (a:aa l≤cap) (E:cap≤maxLen) (I:cur.size=cap*e.size) (H:bm (PR w g.Z Zp e) l (cur.toList.take (aa l*e.size)))
  (J:∀i,i<aa l*e.size→g.Z b i):AR w base Zp h g (.v false [.sl e l (.own new)]) (.slice (some ⟨b,0,none⟩) (aa l) cap):=by
 refine AR.eU ⟨⟨_,cap,_,rfl,a,H,fun _=>⟨b,0,rfl,fun j u p=> ?_⟩⟩,t,fun _=> .inr ⟨b,cap,cur,e0,x,rfl,d,a,E,I,hb,y⟩⟩;rw[bv,cW d];rw[ao]at p
 split at p
 ·rename_i D;exact⟨by simpa using p,J j D⟩
 ·cases p
theorem qb(g:G)(new:Nat)(b:Option Nat)(k:Nat):(jL g new b k).al new:=.inr rfl
theorem El(R:HR w0 Z0 Zp h g w)(K:¬ g.al new){t e:TypeId}{d c:TD}(T:cn P t d)(p:cn P e c)(E:d.desc= .slice e){τ:Ty}(M:c.zero=true)(u:c.ty=some τ)
  {y x:IntKind} {n:Int} {k:Nat} (J:Gn c.bytes n=some k):
  aM P w0 Z0 Zp h g w new (do pure (.value (←Instr.makeSlice t (.int y 0) (.int x n)))) (.v false [.sl τ [] (.own new)]) ((new,.tok)::h):=by
 obtain⟨i,z,H,I,j,o,N,_⟩:=p.zeroV M u;obtain⟨q,B,V,rfl⟩:=qa J;obtain⟨Q,S,U,F⟩:=p.rZ u;have D:(i.bytes:Int)*n≤281474976710656:=by
  have W:n.toNat*i.bytes≤140737488355328:=by rw[j];exact B
  have Y:((n.toNat*i.bytes:Nat):Int)=(i.bytes:Int)*n:=by rw[Int.natCast_mul,Int.toNat_of_nonneg q,Int.mul_comm]
  omega
 have b:=run_make (P:=P) w t e i z (T.slice E) H o y x 0 n (Int.le_refl _) q D (by omega);refine aM.alloc R K (w1:=w) (.inl rfl) (cur:=madeCells z.cells (n.toNat*i.size)) (e0:=e) (v:=.slice (some ⟨w.heap.size,0,none⟩) 0 n.toNat) _ 0 (by simp[b]) (fun O a=>⟨trivial,?_⟩) (fun _=>rfl);have:=AR.own (h:=(new,.tok)::h) (base:=w0.heap.size) (e:=τ) (l:=[]) (Zp:=Zp) (qb g new (some w.heap.size) 0) (gX _ _ _ _) (by rw[zH];simp) R.cT a (cap:=n.toNat) (by simp) (by simp only[maxLen];omega)
  (by rw[size_madeCells];congr 1;omega) (by simp[bm]) (by simp)
 simpa using this
theorem vr{τ:Ty}(D:τ.aX=true):∀(ps:List (Nat×A)) (vs:List Value) (n:Nat) (h:aD) (g:G) (L:Log) (k:List τ.den→HM) (b:A×aD×Log),HR w0 Z0 Zp h g w→
  bm (fun(p:Nat×A) I=>∃u,I=[u]∧AR w w0.heap.size Zp h g p.2 u) ps vs→(u1 τ n ps k).eval next h L=some b→
  ∃l o g1 H,(k l).eval next o H=some b∧HR w0 Z0 Zp o g1 w∧Le Zp h g w o g1 w∧Fz h g o g1∧aa l=ps.length∧bm (PR w g1.Z Zp τ) l (vs.flatMap fun v=>v.cells.toList)∧
   ps.map (·.1)=(List.range' n ps.length)∧∀v∈vs,v.cells.size=τ.size
 |[],vs,n,h,g,L,k,b,R,j,e=>by
  simp only[bm]at j;subst j;exact⟨[],h,g,L,e,R,Le.refl _ _ _ _,Fz.refl _ _,rfl,rfl,rfl,by simp⟩
 |(i,a)::ps,vs,n,h,g,L,k,b,R,⟨I,F,e1,⟨u,e2,T⟩,Q⟩,e=>by
  subst e2;subst e1;unfold u1 at e
  split at e
  ·rename_i d;cases d
  ·rename_i i' gg Y r' d
   cases d
   split at e
   ·rename_i J;simp only[ae]at J;have hi:=af J.1.1;subst hi;have K:=dL J.2 T;obtain⟨cs',o,g1,H,e,V,q,M,t⟩:=cd Y _ h g L _ _ R K e
    split at e
    ·rename_i x hx;have E:=ci D t hx;obtain⟨l,h2,g2,U,e,W,c,N,y,O,B,S⟩:=vr D ps F _ o g1 H _ b V
      (bm.mono (fun p I ⟨u,e,T⟩=>⟨u,e,AR.mono q _ _ T⟩) _ _ Q) e
     refine⟨x::l,h2,g2,U,e,W,q.trans c,M.trans N,by simp[y],?_,?_,?_⟩
     ·simp only[List.singleton_append,List.flatMap_cons];exact⟨_,_,rfl,PR.mono c.z c.zp _ _ _ E,O⟩
     ·simp only[aQ,List.length_cons,List.range'_succ,B]
     ·intro v j;simp at j;rcases j with rfl |j
      ·have:=PR.length _ _ _ E;simpa using this
      ·exact S v j
    ·exact(ac e).elim
   ·exact(ac e).elim
  ·exact(ac e).elim
theorem xt{vs:List Value}:∀(ps:List (Nat×Value)) (n:Nat),ps.map (·.1)=List.range' n ps.length→ps.map (·.2)=vs→ps=(vs.zipIdx n).map fun x=>(x.2,x.1):=by
 induction vs with
 |nil=>intro ps n _ a;cases ps with |nil=>rfl |cons _ _=>simp at a
 |cons v vs c=>
  intro ps n b a
  cases ps with
  |nil=>simp at a
  |cons p ps=>
   simp only[aQ,List.cons.injEq]at a;simp only[aQ,List.length_cons,List.range'_succ,List.cons.injEq]at b;simp only[List.zipIdx_cons,aQ];rw[←c ps (n+1) b.2 a.2];congr 1
   cases p;simp_all
theorem Bl{base:Nat}{env:Env}{a:Act}(b:∀t,AR w base Zp h g (look ar t env) (a.tmps.getD t undef)):∀(ps:List (Nat×Operand)),
  bm (fun(p:Nat×A) c=>∃u,c=[u]∧AR w base Zp h g p.2 u) (ps.map fun(i,x)=>(i,jJ env x)) (ps.map fun p=>a.eval p.2)
 |[]=>rfl
 |(_,x)::ps=>⟨[a.eval x],_,rfl,⟨_,rfl,bo b x⟩,Bl b ps⟩
theorem vu(R:HR w0 Z0 Zp h g w)(hn:¬ g.al new){t e:TypeId}{d q:TD}(T:cn P t d)(N:cn P e q)(hd:d.desc= .slice e){τ:Ty}(hτ:q.ty=some τ){len:Nat}{parts:Array (Nat×Operand)}
  {env:Env} {a:Act} (he:∀t,AR w w0.heap.size Zp h g (look ar t env) (a.tmps.getD t undef))
  (hc:(aJ parts.size len&&Nat.ble (len*q.size) 16777216&&Nat.blt 0 q.size&&(len==0||q.zero))=true)
  (e1:(u1 τ 0 (parts.toList.map fun(i,x)=>(i,jJ env x)) fun l=> .set new .tok (eC (.sl τ l (.own new)))).eval next h L=some (r,h',L')):
  aM P w0 Z0 Zp h g w new (do pure (.value (←Instr.buildSlice t len (parts.map fun(i,x)=>(i,a.eval x))))) r h':=by
 simp only[ae]at hc;obtain⟨⟨⟨c,B⟩,j⟩,O⟩:=hc;have c:=af c;have B:=cj B;have j:0<q.size:=by simpa[b9]using j
 obtain⟨t1,t2,t3,t4⟩:=N.rZ hτ;obtain⟨l,h1,g1,L1,e2,R1,M,E,b,H,u,V⟩:=vr t3 _ _ 0 h g L _ _ R (Bl he parts.toList) e1;have e3:=bx e2;obtain⟨rfl,rfl,_⟩:=aS e3;have U:¬ g1.al new:=by rw[E.al];exact hn
 simp only[List.length_map,ap,c]at b;have hvs:(parts.toList.map fun p=>a.eval p.2).length=len:=by simp[c]
 have y:(parts.map fun(i,x)=>(i,a.eval x)).toList=((parts.toList.map fun p=>a.eval p.2).zipIdx 0).map fun x=>(x.2,x.1):=by
  apply xt
  ·simp only[Array.toList_map,List.map_map,List.length_map,ap];simp only[List.map_map,List.length_map,ap]at u;exact u
  ·simp only[Array.toList_map,List.map_map];rfl
 have D:=bm.length (PR.k τ) _ _ H;refine aM.behind M (fun o ho=>E.al▸ho) ?_;have J:(Instr.buildSlice t len (parts.map fun(i,x)=>(i,a.eval x))).run P w= .ok (.slice (some ⟨w.heap.size,0,none⟩) len len) (w.alloc (.cells ((parts.toList.map fun p=>a.eval p.2).flatMap fun v=>v.cells.toList).toArray e)):=by
  obtain⟨ie,Q,PW,_⟩:=N.inf
  by_cases h0:len=0
  ·subst h0;have:parts= #[]:=Array.eq_empty_of_size_eq_zero c;subst this;simp[Instr.buildSlice,run_underlying (T.slice hd),Go.sizeOf,typeInfo,Q,Instr.fill,newRow,Array.range_zero']
  ·have Y:q.zero=true:=by simpa[h0]using O
   obtain⟨i,z,K,n,Mh,S,W,_⟩:=N.zeroV Y hτ;have hzs:z.cells.size=q.size:=by
    have:=congrArg aa W;rw[ap,PR.length τ _ _ (li (w:=w) (Z:=Z0) (Zp:=Zp) τ t3 t4)]at this;omega
   have I:¬ len*i.size=0:=by rw[n];exact Nat.ne_of_gt (Nat.mul_pos (by omega) j)
   refine run_buildSlice w t e len _ _ i z (T.slice hd) K S (by rw[n];omega) I ?_;rw[y,n];exact Go.Great.fill_whole j _ _ (fun v hv=>by rw[V v hv,t1]) (by simp[c])
 refine aM.alloc R1 U (w1:=w) (.inl rfl) (cur:=((parts.toList.map fun p=>a.eval p.2).flatMap fun v=>v.cells.toList).toArray) (e0:=e) (v:=.slice (some ⟨w.heap.size,0,none⟩) len len) _ (len*τ.size) (by simp[J]) (fun L2 F=>⟨trivial,?_⟩) (fun h=>by cases h);have:=AR.own (h:=(new,.tok)::h1) (base:=w0.heap.size) (e:=τ) (l:=l) (Zp:=Zp) (qb g1 new (some w.heap.size) (len*τ.size)) (gX _ _ _ _) (by rw[zH,b]) R.cT F (cap:=len) (by omega)
  (by
   have:len*1≤len*q.size:=Nat.mul_le_mul_left _ j;simp only[maxLen];omega) (by rw[bD,D,b])
  (by
   rw[←D];simp only[List.take_length];exact bm.mono (fun x es hx=>PR.mono L2.z L2.zp _ _ _ hx) _ _ H)
  (fun i K=> .inr ⟨rfl,by rw[b]at K;exact K⟩)
 rw[b]at this;exact this
end
section
variable {P:Program} {w0:W0} {w w':World} {Z0 Zp:aL} {h h':aD} {g:G} {new next base:Nat} {r:A} {L L':Log} {X:Cx}
theorem zI(off:Nat)(v:Array Value)(cells:Array Value)(d:off+v.size≤cells.size):
  (v.zipIdx.foldl (fun cs (x:Value×Nat)=>cs.setIfInBounds (off+x.2) x.1) cells).toList=cells.toList.take off++v.toList++cells.toList.drop (off+v.size):=by
 have e:v.zipIdx.foldl (fun cs (x:Value×Nat)=>cs.setIfInBounds (off+x.2) x.1) cells=(v.toList.zipIdx 0).foldl (fun cs (x:Value×Nat)=>cs.setIfInBounds (off+x.2) x.1) cells:=by
  rw[←Array.foldl_toList,Array.toList_zipIdx]
 rw[e];obtain⟨i,a⟩:=Go.Great.foldl_set off v.toList 0 cells;apply List.ext_getElem?;intro k;rw[av,a k];simp only[b8,ap,List.getElem?_append,aE,aP]
 by_cases b:k<off
 ·rw[if_neg (by omega),if_pos (by omega),if_pos (by omega),ao,if_pos b,av]
 ·by_cases c:k<off+v.size
  ·rw[if_pos ⟨by omega,c,by omega⟩,if_pos (by omega),if_neg (by omega)];congr 1;omega
  ·rw[if_neg (by omega),if_neg (by omega),aT,av];congr 1;omega
theorem qc{base:Nat}{F pc:Nat→Option (Nat×Nat)}(D:∀i q,F i=some q→pc i=some q){env:Env}{a:Act}(B:∀t,AR w base Zp h g (look ar t env) (a.tmps.getD t undef)):
  ∀(ps:List (Nat×Operand)) (cs c:List C) (cells:Array Value),bG w base Zp h g cs cells.toList→pW F cs (ps.map fun(i,x)=>(i,jJ env x))=some c→
   ∃b,Instr.fill pc cells (ps.map fun(i,x)=>(i,a.eval x))=some b∧bG w base Zp h g c b.toList
 |[],cs,c,cells,n,e=>by
  cases e;exact⟨cells,rfl,n⟩
 |(i,x)::ps,cs,c,cells,n,e=>by
  simp only[aQ]at e ⊢;have E:=bo B x;unfold pW at e
  split at e
  ·rename_i j;cases j
  ·rename_i N J O Q j;simp only[List.cons.injEq,Prod.mk.injEq]at j;obtain⟨⟨rfl,z⟩,rfl⟩:=j
   split at e
   ·rename_i off size u
    split at e
    ·rename_i k;simp only[ae]at k;have K:=af k.1.1;have M:=cj k.1.2;rw[z]at E;have l:=dL k.2 E;have p:=l.length;have o:=n.length;simp only[ap]at p o;have y:=zI off (a.eval x).cells cells (by omega);have d:=gr (off:=off) n l;simp only[ap]at d;rw[←y]at d;obtain⟨b,H,I⟩:=qc D B ps _ c _ d e;refine⟨b,?_,I⟩;unfold Instr.fill;rw[D _ _ u];simp only;rw[if_neg (by simp;omega)];exact H
    ·cases e
   ·cases e
  ·rename_i j
   cases e
theorem pD(l:pR P X.tt):∀(a:List Field) (b:List (Nat×Nat)),
  hI (fun f:TypeId×Nat=>match ba f.1 X.tt with |some k=>some (f.2,k.size)|none=>none) (a.map fun x=>(x.type,x.offset))=some b→
  a.mapM (fun f=>(P.info? f.type).map fun i=>(f.offset,i.size))=some b
 |[],b,e=>by simp[hI]at e;subst e;rfl
 |f::a,b,e=>by
  simp only[aQ,hI]at e
  cases d:ba f.type X.tt with
  |none=>simp[d]at e
  |some k=>
   simp only[d]at e
   split at e
   ·rename_i n c
    cases e;obtain⟨i,o,j,_⟩:=(l.get d).inf;have p:=pD l a n c;simp[List.mapM_cons,o,j,p]
   ·cases e
theorem zJ(E:pR P X.tt)(R:HR w0 Z0 Zp h g w){t:TypeId}{d:TD}(T:cn P t d){u:List (TypeId×Nat)}(H:d.desc= .struct u)(O:d.zero=true){τ:Ty}(Q:d.ty=some τ){p:List (Nat×Nat)}
  (c:hI (fun f:TypeId×Nat=>match ba f.1 X.tt with |some y=>some (f.2,y.size)|none=>none) u=some p) {parts:Array (Nat×Operand)}
  {env:Env} {a:Act} (I:∀t,AR w w0.heap.size Zp h g (look ar t env) (a.tmps.getD t undef)) {cs:List C} (J:pW (fun i=>p[i]?) τ.er (parts.toList.map fun(i,x)=>(i,jJ env x))=some cs):
  aM P w0 Z0 Zp h g w new (do pure (.value (←Instr.build t (parts.map fun(i,x)=>(i,a.eval x))))) (.v true cs) h:=by
 obtain⟨f,N,j⟩:=T.struct H;obtain⟨i,z,K,_,_,k,o,_⟩:=T.zeroV O Q;have n:bG w w0.heap.size Zp h g τ.er z.cells.toList:=by rw[o];exact dQ τ
 rw[←j]at c;have l:=pD E _ _ c;obtain⟨b,B,D⟩:=qc (pc:=fun i=>p.toArray[i]?) (fun i q M=>by simpa using M) I parts.toList _ _ z.cells n J;refine aM.pure R (v:=.agg b) ?_ ⟨b.toList,by simp,D⟩;have F:P.built t (parts.map fun(i,x)=>(i,a.eval x)).toList=some b:=by
  unfold Program.built;simp only[K,N,k,l,Array.toList_map];exact B
 simp[run_build w t _ b F]
theorem Bm(R:HR w0 Z0 Zp h g w){t e:TypeId}{d j:TD}(T:cn P t d)(B:cn P e j){n:Nat}(H:d.desc= .array n e)(M:d.zero=true){τ:Ty}(N:d.ty=some τ){parts:Array (Nat×Operand)}
  {env:Env} {a:Act} (I:∀t,AR w w0.heap.size Zp h g (look ar t env) (a.tmps.getD t undef)) {cs:List C}
  (J:pW (fun i=>match Nat.blt i n with |true=>some (i*j.size,j.size)|false=>none) τ.er (parts.toList.map fun(i,x)=>(i,jJ env x))=some cs):
  aM P w0 Z0 Zp h g w new (do pure (.value (←Instr.build t (parts.map fun(i,x)=>(i,a.eval x))))) (.v true cs) h:=by
 obtain⟨i,z,K,_,_,l,u,_⟩:=T.zeroV M N;obtain⟨y,k,c,_⟩:=B.inf;have p:bG w w0.heap.size Zp h g τ.er z.cells.toList:=by rw[u];exact dQ τ
 obtain⟨b,D,E⟩:=qc (pc:=fun i=>some (i*y.size,y.size)) (fun i q o=>by
  split at o
  ·rw[c];exact o
  ·cases o) I parts.toList _ _ z.cells p J
 refine aM.pure R (v:=.agg b) ?_ ⟨b.toList,by simp,E⟩;have F:P.built t (parts.map fun(i,x)=>(i,a.eval x)).toList=some b:=by
  unfold Program.built;simp only[K,T.array H,l,k,Array.toList_map];exact D
 simp[run_build w t _ b F]
theorem Db{Z:aL}:∀(τ:Ty) (x:τ.den) (vs:List Value),PR w Z Zp τ x vs→∀u∈vs,u.oneCell'=true
 |.bool,_,_,c=>by simp[PR]at c;subst c;simp[cq]
 |.int _,_,_,c=>by simp[PR]at c;subst c;simp[cq]
 |.str,_,_,c=>by simp[PR]at c;subst c;simp[cq]
 |.sl _,_,_,⟨_,_,_,c,_⟩=>by subst c;simp[cq]
 |.pair a b,_,_,⟨l,k,e,i,j⟩=>by
  subst e;intro u d;rcases List.mem_append.1 d with d |d
  ·exact Db a _ _ i u d
  ·exact Db b _ _ j u d
 |.unit,_,_,c=>by simp[PR]at c;subst c;simp
 |.ref _,_,_,⟨_,_,_,c,_⟩=>by subst c;simp[cq]
 |.fn _,_,_,c=>by simp[PR]at c;subst c;simp[cq]
 |.cl _ _,_,_,⟨_,c,_⟩=>by subst c;simp[cq]
theorem uV{Z:aL}{e:Ty}:∀(l:List e.den) (vs:List Value),bm (PR w Z Zp e) l vs→∀u∈vs,u.oneCell'=true
 |[],_,c=>by simp[bm]at c;subst c;simp
 |x::l,_,⟨i,b,d,j,k⟩=>by
  subst d;intro u a;rcases List.mem_append.1 a with a |a
  ·exact Db e x i j u a
  ·exact uV l b k u a
theorem I2{Z:aL}{e:Ty}{m:List e.den}{v:Value}{D t:TypeId}(z:P.underlying D=some (.slice t))(I:PR w Z Zp (.sl e) m [v]):
  ∃a,Src P e.size D v (aa m) a w∧bm (PR w Z Zp e) m a:=by
 obtain⟨F,o,a,B,x,d,l⟩:=I;simp at B;subst B;have c:=bm.length (PR.k e) m a d;have n:=uV m a d;refine⟨a,?_,d⟩
 cases F with
 |some E=>
  refine Src.ofSlice w z E _ o a c (fun j u y=> ?_) n;obtain⟨b,q,p,H⟩:=l (by intro i;subst i;simp at y)
  cases p;rw[dj];exact(H j u y).1
 |none=>
  have i:a=[]:=by
   by_cases i:a=[]
   ·exact i
   ·obtain⟨b,q,p,_⟩:=l i
    cases p
  subst i;refine⟨.inl ⟨t,z⟩,fun _=>rfl,run_firstCells_none w _ _ _ _,run_firstCells_none w.drew _ _ _ _,c,by simp⟩
theorem r3{t p ty e:TypeId}{i:TypeInfo}(u:P.underlying t=some (.slice e))(q:P.info? e=some i){b sLen sCap:Nat}{cur:Array Value}{e0:TypeId}(d:w.heap[b]? =some (.cells cur e0 (0,0))){x:Value}{n:Nat}{a:List Value}
  (l:Src P i.size p x n a w) (c:sLen+n≤sCap) (j:sLen*i.size+a.length≤cur.size):
  (Builtin.append_ #[t,p] ty #[.slice (some ⟨b,0,none⟩) sLen sCap,x]).run P w= .ok (.slice (some ⟨b,0,none⟩) (sLen+n) sCap) (w.setRow b (cur.toList.take (sLen*i.size)++a++cur.toList.drop (sLen*i.size+a.length)).toArray):=by
 have k:=run_storeCells_at P b (sLen*i.size) e0 a 0 cur w d (by simpa using j) l.one;simp only[b8]at k;rcases l.kind with⟨y,o⟩|o<;>simp[Builtin.append_,run_underlying u,run_underlying o,sizeOf,typeInfo,q,l.len,c,l.cells,Addr.add_lit,k]
theorem kN{t d ty e:TypeId}{i:TypeInfo}(k:P.underlying t=some (.slice e))(j:P.info? e=some i){x:Value}{a:List Value}(b:Src P i.size d x 0 a w):
  (Builtin.append_ #[t,d] ty #[.slice none 0 0,x]).run P w= .ok (.slice none 0 0) w:=by
 rcases b.kind with⟨l,c⟩|c<;>simp[Builtin.append_,run_underlying k,run_underlying c,sizeOf,typeInfo,j,b.len,b.cells]
def GQ(w:World)(base:Nat)(Zp:aL)(h:aD)(g:G)(e:Ty)(l:List e.den)(v:Value):Prop:=
 (v= .slice none 0 0∧l=[])∨
 (∃b a d j,v= .slice (some ⟨b,0,none⟩) (aa l) a∧w.heap[b]? =some (.cells d j (0,0))∧aa l≤a∧a≤maxLen∧d.size=a*e.size∧base≤b∧b<w.heap.size∧
  (∀o,look .dead o h≠.dead→g.hm o≠some b)∧(∀c id,¬ GL h g c id b)∧(∀i,g.Z b i→i<aa l*e.size)∧bm (PR w g.Z Zp e) l (d.toList.take (aa l*e.size)))
theorem mw{α:Type}{b:Nat}{l m n:List α}(h:app b l m=some n):(l.length+m.length)*b≤140737488355328∧l.length+m.length≤140737488355328∧n=l++m:=by
 unfold app at h;split at h
 ·rename_i a;cases h;exact⟨a.1,a.2,rfl⟩
 ·cases h
theorem bm.app{α:Type}{R:α→List Value→Prop}:∀(l m:List α) (vs b:List Value),bm R l vs→bm R m b→bm R (l++m) (vs++b)
 |[],_,_,_,i,d=>by simp[bm]at i;subst i;simpa using d
 |x::l,m,_,b,⟨j,a,e,t,p⟩,d=>by subst e;exact⟨j,a++b,by simp,t,bm.app l m a b p d⟩
theorem my(z:Array Value)(n:Nat):(Builtin.zeroCells z n).size=n*z.size:=by simp[Builtin.zeroCells]
theorem mz(R:HR w0 Z0 Zp h g w)(hn:¬ g.al new){t tx e ty:TypeId}{d de:TD}(T:cn P t d)(Te:cn P e de)(hd:d.desc= .slice e){τ:Ty}(hz:de.zero=true)(hτ:de.ty=some τ)
  {l m n:List τ.den} {v x:Value} {J:List Value} (PX:GQ w w0.heap.size Zp h g τ l v) (D:Src P τ.size tx x (aa m) J w) (Bn:bm (PR w g.Z Zp τ) m J) (I3:app de.bytes l m=some n):
  aM P w0 Z0 Zp h g w new (do pure (.value (←Builtin.append_ #[t,tx] ty #[v,x]))) (.v false [.sl τ n (.own new)]) ((new,.tok)::h):=by
 obtain⟨I4,Bk,rfl⟩:=mw I3;obtain⟨t1,t2,t3,t4⟩:=Te.rZ hτ;obtain⟨i,z,hi,PW,Mh,Mi,I5,_⟩:=Te.zeroV hz hτ;have hzs:z.cells.size=i.size:=by
  have:=congrArg aa I5;rw[ap,PR.length τ _ _ (li (w:=w) (Z:=Z0) (Zp:=Zp) τ t3 t4)]at this;omega
 have y:τ.size=i.size:=by omega
 rw[y]at D;have N:=D.newsLen;have O:∀(bs:Option Addr) (a:Nat) (q:List Value),v= .slice bs (aa l) a→a<aa l+aa m→bm (PR w g.Z Zp τ) l q→
   (Builtin.firstCells i.size (aa l) (.slice bs (aa l) a)).run P w.drew= .ok q.toArray w.drew→
   aM P w0 Z0 Zp h g w new (do pure (.value (←Builtin.append_ #[t,tx] ty #[v,x]))) (.v false [.sl τ (l++m) (.own new)]) ((new,.tok)::h):=by
  intro bs a q hv hlt K MS;subst hv;have hr:=run_append_grow_src (P:=P) w t tx ty e i z (T.slice hd) hi Mi bs (aa l) a q MS x _ J D hlt (by omega) (growslice_fits hlt (by rw[Mh];exact I4));have hge:=grownCap_ge w (aa l+aa m) a e;have V:=grownCap_le_maxLen w (aa l+aa m) a e (by simp only[maxLen];omega);have M:=bm.length (PR.k τ) l q K;have p:aa (l++m)=aa l+aa m:=aE;have Q:(aa l+aa m)*τ.size=aa l*τ.size+aa m*τ.size:=bF _ _ _;rw[y]at Q M;refine aM.alloc R hn (w1:=w.drew) (.inr rfl) (cur:=(q++J).toArray++Builtin.zeroCells z.cells (grownCap w (aa l+aa m) a e -(aa l+aa m))) (e0:=e)
   (v:=.slice (some ⟨w.heap.size,0,none⟩) (aa l+aa m) (grownCap w (aa l+aa m) a e)) _ ((aa l+aa m)*τ.size) (by simp[hr]) (fun L2 hnew=>⟨trivial,?_⟩) (fun h=>by cases h)
  have:=AR.own (h:=(new,.tok)::h) (base:=w0.heap.size) (e:=τ) (l:=l++m) (Zp:=Zp) (qb g new (some w.heap.size) ((aa l+aa m)*τ.size)) (gX _ _ _ _) (by rw[zH,p]) R.cT hnew
   (cap:=grownCap w (aa l+aa m) a e) (by rw[p];exact hge) V
   (by
    rw[Array.size_append,my,bD,aE,M,N,hzs,y,Nat.sub_mul];have:(aa l+aa m)*i.size≤grownCap w (aa l+aa m) a e*i.size:=a5 _ hge;omega)
   (by
    have e1:aa (l++m)*τ.size=(q++J).length:=by rw[p,y,aE,M,N,Q]
    rw[e1,Array.toList_append,List.take_left];exact bm.mono (fun x es hx=>PR.mono L2.z L2.zp _ _ _ hx) _ _ (bm.app _ _ _ _ K Bn))
   (fun j E=> .inr ⟨rfl,by rw[p]at E;exact E⟩)
  rw[p]at this;exact this
 rcases PX with⟨rfl,rfl⟩|⟨b,cap,cur,e0,rfl,H,hlc,V,hcs,S,PY,W,PZ,Y,I⟩
 ·by_cases hm:m=[]
  ·subst hm;have hr:=kN (P:=P) (ty:=ty) (T.slice hd) hi D;obtain⟨R1,L1⟩:=R.IP hn;refine⟨_,.slice none 0 0,w,_,by simp[hr],.inl rfl,R1,L1,AR.eU ⟨⟨none,0,[],rfl,aq _,rfl,fun h=>absurd rfl h⟩,qb _ _ _ _,fun _=> .inl ⟨gX _ _ _ _,rfl,rfl⟩⟩,fun o ho=>ho⟩
  ·have:0<aa m:=List.length_pos_iff.2 hm;exact O none 0 [] rfl (by simpa using this) rfl (run_firstCells_none w.drew _ _ _ _)
 ·by_cases F:aa l+aa m≤cap
  ·have hfit:aa l*i.size+J.length≤cur.size:=by
    rw[N,hcs,←bF,y];exact a5 _ F
   have hr:=r3 (P:=P) (ty:=ty) (T.slice hd) hi H D F hfit;rw[y]at I Y hcs;have MT:(cur.toList.take (aa l*i.size)).length=aa l*i.size:=by simp;omega
   have U:∀j,j<aa l*i.size→(cur.toList.take (aa l*i.size)++J++cur.toList.drop (aa l*i.size+J.length)).toArray[j]? =cur[j]? :=by
    intro j E;rw[List.getElem?_toArray,bd,aH (by omega),ao,if_pos E,av]
   have B:=setRow_heap w b cur (cur.toList.take (aa l*i.size)++J++cur.toList.drop (aa l*i.size+J.length)).toArray e0 (0,0) H;obtain⟨R1,L1⟩:=R.IQ (w':=w.setRow b (cur.toList.take (aa l*i.size)++J++cur.toList.drop (aa l*i.size+J.length)).toArray) (k:=(aa l+aa m)*τ.size) hn W PZ S PY
    (fun c hc=>setRow_other w b c _ hc) (setRow_size _ _ _) (eY R.ext (.inl S) _) (fun j E=>⟨by
     have:=Y j E;rw[y,bF];omega,by rw[cW B,cW H,U j (Y j E)]⟩)
   have p:aa (l++m)=aa l+aa m:=aE;refine⟨_,.slice (some ⟨b,0,none⟩) (aa l+aa m) cap,_,_,by simp[hr],.inl rfl,R1,L1,?_,fun o ho=>ho⟩;have:=AR.own (h:=(new,.tok)::h) (base:=w0.heap.size) (e:=τ) (l:=l++m) (Zp:=Zp) (qb g new (some b) ((aa l+aa m)*τ.size)) (gX _ _ _ _) (by rw[zH,p]) S B
    (cap:=cap) (by rw[p];exact F) V (by rw[y];simp;omega)
    (by
     have e1:aa (l++m)*τ.size=(cur.toList.take (aa l*i.size)++J).length:=by rw[p,y,aE,MT,N,bF]
     rw[e1];simp only[List.take_left];exact bm.mono (fun x es hx=>PR.mono L1.z L1.zp _ _ _ hx) _ _ (bm.app _ _ _ _ I Bn))
    (fun j E=> .inr ⟨rfl,by rw[p]at E;exact E⟩)
   rw[p]at this;exact this
  ·refine O _ cap _ rfl (by omega) I ?_;have K:=bm.length (PR.k τ) _ _ I;rw[y]at K ⊢;refine run_firstCells_some w.drew i.size _ _ _ cap _ K fun j u E=> ?_;rw[dj,bv];show w.cell? _=_;rw[cW H];rw[ao]at E
   split at E
   ·simpa using E
   ·cases E
theorem DS{e:Ty}{l:List e.den}{b:Nat}{cur:Array Value}{e0:TypeId}{o:Nat×Nat}{d i:TypeId}(q:P.underlying d=some (.slice i))(a:w.heap[b]? =some (.cells cur e0 o))(c:bm (PR w g.Z Zp e) l cur.toList)(n:Nat):
  Src P e.size d (.slice (some ⟨b,0,none⟩) (aa l) n) (aa l) cur.toList w:=
 Src.ofSlice w q _ _ _ _ (bm.length (PR.k e) l _ c) (fun j u p=>by rw[dj,bv,cW a];simpa using p) (uV l _ c)
theorem Ty.eZ:∀(τ:Ty) (x:τ.den),(τ.cells x).all C.known=true
 |.bool,_ |.int _,_ |.str,_ |.sl _,_ |.unit,_ |.ref _,_ |.fn _,_ |.cl _ _,_=>rfl
 |.pair a b,x=>by simp only[Ty.cells,List.all_append,Ty.eZ a,Ty.eZ b,Bool.and_self]
theorem VT.eZ:∀(V:VT) (x:V.den),(V.cells x).all C.known=true
 |.data τ,x=>Ty.eZ τ x
 |.gp _ _,_ |.gs _,_ |.gm _,_ |.cl _ _ _,_ |.unit,_=>rfl
 |.pair a b,x=>by simp only[VT.cells,List.all_append,VT.eZ a,VT.eZ b,Bool.and_self]
theorem Bo{base:Nat}{V:VT}:∀(l:List V.den) (vs:List Value),bm (fun y c=>bG w base Zp h g (V.cells y) c) l vs→∀u∈vs,u.oneCell'=true
 |[],_,d=>by simp[bm]at d;subst d;simp
 |x::l,_,⟨c,b,i,j,k⟩=>by
  subst i;intro u a;rcases List.mem_append.1 a with a |a
  ·exact bG.one _ _ (VT.eZ V x) j u a
  ·exact Bo l b k u a
theorem kV{base:Nat}(V:VT):∀(x:V.den) (a:List Value),bG w base Zp h g (V.cells x) a→a.length=V.size:=fun x _ b=>(bG.length _ _ b).trans (VT.cL V x)
theorem Ft(R:HR w0 Z0 Zp h g w){c:Nat}{wr:Bool}{V:VT}{H:List (Option (List V.den))}(U:look .dead c h= .gh wr (.bf V) H){y:Option (Nat×Nat×Nat)}{l:List V.den}{v:Value}(z:CR w w0.heap.size Zp h g (.gs c y) v)(F:Gu H y=some l){K Q:TypeId}(J:P.underlying K=some (.slice Q)):
  ∃M,Src P V.size K v l.length M w∧bm (fun y S=>bG w w0.heap.size Zp h g (V.cells y) S) l M:=by
 cases y with
 |none=>
  cases F;have z:v= .slice none 0 0:=z;subst z;exact⟨[],Src.ofNil w J 0,rfl⟩
 |some q=>
  obtain⟨i,a,n⟩:=q;obtain⟨b,k,N,O,Y,o,hp,t,W,T,_,E,rfl,x,Z,I,p,_⟩:=zE R U z F;refine⟨_,?_,p⟩;have d:=bm.length (kV V) l _ p;subst x;refine Src.ofSlice w J ⟨b,o,none⟩ _ _ _ d (fun j u D=> ?_) (Bo l _ p);have hn:0<l.length:=by
   rcases Nat.eq_zero_or_pos l.length with B |B
   ·rw[B]at D;simp at D
   ·exact B
  rw[E (by omega),dj];exact dK t _ _ j u D
theorem vw(R:HR w0 Z0 Zp h g w){τ:Ty}{x:A}{v:Value}{T W:TypeId}(E:P.underlying T=some (.slice W))(S:AR w w0.heap.size Zp h g x v){k:List τ.den→HM}{F:A×aD×Log}(e:(D8 false τ x k).eval next h L=some F):
  ∃m u U,(k m).eval next h U=some F∧Src P τ.size T v (aa m) u w∧bm (PR w g.Z Zp τ) m u:=by
 unfold D8 at e
 split at e
 ·rename_i c y;unfold pT at e;have e:=aR e
  split at e
  ·rename_i wr K H q
   split at e
   ·rename_i H' hH hn;obtain⟨hK,rfl⟩:=cB hH;subst hK;obtain⟨l,hl,e⟩:=aC e;obtain⟨u,N,O⟩:=Ft R q S.c hl E;exact⟨l,u,_,e,N,bm.mono (fun y es hy=>Ty.j0 hn hy) _ _ O⟩
   ·exact(ac e).elim
  ·exact(ac e).elim
 ·rename_i c p;have I:=S.c;clear p
  cases c
  case vec o=>
   simp only[fk]at e;have e:=aR e;obtain⟨zB,hs,Q⟩:=I
   split at e
   ·rename_i j l q;have d:=R.ob o;rw[q]at d;obtain⟨h0,M,b,J,Y,z,a,i⟩:=d;obtain⟨V,n,rfl⟩:=Q j (aa l) (by rw[q];rfl);rw[n]at z;cases z
    split at e
    ·rename_i m D;obtain⟨B,rfl⟩:=eH D;subst B;exact⟨_,_,_,e,DS E a i _,i⟩
    ·exact(ac e).elim
   ·rename_i j l q;have d:=R.ob o;rw[q]at d;obtain⟨h0,M,b,J,Y,fz,z,a,i,_⟩:=d;obtain⟨V,n,rfl⟩:=Q j (aa l) (by rw[q];rfl);rw[n]at z;cases z
    split at e
    ·rename_i m D;obtain⟨B,rfl⟩:=eH D;subst B;exact⟨_,_,_,e,DS E a i _,i⟩
    ·exact(ac e).elim
   ·exact(ac e).elim
  case sl j l t=>
   simp only[fk]at e
   split at e
   ·rename_i m D;obtain⟨B,rfl⟩:=eH D;subst B;obtain⟨u,N,O⟩:=I2 (P:=P) E I.1;exact⟨_,u,_,e,N,O⟩
   ·exact(ac e).elim
  case nils=>
   simp only[fk]at e;simp only[CR]at I;subst I;exact⟨[],[],_,e,Src.ofNil w E 0,rfl⟩
  all_goals (simp only[fk]at e;exact(ac e).elim)
 ·exact(ac e).elim
theorem GL.drop{o c id b:Nat}(i:GL ((o,.dead)::h) g c id b):GL h g c id b:=by
 obtain⟨wr,K,H,x,e,a,d⟩:=i;rw[ax]at a
 split at a
 ·cases a
 ·exact⟨wr,K,H,x,e,a,d⟩
theorem Fu(R:HR w0 Z0 Zp h g w){o:Nat}{e:Ty}{l:List e.den}{v:Value}(u:look .dead o h= .tok)(H:CR w w0.heap.size Zp h g (.sl e l (.own o)) v):GQ w w0.heap.size Zp ((o,.dead)::h) g e l v:=by
 obtain⟨a,zB,ht⟩:=H;rcases ht u with⟨q,y,z⟩|⟨b,O,n,Q,q,y,z,T,U,V,W,Y⟩
 ·exact .inl ⟨y,List.length_eq_zero_iff.1 z⟩
 ·obtain⟨bs,d,B,N,_,x,D⟩:=a;simp at N;subst N;simp at y;obtain⟨rfl,rfl⟩:=y;have K:=bm.length (PR.k e) l B x;have F:=(R.home o b (by rw[u];simp) q).2;refine .inr ⟨b,d,n,Q,rfl,z,T,U,V,W,F,fun p a J=> ?_,fun c id Z=>R.gh.loc c id b o (GL.drop Z) (by rw[u];simp) q,fun i hi=>Y▸R.oa o b i u q hi,?_⟩
  ·rw[ax]at a
   split at a
   ·exact a rfl
   ·rename_i I;exact I (R.ei o p b (by rw[u];simp) a q J)
  ·have:n.toList.take (aa l*e.size)=B:=by
    rw[←K];apply List.ext_getElem?;intro j;rw[ao]
    by_cases t:j<B.length
    ·rw[if_pos t];obtain⟨b2,off,E,H⟩:=D (by intro S;subst S;simp at t)
     cases E;have M:=(H j B[j] (ah t)).1;rw[bv,cW z]at M;rw[ah t,av,M]
    ·rw[if_neg t,bM (by omega)]
   rw[this];exact x
theorem Fv(R:HR w0 Z0 Zp h g w){o:Nat}{e:Ty}{l:List e.den}{v:Value}(a:look .dead o h= .row e l)(J:CR w w0.heap.size Zp h g (.vec o) v)(M:aa l≤maxLen):GQ w w0.heap.size Zp ((o,.dead)::h) g e l v:=by
 obtain⟨I,S,N⟩:=J;obtain⟨b,d,rfl⟩:=N e (aa l) (by rw[a];rfl);have t:=R.ob o;rw[a]at t;obtain⟨Q,F,O,z,E,j,q,u⟩:=t;rw[d]at j;cases j;have x:=bm.length (PR.k e) l _ u;have n:=R.home o b (by rw[a];simp) d;refine .inr ⟨b,aa l,z,E,rfl,q,aq _,M,by simpa using x,n.1,n.2,fun p y D=> ?_,fun c id H=>R.gh.loc c id b o (GL.drop H) (by rw[a];simp) d,fun i K=>absurd K (R.dC o b i (by rw[a];rfl) d),?_⟩
 ·rw[ax]at y
  split at y
  ·exact y rfl
  ·rename_i B;exact B (R.ei o p b (by rw[a];simp) y d D)
 ·rw[←x,List.take_length];exact u
theorem Fw{e:Ty}:GQ w base Zp h g e ([]:List e.den) (.slice none 0 0):=.inl ⟨rfl,rfl⟩
theorem Dc(R:HR w0 Z0 Zp h g w)(I:¬ g.al new){t Q e V ty:TypeId}{d N u:TD}(T:cn P t d)(U:cn P Q N)(q:cn P e u)(E:d.desc= .slice e)(F:N.desc= .slice V){τ:Ty}(M:u.zero=true)(y:u.ty=some τ)
  {s x:A} {v S:Value} (K:AR w w0.heap.size Zp h g s v) (Y:AR w w0.heap.size Zp h g x S) (B:(zo new τ u.bytes s x).eval next h L=some (r,h',L')):
  aM P w0 Z0 Zp h g w new (do pure (.value (←Builtin.append_ #[t,Q] ty #[v,S]))) r h':=by
 obtain⟨t1,t2,t3,t4⟩:=q.rZ y;unfold zo at B;obtain⟨m,us,L1,a,i,p⟩:=vw R (U.slice F) Y B;clear B
 split at a
 ·obtain⟨n,b,a⟩:=aC a;have a:=bx a;obtain⟨rfl,rfl,_⟩:=aS a;have O:=K.c;simp only[CR]at O;subst O;exact mz R I T q E M y Fw i p b
 ·rename_i D l o
  split at a
  ·rename_i Z k;obtain⟨H,rfl⟩:=eH k;subst H;have a:=aR a
   split at a
   ·rename_i J;obtain⟨n,b,a⟩:=aC a;have a:=bx a;have a:=bx a;obtain⟨rfl,rfl,_⟩:=aS a;obtain⟨z,j⟩:=R.drop o;exact aM.behind j (fun _ h=>h) (mz z I T q E M y (Fu R J K.c) i p b)
   ·exact(ac a).elim
  ·exact(ac a).elim
 ·rename_i o;have a:=aR a
  split at a
  ·rename_i D l J
   split at a
   ·rename_i Z k;obtain⟨H,rfl⟩:=eH k;subst H;obtain⟨n,b,a⟩:=aC a;have a:=bx a;have a:=bx a;obtain⟨rfl,rfl,_⟩:=aS a;obtain⟨z,j⟩:=R.drop o;have W:aa l+aa m≤140737488355328:=(mw b).2.1;exact aM.behind j (fun _ h=>h) (mz z I T q E M y (Fv R J K.c (by simp only[maxLen];omega)) i p b)
   ·exact(ac a).elim
  ·exact(ac a).elim
 ·exact(ac a).elim
end
section
variable {P:Program} {w0:W0} {w w':World} {Z0 Zp:aL} {h h':aD} {g:G} {new next base:Nat} {r:A} {L L':Log} {X:Cx}
theorem Ty.dM:∀τ:Ty,τ.dJ.length=τ.size
 |.bool |.int _ |.str |.sl _ |.unit |.ref _ |.fn _ |.cl _ _=>rfl
 |.pair a b=>by simp[Ty.dJ,Ty.size,Ty.dM a,Ty.dM b]
theorem VT.dM:∀V:VT,V.dJ.length=V.size
 |.data τ=>Ty.dM τ
 |.gp _ _ |.gs _ |.gm _ |.cl _ _ _ |.unit=>rfl
 |.pair a b=>by simp[VT.dJ,VT.size,VT.dM a,VT.dM b]
theorem VT.mA{base:Nat}:∀V:VT,V.mu=true→bG w base Zp h g (V.cells V.zero) V.dJ
 |.data τ,d=>by
  have d:(τ.aX&&τ.mu)=true:=d;rw[ae]at d;exact bG.gT τ _ _ (li τ d.1 d.2)
 |.gp _ _,_=>⟨_,[],rfl,rfl,rfl⟩
 |.gs _,_=>⟨_,[],rfl,rfl,rfl⟩
 |.gm _,_=>⟨_,[],rfl,rfl,rfl⟩
 |.cl _ _ _,_=>⟨_,[],rfl,rfl,rfl⟩
 |.pair a b,d=>by
  have d:(a.mu&&b.mu)=true:=d;rw[ae]at d;exact bG.append _ _ _ _ (VT.mA a d.1) (VT.mA b d.2)
 |.unit,_=>rfl
theorem VT.dQ{base:Nat}:∀V:VT,bG w base Zp h g V.er V.dJ
 |.data τ=>Go.Am.dQ τ
 |.gp _ _=>⟨_,[],rfl,rfl,rfl⟩
 |.gs _=>⟨_,[],rfl,rfl,rfl⟩
 |.gm _=>⟨_,[],rfl,rfl,rfl⟩
 |.cl _ _ _=>⟨_,[],rfl,rfl,rfl⟩
 |.pair a b=>bG.append _ _ _ _ (VT.dQ a) (VT.dQ b)
 |.unit=>rfl
theorem aM.vy(R:HR w0 Z0 Zp h g w){c k cap sz:Nat}{K:GK}{H:List (Option K.ga)}{x:K.ga}(i:look .dead c h= .gh true K H){d:Sem Next}{w1:World}(p:Eh w w1){cur:Array Value}{e0:TypeId}{v:Value}
  (hr:d.run P w= .ok (.value v) (w1.alloc (.cells cur e0 (0,0)))) (l:∀V,K= .bf V→sz=V.size)
  (u:∀(g':G) (w':World) (h':aD),Le Zp h g w h' g' w'→g'.pm c H.length=some (w.heap.size,k,cap,sz)→w'.heap[w.heap.size]? =some (.cells cur e0 (0,0))→gi w' w0.heap.size Zp h' g' c H.length K x∧AR w' w0.heap.size Zp h' g' r v):
  aM P w0 Z0 Zp h g w new d r ((c,.gh true K (dl H x))::h):=by
 have t:(w1.alloc (.cells cur e0 (0,0))).heap=w.heap.push (.cells cur e0 (0,0)):=by
  show w1.heap.push _=_;rw[p.heap]
 have a:(w1.alloc (.cells cur e0 (0,0))).heap[w.heap.size]? =some (.cells cur e0 (0,0)):=by rw[t];simp
 obtain⟨g',j⟩:∃g':G,g'={ g with pm:=p3 g.pm c H.length (w.heap.size,k,cap,sz) }:=⟨_,rfl⟩;have b:g'.pm c H.length=some (w.heap.size,k,cap,sz):=by rw[j];exact fm _ _ _ _
 obtain⟨y,L'⟩:=R.dl (x:=x) i t ((p.ext R.ext).alloc _) l j (fun L=>(u g' _ _ L b a).1);exact⟨_,v,_,_,hr,.inl rfl,y,L',(u g' _ _ L' b a).2,fun o i=> .inl (by rw[j]at i;exact i)⟩
theorem r4{t q ty e:TypeId}{i:TypeInfo}(y:P.underlying t=some (.slice e))(u:P.info? e=some i){b o sLen sCap:Nat}{cur:Array Value}{e0:TypeId}(d:w.heap[b]? =some (.cells cur e0 (0,0))){x:Value}{n:Nat}{a:List Value}
  (l:Src P i.size q x n a w) (c:sLen+n≤sCap) (j:o+sLen*i.size+a.length≤cur.size):
  (Builtin.append_ #[t,q] ty #[.slice (some ⟨b,o,none⟩) sLen sCap,x]).run P w= .ok (.slice (some ⟨b,o,none⟩) (sLen+n) sCap) (w.setRow b (cur.toList.take (o+sLen*i.size)++a++cur.toList.drop (o+sLen*i.size+a.length)).toArray):=by
 have k:=run_storeCells_at P b (o+sLen*i.size) e0 a 0 cur w d (by simpa using j) l.one;simp only[b8]at k;rcases l.kind with⟨z,p⟩|p<;>simp[Builtin.append_,run_underlying y,run_underlying p,sizeOf,typeInfo,u,l.len,c,l.cells,dj,k]
theorem r5{t d ty e:TypeId}{i:TypeInfo}(k:P.underlying t=some (.slice e))(j:P.info? e=some i){base:Option Addr}{sLen sCap:Nat}(a:sLen≤sCap){x:Value}(b:Src P i.size d x 0 [] w):
  (Builtin.append_ #[t,d] ty #[.slice base sLen sCap,x]).run P w= .ok (.slice base sLen sCap) w:=by
 rcases b.kind with⟨l,c⟩|c<;>cases base<;>simp[Builtin.append_,run_underlying k,run_underlying c,sizeOf,typeInfo,j,b.len,b.cells,a,storeCells]
theorem Bp(R:HR w0 Z0 Zp h g w){V:VT}{x:A}{v:Value}{u z:TypeId}(o:P.underlying u=some (.slice z))(p:AR w w0.heap.size Zp h g x v){k:List V.den→HM}{a:A×aD×Log}(e:(Gz V x k).eval next h L=some a):
  ∃m b d,(k m).eval next h d=some a∧Src P V.size u v (aa m) b w∧bm (fun y i=>bG w w0.heap.size Zp h g (V.cells y) i) m b:=by
 by_cases t:∃τ,V= .data τ
 ·obtain⟨τ,rfl⟩:=t;have e:(D8 false τ x k).eval next h L=some a:=e
  obtain⟨m,b,d,e,j,n⟩:=vw R o p e;exact⟨m,b,d,e,j,bm.mono (fun y i I=>bG.gT τ y i I) _ _ n⟩
 unfold Gz at e
 split at e
 ·exact absurd ⟨_,rfl⟩ t
 ·rename_i V c y k _;have e:=aR e
  split at e
  ·rename_i wr K H F
   split at e
   ·rename_i J B;obtain⟨D,rfl⟩:=cB B;subst D;obtain⟨l,E,e⟩:=aC e;obtain⟨b,j,n⟩:=Ft R F p.c E o;exact⟨l,b,_,e,j,n⟩
   ·exact(ac e).elim
  ·exact(ac e).elim
 ·have q:=p.c;simp only[CR]at q;subst q;exact⟨[],[],_,e,Src.ofNil w o 0,rfl⟩
 ·exact(ac e).elim
theorem Bq(R:HR w0 Z0 Zp h g w){t tx e ex ty:TypeId}{d dx de:TD}(T:cn P t d)(Tx:cn P tx dx)(Te:cn P e de)(hd:d.desc= .slice e)(Kt:dx.desc= .slice ex){V:VT}(hV:r0 P e V)(hpos:0<de.size){c:Nat}{y:Option (Nat×Nat×Nat)}
  {x:A} {v vx:Value} (hs:CR w w0.heap.size Zp h g (.gs c y) v) (hx:AR w w0.heap.size Zp h g x vx) (e1:(zq V c de.bytes y x).eval next h L=some (r,h',L')):
  aM P w0 Z0 Zp h g w new (do pure (.value (←Builtin.append_ #[t,tx] ty #[v,vx]))) r h':=by
 unfold zq at e1;obtain⟨m,N,L1,Y,F,Bn⟩:=Bp R (Tx.slice Kt) hx e1;clear e1;have Y:=aR Y
 split at Y
 ·rename_i K H U
  split at Y
  ·rename_i H' hH;obtain⟨hK,rfl⟩:=cB hH;subst hK;obtain⟨r1,p,Y⟩:=aC Y;have Y:=bx Y;obtain⟨rfl,rfl,_⟩:=aS Y;obtain⟨i,z,hi,J,Mi,I5,_⟩:=hV.inf;obtain⟨i',hi',P0,Mh⟩:=Te.inf;rw[hi]at hi';cases hi';have hzs:z.cells.size=i.size:=by
    have:=congrArg aa I5;rw[ap,VT.dM]at this;omega
   rw[←J]at F;have GR:=F.newsLen;have MU:0<V.size:=by omega
   have grow:∀(l:List V.den) (n:List V.den) (bs:Option Addr) (sCap:Nat) (E:List Value) (H1:List (Option (List V.den))) (h1:aD),v= .slice bs (aa l) sCap→sCap<aa l+aa m→bm (fun y es=>bG w w0.heap.size Zp h g (V.cells y) es) l E→
     app de.bytes l m=some n→(Builtin.firstCells i.size (aa l) (.slice bs (aa l) sCap)).run P w.drew= .ok E.toArray w.drew→HR w0 Z0 Zp h1 g w→Le Zp h g w h1 g w→look .dead c h1= .gh true (.bf V) H1→
     aM P w0 Z0 Zp h1 g w new (do pure (.value (←Builtin.append_ #[t,tx] ty #[v,vx]))) (.v false [.gs c (some (H1.length,0,aa n))]) ((c,.gh true (.bf V) (dl H1 n))::h1):=by
    intro l n bs sCap E H1 h1 hv hlt Gq I3 MS R1 Eg P1;subst hv;obtain⟨I4,Bk,rfl⟩:=mw I3;have hr:=run_append_grow_src (P:=P) w t tx ty e i z (T.slice hd) hi Mi bs (aa l) sCap E MS vx _ N F hlt (by omega) (growslice_fits hlt (by rw[Mh];exact I4));have hge:=grownCap_ge w (aa l+aa m) sCap e;have hcm:=grownCap_le_maxLen w (aa l+aa m) sCap e (by simp only[maxLen];omega);have Ku:=bm.length (kV V) l E Gq;have B:aa (l++m)=aa l+aa m:=aE;refine aM.vy R1 P1 (w1:=w.drew) (.inr rfl) (cur:=(E++N).toArray++Builtin.zeroCells z.cells (grownCap w (aa l+aa m) sCap e -(aa l+aa m))) (e0:=e) (k:=0) (cap:=grownCap w (aa l+aa m) sCap e) (sz:=V.size)
     (v:=.slice (some ⟨w.heap.size,0,none⟩) (aa l+aa m) (grownCap w (aa l+aa m) sCap e)) (K:=.bf V) (by simp[hr]) (fun V' h=>by cases h;rfl) (fun g' w' h' L2 O hnew=>⟨⟨MU,_,_,_,_,_,O,hnew,?_,?_,hcm,?_⟩,?_⟩)
    ·rw[Array.size_append,my,bD,aE,Ku,GR,hzs,Nat.sub_mul,←J,bv];have:=a5 i.size hge;rw[bF]at this ⊢;omega
    ·show aa (l++m)≤_;rw[B];exact hge
    ·have e1:aa (l++m)*V.size=(E++N).length:=by rw[B,aE,Ku,GR,←J,bF]
     rw[List.drop_zero];show bm _ (l++m) (List.take (aa (l++m)*V.size) _);rw[e1,Array.toList_append,List.take_left];exact bm.mono (fun x es hx=>bG.mono L2 _ _ (bG.mono Eg _ _ hx)) _ _ (bm.app _ _ _ _ Gq Bn)
    ·refine AR.eU ⟨_,_,_,_,0,O,?_,fun _=>by simp,?_⟩
     ·show 0+aa (l++m)≤_;rw[B];omega
     ·show Value.slice _ _ _=Value.slice _ (aa (l++m)) _;rw[B];rfl
   cases y with
   |none=>
    have hv:v= .slice none 0 0:=hs;unfold Md at p;simp only at p
    split at p
    ·cases p;subst hv;have Em:N=[]:=Bn;subst Em;have hr:=kN (P:=P) (ty:=ty) (T.slice hd) hi F;have W:∀o,look .dead o h=look .dead o ((c,Ob.gh true (.bf V) H)::h):=fun o=>by
      rw[ax]
      split
      ·rename_i hc;subst hc;exact U
      ·rfl
     exact⟨_,.slice none 0 0,w,g,by simp[hr],.inl rfl,R.same W,Le.same W,AR.eU rfl,fun o U=> .inl U⟩
    ·rename_i y0 m0
     split at p
     ·rename_i n hn
      cases p;exact grow [] n none 0 [] H h hv (by simp) rfl hn (run_firstCells_none w.drew _ _ _ _) R (Le.refl _ _ _ _) U
     ·cases p
   |some q=>
    obtain⟨id,a,D⟩:=q;unfold Md at p;simp only at p
    split at p
    ·rename_i l hl
     split at p
     ·rename_i n hn
      cases p;obtain⟨b,k,cap,cur,e0,o,hp,Q,hsz,hac,Il,Ij,rfl,M,hG,_,C6,l0,I6,Ks,_⟩:=zE R U hs hl;obtain⟨I4,Bk,Z⟩:=mw hn;have M:aa l=D:=M
      by_cases I:D+aa m≤cap -a
      ·
       have B:aa n=D+aa m:=by rw[Z,aE,M]
       obtain⟨g',hg⟩:∃g':G,g'={ g with pm:=p3 g.pm c H.length (b,k+a*V.size,cap -a,V.size) }:=⟨_,rfl⟩;have O:g'.pm c H.length=some (b,k+a*V.size,cap -a,V.size):=by rw[hg];exact fm _ _ _ _
       have Kv:(cap -a)*V.size+a*V.size=cap*V.size:=by rw[←bF];congr 1;omega
       have I7:g'.al=g.al:=by rw[hg]
       by_cases MV:a<cap
       ·have Ij:=Ij MV;subst Ij;have hfit:k+a*V.size+D*i.size+N.length≤cur.size:=by
         rw[GR,J,ce,←bF,hsz];have:=a5 V.size I;omega
        have hr:=r4 (P:=P) (ty:=ty) (T.slice hd) hi Q F I hfit;have S:=setRow_heap w b cur (cur.toList.take (k+a*V.size+D*i.size)++N++cur.toList.drop (k+a*V.size+D*i.size+N.length)).toArray e0 (0,0) Q;obtain⟨R',L'⟩:=R.Ih (w':=w.setRow b (cur.toList.take (k+a*V.size+D*i.size)++N++cur.toList.drop (k+a*V.size+D*i.size+N.length)).toArray) (x:=n) (K:=.bf V) U I6 hp rfl (fun c hc=>setRow_other w b c _ hc) (setRow_size _ _ _) (eY R.ext (R.gh.own c (.bf V) H id _ _ U I6 hp) _) (fun V' h=>by cases h;rfl) hg (fun L2=>by
         have CU:cur.toList.length=cur.size:=ap;have MT:(cur.toList.take (k+a*V.size+D*i.size)).length=k+a*V.size+D*i.size:=by
          rw[aP,CU];omega
         refine⟨MU,b,_,_,_,e0,O,S,?_,?_,by omega,?_⟩
         ·rw[bD,aE,aE,MT,bV,CU];omega
         ·show aa n≤_;rw[B];exact I
         ·have e3:((cur.toList.take (k+a*V.size+D*i.size)++N++cur.toList.drop (k+a*V.size+D*i.size+N.length)).drop (k+a*V.size)).take (aa n*V.size)=(cur.toList.drop (k+a*V.size)).take (D*V.size)++N:=by
           have e4:cur.toList.take (k+a*V.size+D*i.size)=cur.toList.take (k+a*V.size)++(cur.toList.drop (k+a*V.size)).take (D*i.size):=by
            rw[List.take_add]
           rw[e4,bd,bd,List.drop_append_of_le_length (by rw[aP,ap];omega),List.drop_eq_nil_of_le (by rw[aP,ap];omega),bH,←bd,B,J];have e5:((cur.toList.drop (k+a*V.size)).take (D*V.size)++N).length=(D+aa m)*V.size:=by
            rw[aE,aP,bV,ap,GR,J,bF];rw[GR,J]at hfit;omega
           rw[←e5,List.take_left]
          show bm _ n (List.take (aa n*V.size) _);show bm _ n (List.take (aa n*V.size) (List.drop (k+a*V.size) (cur.toList.take (k+a*V.size+D*i.size)++N++cur.toList.drop (k+a*V.size+D*i.size+N.length))));rw[e3];have zK:=bm.mono (fun x es hx=>bG.mono L2 _ _ hx) _ _ (bm.app _ _ _ _ C6 Bn);rw[←Z]at zK;exact zK)
        refine⟨_,.slice (some ⟨b,k+a*V.size,none⟩) (D+aa m) (cap -a),_,_,by simp[hr],.inl rfl,R',L',AR.eU ⟨b,_,_,_,k+a*V.size,O,?_,fun _=>by simp,?_⟩,fun o U=> .inl (I7▸U)⟩
        ·show 0+aa n≤_;rw[B];omega
        ·show _=Value.slice _ (aa n) _;rw[B];rfl
       ·
        have hca:cap -a=0:=by omega
        have hm0:aa m=0:=by omega
        have I8:D=0:=by omega
        have hmn:m=[]:=List.length_eq_zero_iff.1 hm0;subst hmn;have Em:N=[]:=Bn;subst Em;have MW:l=[]:=List.length_eq_zero_iff.1 (M.trans I8);have hr:=r5 (P:=P) (ty:=ty) (T.slice hd) hi (base:=some ⟨b,o,none⟩) (sLen:=D) (sCap:=cap -a) (by omega) F;obtain⟨R',L'⟩:=R.Ih (w':=w) (x:=n) (K:=.bf V) U I6 hp rfl (fun _ _=>rfl) rfl R.ext (fun V' h=>by cases h;rfl) hg (fun L2=>by
         refine⟨MU,b,_,_,cur,e0,O,Q,?_,?_,by omega,?_⟩
         ·omega
         ·show aa n≤_;rw[B];exact I
         ·rw[Z,MW];show bm _ [] _;simp[bm])
        refine⟨_,.slice (some ⟨b,o,none⟩) D (cap -a),_,_,by simp[hr],.inl rfl,R',L',AR.eU ⟨b,_,_,_,o,O,?_,fun h=>by omega,?_⟩,fun o U=> .inl (I7▸U)⟩
        ·show 0+aa n≤_;rw[B];omega
        ·show _=Value.slice _ (aa n) _;rw[B];rfl
      ·
       obtain⟨R1,Eg⟩:=R.Ko (K:=.bf V) U I6 hp rfl false (g':=g) (by simp);have hlk:look .dead c ((c,Ob.gh true (.bf V) (H.set id none))::h)= .gh true (.bf V) (H.set id none):=by rw[ax,if_pos rfl]
       have Gq:=bm.length (kV V) l _ C6;have zG:=grow l n (some ⟨b,o,none⟩) (cap -a) _ (H.set id none) _ (by rw[M]) (by omega) C6 hn (by
        refine run_firstCells_some w.drew i.size _ _ _ (cap -a) _ (by rw[J];exact Gq) fun j u hj=> ?_;have hn0:0<D:=by
         rcases Nat.eq_zero_or_pos D with h0 |h0
         ·subst h0;simp at hj
         ·exact h0
        rw[Ij (by omega),dj];exact dK Q _ _ j u hj) R1 Eg hlk
       obtain⟨nn,vv,w2,g2,q1,q2,q3,q4,q5,q6⟩:=aM.behind Eg (fun _ h=>h) zG;have W:∀o,look .dead o ((c,Ob.gh true (.bf V) (dl (H.set id none) n))::(c,Ob.gh true (.bf V) (H.set id none))::h)=look .dead o ((c,Ob.gh true (.bf V) (dl (H.set id none) n))::h):=fun o=>by
        rw[ax,ax,ax]
        split
        ·rfl
        ·rfl
       have hL: @aa (Option (List V.den)) (@List.set (Option (GK.bf V).ga) H id none)= @aa (Option (List V.den)) H:=List.length_set;rw[hL]at q5;exact⟨nn,vv,w2,g2,q1,q2,q3.same W,q4.trans (Le.same W),AR.mono (Le.same W) _ _ q5,q6⟩
     ·cases p
    ·cases p
  ·exact(ac Y).elim
 ·exact(ac Y).elim
theorem Dd(R:HR w0 Z0 Zp h g w){t:TypeId}{V:VT}(d:r0 P t V){c:Nat}{H:List (Option V.den)}(p:look .dead c h= .gh true (.st V) H):
  aM P w0 Z0 Zp h g w new (do pure (.value (←Instr.alloc t true (.tuple #[])))) (.v false [.gp c 0 (some H.length)]) ((c,.gh true (.st V) (dl (α:=V.den) H V.zero))::h):=by
 obtain⟨i,z,n,o,j,l,_⟩:=d.inf;refine aM.vy R (K:=.st V) p (w1:=w) (.inl rfl) (cur:=z.cells) (e0:=t) (k:=0) (cap:=0) (sz:=V.size) (v:=.pointer (some ⟨w.heap.size,0,none⟩)) ?_ (fun _ h=>by cases h) (fun u w' h' q b a=>⟨⟨d.pos,_,_,_,_,b,a,?_⟩,AR.eU ⟨_,b,rfl,rfl⟩⟩)
 ·simp[Instr.alloc,zeroValue,typeInfo,n,j,newVar,newRow,newObj,Sem.run]
 ·rw[l];exact VT.mA V d.nf
theorem Fx(R:HR w0 Z0 Zp h g w){t:TypeId}{V:VT}(d:r0 P t V){c:Nat}{H:List (Option V.den)}(l:look .dead c h= .gh true (.st V) H){cs:List C}{v:Value}(j:bG w w0.heap.size Zp h g cs v.cells.toList){z:V.den}(n:V.bp cs=some z):
  aM P w0 Z0 Zp h g w new (do pure (.value (←Instr.box t v))) (.v false [.gp c 0 (some H.length)]) ((c,.gh true (.st V) (dl (α:=V.den) H z))::h):=by
 refine aM.vy R (K:=.st V) l (w1:=w) (.inl rfl) (cur:=v.cells) (e0:=t) (k:=0) (cap:=0) (sz:=V.size) (v:=.pointer (some ⟨w.heap.size,0,none⟩)) ?_ (fun _ h=>by cases h) (fun o w' h' i b a=>⟨⟨d.pos,_,_,_,_,b,a,?_⟩,AR.eU ⟨_,b,rfl,rfl⟩⟩)
 ·simp[Instr.box,newVar,newRow,newObj,Sem.run]
 ·exact bG.mono i _ _ (VT.eX d.ok j n)
theorem bm.vz{base:Nat}{V:VT}(a:V.mu=true):∀n,bm (fun y b=>bG w base Zp h g (V.cells y) b) (bE n V.zero) (bE n V.dJ).flatten
 |0=>rfl
 |n+1=>⟨V.dJ,(bE n V.dJ).flatten,by simp[List.replicate_succ],VT.mA V a,bm.vz a n⟩
theorem En(R:HR w0 Z0 Zp h g w){t e:TypeId}{d F:TD}(T:cn P t d)(Q:cn P e F)(W:d.desc= .slice e){V:VT}(B:r0 P e V){c:Nat}{H:List (Option (List V.den))}(ho:look .dead c h= .gh true (.bf V) H)
  {O N:IntKind} {n:Int} {k:Nat} (Z:Gn F.bytes n=some k):
  aM P w0 Z0 Zp h g w new (do pure (.value (←Instr.makeSlice t (.int O n) (.int N n)))) (.v false [.gs c (some (H.length,0,k))]) ((c,.gh true (.bf V) (dl (α:=List V.den) H (bE k V.zero)))::h):=by
 obtain⟨i,z,J,Y,E,x,_⟩:=B.inf;obtain⟨i',b,M,D⟩:=Q.inf;rw[J]at b;cases b;obtain⟨I,S,h2,rfl⟩:=qa Z;have p:=B.pos;have hzs:z.cells.size=V.size:=by
  have:=congrArg aa x;rw[ap,VT.dM]at this;omega
 have U:(i.bytes:Int)*n≤281474976710656:=by
  have h3:n.toNat*i.bytes≤140737488355328:=by rw[D];exact S
  have h4:((n.toNat*i.bytes:Nat):Int)=(i.bytes:Int)*n:=by rw[Int.natCast_mul,Int.toNat_of_nonneg I,Int.mul_comm]
  omega
 have u:=run_make (P:=P) w t e i z (T.slice W) J E O N n n I (Int.le_refl _) U (by omega);have a:(madeCells z.cells (n.toNat*i.size)).toList=(bE n.toNat V.dJ).flatten:=by
  have:i.size=z.cells.size:=by omega
  rw[this,yB z.cells (by omega),x]
 have q:=fun(y:G) (w':World) (h':aD)=>bm.vz (w:=w') (base:=w0.heap.size) (Zp:=Zp) (h:=h') (g:=y) B.nf n.toNat;have j:((bE n.toNat V.dJ).flatten).length=n.toNat*V.size:=by
  have:=bm.length (kV (w:=w) (base:=w0.heap.size) (Zp:=Zp) (h:=h) (g:=g) V) _ _ (q g w h);rw[List.length_replicate]at this;exact this
 refine aM.vy R (K:=.bf V) ho (w1:=w) (.inl rfl) (cur:=madeCells z.cells (n.toNat*i.size)) (e0:=e) (k:=0) (cap:=n.toNat) (sz:=V.size) (v:=.slice (some ⟨w.heap.size,0,none⟩) n.toNat n.toNat) (by simp[u]) (fun V' h=>by cases h;rfl)
  (fun y w' h' L2 o l=>⟨⟨p,_,_,_,_,_,o,l,?_,?_,by simp only[maxLen];omega,?_⟩,AR.eU ⟨_,_,_,_,0,o,by omega,fun _=>by simp,by simp⟩⟩)
 ·rw[←ap,a,j,bv]
 ·show @aa V.den (bE n.toNat V.zero)≤_;rw[List.length_replicate];exact aq _
 ·show bm _ (bE n.toNat V.zero) (List.take (@aa V.den (bE n.toNat V.zero)*V.size) _);rw[List.length_replicate,List.drop_zero,a,←j,List.take_length];exact q y w' h'
theorem De(R:HR w0 Z0 Zp h g w){t e:TypeId}{d n:TD}(T:cn P t d)(l:cn P e n)(p:d.desc= .slice e){V:VT}(o:r0 P e V){c:Nat}{H:List (Option (List V.den))}(u:look .dead c h= .gh true (.bf V) H){ps:Array (Nat×Value)}(x:ps= #[]):
  aM P w0 Z0 Zp h g w new (do pure (.value (←Instr.buildSlice t 0 ps))) (.v false [.gs c (some (H.length,0,0))]) ((c,.gh true (.bf V) (dl (α:=List V.den) H []))::h):=by
 subst x;obtain⟨D,j,q,_⟩:=l.inf;have i:(Instr.buildSlice t 0 #[]).run P w= .ok (.slice (some ⟨w.heap.size,0,none⟩) 0 0) (w.alloc (.cells #[] e)):=by
  simp[Instr.buildSlice,run_underlying (T.slice p),Go.sizeOf,typeInfo,j,Instr.fill,newRow,Array.range_zero']
 refine aM.vy R (K:=.bf V) u (w1:=w) (.inl rfl) (cur:= #[]) (e0:=e) (k:=0) (cap:=0) (sz:=V.size) (v:=.slice (some ⟨w.heap.size,0,none⟩) 0 0) (by simp[i]) (fun z h=>by cases h;rfl)
  (fun B w' h' y b a=>⟨⟨o.pos,_,_,_,_,_,b,a,by simp,aq _,by simp only[maxLen];omega,by simp[bm]⟩,AR.eU ⟨_,_,_,_,0,b,by omega,fun _=>by simp,by simp⟩⟩)
theorem xu(F:pR P X.tt)(R:HR w0 Z0 Zp h g w){t:TypeId}{d:TD}(T:cn P t d){u:List (TypeId×Nat)}(I:d.desc= .struct u){V:VT}(E:r0 P t V){p:List (Nat×Nat)}
  (c:hI (fun f:TypeId×Nat=>match ba f.1 X.tt with |some y=>some (f.2,y.size)|none=>none) u=some p) {parts:Array (Nat×Operand)}
  {env:Env} {a:Act} (J:∀t,AR w w0.heap.size Zp h g (look ar t env) (a.tmps.getD t undef)) {cs:List C} (K:pW (fun i=>p[i]?) V.er (parts.toList.map fun(i,x)=>(i,jJ env x))=some cs):
  aM P w0 Z0 Zp h g w new (do pure (.value (←Instr.build t (parts.map fun(i,x)=>(i,a.eval x))))) (.v true cs) h:=by
 obtain⟨f,O,j⟩:=T.struct I;obtain⟨i,z,M,_,k,o,_⟩:=E.inf;have n:bG w w0.heap.size Zp h g V.er z.cells.toList:=by rw[o];exact VT.dQ V
 rw[←j]at c;have l:=pD F _ _ c;obtain⟨b,B,D⟩:=qc (pc:=fun i=>p.toArray[i]?) (fun i q N=>by simpa using N) J parts.toList _ _ z.cells n K;refine aM.pure R (v:=.agg b) ?_ ⟨b.toList,by simp,D⟩;have H:P.built t (parts.map fun(i,x)=>(i,a.eval x)).toList=some b:=by
  unfold Program.built;simp only[M,O,k,l,Array.toList_map];exact B
 simp[run_build w t _ b H]
end
section
variable {P:Program} {w0:W0} {w w':World} {Z0 Zp:aL} {h h':aD} {g:G} {new next base:Nat} {r:A} {L L':Log} {X:Cx}
theorem Br{x:A}{v:Value}(i:GA x=true)(d:AR w base Zp h g x v):∃a n c,v= .slice a n c:=by
 unfold GA at i
 split at i
 ·obtain⟨⟨b,c,l,k,_⟩,_⟩:=d.c;exact⟨b,_,c,by simpa using k⟩
 ·exact⟨none,0,0,d.c⟩
 ·rename_i c y
  cases y with
  |none=>exact⟨none,0,0,d.c⟩
  |some q=>obtain⟨_,_,_,_,_,_,_,_,j⟩:=d.c;exact⟨_,_,_,j⟩
 ·obtain⟨_,⟨a,n,m,j⟩,_⟩:=d.c;exact⟨a,n,m,j⟩
 ·cases i
theorem GS{a:Addr}{v:Value}{w1:World}(b:(load a).run P w= .ok v w1):w1=w:=by
 rw[run_load]at b
 split at b
 ·cases b;rfl
 ·split at b
  ·cases b;rfl
  ·cases b
theorem ox{a:Addr}:∀(n i:Nat) (b r:Array Value),(loadCellsFrom a i n b).run P w= .ok r w→∀k,k≤n→(loadCellsFrom a i k b).run P w= .ok (r.toList.take (b.size+k)).toArray w∧r.size=b.size+n∧r.toList.take b.size=b.toList
 |0,i,b,r,c,k,q=>by
  simp[loadCellsFrom]at c;subst c;obtain rfl:k=0:=by omega
  refine⟨?_,by simp,?_⟩
  ·have:b.toList.take (b.size+0)=b.toList:=bw (by simp);rw[this];simp[loadCellsFrom]
  ·exact bw (by simp)
 |n+1,i,b,r,c,k,q=>by
  simp only[loadCellsFrom,Sem.run_bind]at c
  cases d:(load (a.add i)).run P w with
  |ok v u=>
   have t:=GS d;rw[t]at d;rw[d]at c;simp only[Result.andThen_ok]at c;obtain⟨l,o,p⟩:=ox n (i+1) (b.push v) r c (k -1) (by omega);have j:r.toList.take b.size=b.toList:=by
    have:=congrArg (List.take b.size) p;rw[List.take_take,Nat.min_eq_left (by simp)]at this;rw[this];simp
   refine⟨?_,by rw[o];simp;omega,j⟩
   cases k with
   |zero=>rw[b8,j];simp[loadCellsFrom]
   |succ k=>
    simp only[loadCellsFrom,Sem.run_bind,d,Result.andThen_ok];have:b.size+(k+1)=(b.push v).size+k:=by simp;omega
    rw[this];simpa using l
  |_=>rw[d]at c;simp[Result.andThen]at c
theorem lH{size n:Nat}{x:Value}{d:List Value}(l:∃a k c,x= .slice a k c)(j:d.length=n*size)(b:(Builtin.firstCells size n x).run P w= .ok d.toArray w){k:Nat}(i:k≤n):
  (Builtin.firstCells size k x).run P w= .ok (d.take (k*size)).toArray w:=by
 obtain⟨a,m,c,rfl⟩:=l
 cases a with
 |none=>
  simp[Builtin.firstCells]at b ⊢;rw[←b];simp
 |some a=>
  simp only[Builtin.firstCells,loadCells]at b ⊢;have:=(ox (P:=P) _ _ _ _ b (k*size) (a5 _ i)).1;simpa using this
theorem yC{t z ty e:TypeId}{i:TypeInfo}(E:P.underlying t=some (.slice e))(D:P.info? e=some i){b o dLen dCap:Nat}{cur:Array Value}{e0:TypeId}(j:w.heap[b]? =some (.cells cur e0 (0,0))){x:Value}{n:Nat}{d:List Value}
  (y:Src P i.size z x n d w) (H:∃a k c,x= .slice a k c) (l:o+(d.take (min n dLen*i.size)).length≤cur.size):
  (Builtin.copy_ #[t,z] ty #[.slice (some ⟨b,o,none⟩) dLen dCap,x]).run P w= .ok (goInt (min n dLen:Nat)) (w.setRow b (cur.toList.take o++d.take (min n dLen*i.size)++cur.toList.drop (o+(d.take (min n dLen*i.size)).length)).toArray):=by
 have B:=lH (P:=P) H y.newsLen y.cells (Nat.min_le_left n dLen);have q:=run_storeCells_at P b o e0 (d.take (min n dLen*i.size)) 0 cur w j (by simpa using l) (fun u F=>y.one u (List.mem_of_mem_take F));simp only[b8]at q;have p:Nat.min n dLen=min n dLen:=rfl;simp[Builtin.copy_,run_underlying E,sizeOf,typeInfo,D,y.len,p,B,q]
theorem yD{t o ty e:TypeId}{i:TypeInfo}(u:P.underlying t=some (.slice e))(q:P.info? e=some i){base:Option Addr}{dLen dCap:Nat}{x:Value}{n:Nat}{d:List Value}
  (j:Src P i.size o x n d w) (y:∃a k c,x= .slice a k c) (p:min n dLen=0):
  (Builtin.copy_ #[t,o] ty #[.slice base dLen dCap,x]).run P w= .ok (goInt 0) w:=by
 have l:=lH (P:=P) y j.newsLen j.cells (Nat.zero_le n);simp only[Nat.zero_mul,List.take_zero]at l;have b:Nat.min n dLen=0:=p
 cases base<;>simp[Builtin.copy_,run_underlying u,sizeOf,typeInfo,q,j.len,b,l,storeCells]
theorem Fy{α:Type}(H:List (Option α))(id:Nat)(l:α)(h:H[id]? =some (some l)):H.set id (some l)=H:=by
 apply List.ext_getElem?;intro j
 by_cases a:id=j
 ·subst a;rw[bJ (List.getElem?_eq_some_iff.1 h).1];exact h.symm
 ·rw[bI a]
theorem FA{α:Type}(l:List α)(a:Nat):ml l a []=l:=by simp[ml]
theorem mB{α:Type}(l:List α)(a:Nat)(m:List α)(h:a+m.length≤l.length):(ml l a m).length=l.length:=by
 simp[ml];omega
theorem Bs{α:Type}{R:α→List Value→Prop}{s:Nat}(j:∀x t,R x t→t.length=s){l m:List α}{a k:Nat}{c:List Value}{cur:List Value}(n:bm R l ((cur.drop k).take (l.length*s)))(hm:bm R m c)
  (D:k+l.length*s≤cur.length) (o:a+m.length≤l.length):
  (cur.take (k+a*s)++c++cur.drop (k+a*s+c.length)).length=cur.length∧bm R (ml l a m) (((cur.take (k+a*s)++c++cur.drop (k+a*s+c.length)).drop k).take (l.length*s)):=by
 have q:=bm.length j m c hm;obtain⟨E,i⟩:∃E,E=(cur.drop k).take (l.length*s):=⟨_,rfl⟩;have d:E.length=l.length*s:=by rw[i,aP,bV];omega
 have F:a*s+m.length*s≤l.length*s:=by rw[←bF];exact a5 _ o
 have B:(E.take (a*s)).length=a*s:=by rw[aP,d];omega
 have p:(cur.drop k).take (l.length*s)=E.take (a*s)++E.drop (a*s)++[]:=by rw[←i];simp
 have b:=vq cur k (l.length*s) (E.take (a*s)) (E.drop (a*s)) [] c 0 D p (by rw[bV,d];omega);rw[B]at b;simp only[b8,List.take_zero,bH,List.append_nil,bv,List.drop_drop]at b;refine⟨b.1,?_⟩;rw[b.2];rw[←i]at n;have y:=(bm.take_drop j a l E n).1;have z:=(bm.take_drop j (a+m.length) l E n).2;have u:=bm.app _ _ _ _ (bm.app _ _ _ _ y hm) z;unfold ml;rw[q];have:(a+m.length)*s=a*s+m.length*s:=bF _ _ _;rw[this]at u;simpa[bd]using u
theorem Eo(R:HR w0 Z0 Zp h g w){t tx e ex ty:TypeId}{d dx:TD}(T:cn P t d)(Tx:cn P tx dx)(hd:d.desc= .slice e)(Kt:dx.desc= .slice ex){V:VT}(hV:r0 P e V){c:Nat}{y:Option (Nat×Nat×Nat)}
  {x:A} {v vx:Value} (hs:CR w w0.heap.size Zp h g (.gs c y) v) (hx:AR w w0.heap.size Zp h g x vx) (S:(E8 V c y x).eval next h L=some (r,h',L')):
  aM P w0 Z0 Zp h g w new (do pure (.value (←Builtin.copy_ #[t,tx] ty #[v,vx]))) r h':=by
 unfold E8 at S
 split at S
 ·rename_i IY;have n:=Br IY hx;obtain⟨m,us,L1,D,u,Bn⟩:=Bp R (Tx.slice Kt) hx S;clear S;have D:=aR D
  split at D
  ·rename_i K H F
   split at D
   ·rename_i H' hH;obtain⟨hK,rfl⟩:=cB hH;subst hK;obtain⟨r1,p,D⟩:=aC D;have D:=bx D;obtain⟨rfl,rfl,_⟩:=cu D;obtain⟨i,z,hi,O,Mi,I5,_⟩:=hV.inf;rw[←O]at u;have GR:=u.newsLen;have J:∀o,look .dead o h=look .dead o ((c,Ob.gh true (.bf V) H)::h):=fun o=>by
     rw[ax]
     split
     ·rename_i hc;subst hc;exact F
     ·rfl
    cases y with
    |none=>
     cases p;have hv:v= .slice none 0 0:=hs;subst hv;have hr:=yD (P:=P) (ty:=ty) (T.slice hd) hi (base:=none) (dLen:=0) (dCap:=0) u n (Nat.min_zero _);exact⟨_,goInt 0,w,g,by simp[hr],.inl rfl,R.same J,Le.same J,AR.eU rfl,fun o F=> .inl F⟩
    |some q=>
     obtain⟨id,a,j⟩:=q;unfold Oz at p;simp only at p
     split at p
     ·rename_i l hl
      split at p
      ·rename_i Z
       cases p;have Z:a+j≤@aa V.den l:=Z;have I:=cO hl;obtain⟨h0,b,k,B,cur,e0,hp,N,W,I1,Il,C6⟩:=R.gh.ga c true (.bf V) H id l F I;obtain⟨b',k',cap',sz',o,hq,hac,Q,rfl⟩:=hs;rw[hp]at hq;cases hq
       by_cases hz:min (aa m) j=0
       ·have hr:=yD (P:=P) (ty:=ty) (T.slice hd) hi (base:=some ⟨b,o,none⟩) (dLen:=j) (dCap:=B -a) u n hz;have E:m.take j=[]:=List.eq_nil_of_length_eq_zero (by rw[aP];omega);have U:H.set id (some (ml l a (m.take j)))=H:=by
         rw[E,FA];exact Fy H id l I
        refine⟨_,goInt 0,w,g,by simp[hr],.inl rfl,?_,?_,?_,fun o F=> .inl F⟩
        ·show HR w0 Z0 Zp ((c,.gh true (.bf V) (H.set id (some (ml l a (m.take j)))))::h) g w;rw[U];exact R.same J
        ·show Le Zp h g w ((c,.gh true (.bf V) (H.set id (some (ml l a (m.take j)))))::h) g w;rw[U];exact Le.same J
        ·refine AR.eU ?_;show goInt 0= .int .i64 _;have:min (aa m) j=0:=hz;simp[goInt,this]
       ·have hca:a<B:=by omega
        have Q:=Q hca;subst Q;have Kw:(us.take (min (aa m) j*i.size)).length=min (aa m) j*i.size:=by
         rw[aP,GR];exact Nat.min_eq_left (a5 _ (Nat.min_le_left _ _))
        have E: @aa V.den (m.take j)=min (aa m) j:=by rw[aP];exact Nat.min_comm _ _
        have MX:m.take j=m.take (min (aa m) j):=by
         rcases Nat.le_total (aa m) j with hh |hh
         ·rw[Nat.min_eq_left hh,bw hh,bw (aq _)]
         ·rw[Nat.min_eq_right hh]
        have E0:bm (fun y es=>bG w w0.heap.size Zp h g (V.cells y) es) (m.take j) (us.take (min (aa m) j*i.size)):=by
         rw[MX,O];exact(bm.take_drop (kV V) _ _ _ Bn).1
        have Kv: @aa V.den l*V.size≤B*V.size:=a5 _ I1;have CU:cur.toList.length=cur.size:=ap;obtain⟨q1,q2⟩:=Bs (a:=a) (m:=(m.take j:List V.den)) (cur:=cur.toList) (kV V) C6 E0 (by omega) (by rw[E];have:=Nat.min_le_right (aa m) j;omega);have Y:k+a*V.size+(us.take (min (aa m) j*i.size)).length≤cur.size:=by
         rw[Kw,O];obtain⟨M,hM⟩:∃M,M=min (aa m) j:=⟨_,rfl⟩;have Sh:M≤j:=by rw[hM];exact Nat.min_le_right _ _
         rw[←hM];have h10:(a+M)*V.size≤@aa V.den l*V.size:=a5 _ (by omega);rw[bF]at h10;omega
        have hr:=yC (P:=P) (ty:=ty) (T.slice hd) hi (dLen:=j) (dCap:=B -a) N u n Y;obtain⟨R',L'⟩:=R.n5 (w':=w.setRow b (cur.toList.take (k+a*V.size)++us.take (min (aa m) j*i.size)++cur.toList.drop (k+a*V.size+(us.take (min (aa m) j*i.size)).length)).toArray) (K:=.bf V) (x:=(ml l a (m.take j):List V.den)) F I hp rfl (fun c hc=>setRow_other w b c _ hc) (setRow_size _ _ _)
         (eY R.ext (R.gh.own c (.bf V) H id l _ F I hp) _) (fun L2=>⟨h0,b,k,B,_,e0,hp,setRow_heap w b cur _ e0 _ N,by
          rw[bD,q1,CU];exact W,by
          show @aa V.den (ml l a (m.take j))≤B;rw[mB l a _ (by rw[E];have:=Nat.min_le_right (aa m) j;omega)];exact I1,Il,by
          show bm _ (ml l a (m.take j)) (List.take (@aa V.den (ml l a (m.take j))*V.size) _);rw[mB l a _ (by rw[E];have:=Nat.min_le_right (aa m) j;omega)];exact bm.mono (fun x es hx=>bG.mono L2 _ _ hx) _ _ q2⟩)
        exact⟨_,_,_,_,by simp[hr];rfl,.inl rfl,R',L',AR.eU rfl,fun o F=> .inl F⟩
      ·cases p
     ·cases p
   ·exact(ac D).elim
  ·exact(ac D).elim
 ·exact(ac S).elim
theorem Ep(hX:pR P X.tt)(R:HR w0 Z0 Zp h g w){t tx e ex ty:TypeId}{d dx:TD}(T:cn P t d)(Tx:cn P tx dx)(hd:d.desc= .slice e)(Kt:dx.desc= .slice ex){o:Nat}
  {x:A} {v vx:Value} (hs:CR w w0.heap.size Zp h g (.vec o) v) (Q:AR w w0.heap.size Zp h g x vx) (n:(E9 X e o x).eval next h L=some (r,h',L')):
  aM P w0 Z0 Zp h g w new (do pure (.value (←Builtin.copy_ #[t,tx] ty #[v,vx]))) r h':=by
 unfold E9 at n
 split at n
 ·rename_i IY;have q:=Br IY Q;have n:=aR n
  split at n
  ·rename_i τ l B
   split at n
   ·rename_i j;obtain⟨m,D,L1,U,p,Bn⟩:=vw R (Tx.slice Kt) Q n;clear n;have U:=bx U;obtain⟨rfl,rfl,_⟩:=cu U;unfold ld at j
    split at j
    ·rename_i de GO;rw[ae]at j;have j:=af j.1;obtain⟨i,hi,y,_⟩:=(hX.get GO).inf;have y:i.size=τ.size:=by omega
     rw[←y]at p;have GR:=p.newsLen;obtain⟨zB,hsh,Y⟩:=hs;obtain⟨b,N,rfl⟩:=Y τ (aa l) (by rw[B];rfl);have J:=R.ob o;rw[B]at J;obtain⟨h0,V,b',cur,e0,E,u,K⟩:=J;rw[N]at E;cases E;have W:=R.home o b (by rw[B];simp) N;have H:=bm.length (PR.k τ) l _ K;have CU:cur.toList.length=cur.size:=ap;have I: @aa τ.den (m.take (aa l))=min (aa m) (aa l):=by rw[aP];exact Nat.min_comm _ _
     have MX:m.take (aa l)=m.take (min (aa m) (aa l)):=by
      rcases Nat.le_total (aa m) (aa l)with O |O
      ·rw[Nat.min_eq_left O,bw O,bw (aq _)]
      ·rw[Nat.min_eq_right O]
     have E0:bm (PR w g.Z Zp τ) (m.take (aa l)) (D.take (min (aa m) (aa l)*i.size)):=by
      rw[MX,y];exact(bm.take_drop (PR.k τ) _ _ _ Bn).1
     have M:bm (PR w g.Z Zp τ) l ((cur.toList.drop 0).take (aa l*τ.size)):=by
      rw[List.drop_zero,bw (by omega)];exact K
     obtain⟨q1,q2⟩:=Bs (cur:=cur.toList) (a:=0) (PR.k τ) M E0 (by omega) (by rw[I];have:=Nat.min_le_right (aa m) (aa l);omega);simp only[Nat.zero_mul,b8,bv,List.take_zero,bH,List.drop_zero]at q1 q2;have q3:(D.take (min (aa m) (aa l)*i.size)++cur.toList.drop (D.take (min (aa m) (aa l)*i.size)).length).length≤aa l*τ.size:=by rw[q1,H];exact aq _
     rw[bw q3]at q2;have Kw:(D.take (min (aa m) (aa l)*i.size)).length=min (aa m) (aa l)*i.size:=by
      rw[aP,GR];exact Nat.min_eq_left (a5 _ (Nat.min_le_left _ _))
     have F:0+(D.take (min (aa m) (aa l)*i.size)).length≤cur.size:=by
      have h9:=q1;simp only[aE,bV]at h9;omega
     have hr:=yC (P:=P) (ty:=ty) (T.slice hd) hi (dLen:=aa l) (dCap:=aa l) (o:=0) u p q F;simp only[List.take_zero,bH,bv]at hr;obtain⟨R',S⟩:=R.write (w':=w.setRow b (D.take (min (aa m) (aa l)*i.size)++cur.toList.drop (D.take (min (aa m) (aa l)*i.size)).length).toArray) (x:=.row τ (ml l 0 (m.take (aa l)))) N (by rw[B];rfl)
      (by
       rw[B];exact .inr (.inr (.inr (.inl ⟨_,rfl,by
        show some (τ,@aa τ.den (ml l 0 (m.take (aa l))))=some (τ,aa l);rw[mB l 0 _ (by rw[I];have:=Nat.min_le_right (aa m) (aa l);omega)]⟩)))) rfl
      (fun c hc=>setRow_other w b c _ hc) (setRow_size _ _ _) (eY R.ext (.inl W.1) _)
      (fun L2=>⟨h0,V,b,_,e0,N,setRow_heap w b cur _ e0 _ u,by
       have:=bm.mono (fun x es Q=>PR.mono L2.z L2.zp _ _ _ Q) _ _ q2;simpa only[List.toList_toArray]using this⟩)
     exact⟨_,_,_,_,by simp[hr];rfl,.inl rfl,R',S,AR.eU rfl,fun o B=> .inl B⟩
    ·cases j
   ·exact(ac n).elim
  ·exact(ac n).elim
 ·exact(ac n).elim
end
end Go.Am
