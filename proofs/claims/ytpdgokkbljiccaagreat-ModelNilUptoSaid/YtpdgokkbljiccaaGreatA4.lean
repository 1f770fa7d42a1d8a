import Derived.Test.YtpdgokkbljiccaaGreatA3
import Derived.LoopN
import Derived.Laws.Sem
import Derived.Calls
import Derived.Scope
import Derived.ProofKit
import Derived.JoinedCond
import Derived.WideKeyArgs
import Derived.ChangeArms
set_option linter.unusedVariables false
set_option linter.unusedSimpArgs false
open Array renaming getD_eq_getD_getElem?→aN,getElem?_eq_getElem→ag,getElem?_toList→av
open Bool renaming and_eq_true→ae
open List renaming all_eq_true→bg,append_assoc→bd,getElem?_append_left→aH,getElem?_append_right→aY,getElem?_eq_getElem→ah,getElem?_eq_none→bM,getElem?_take→ao,getElem_mem→cf,length_append→aE,length_drop→bV,length_take→aP,length→aa,map_cons→aQ,mem_append_left→bA,mem_append_right→cC,mem_cons_of_mem→bz,mem_of_getElem?→bj,size_toArray→bD
open Nat renaming add_assoc→ce,add_zero→b8,beq→aJ,blt_eq→b9,eq_of_beq_eq_true→af,le_of_ble_eq_true→cj,le_refl→aq,lt_of_lt_of_le→aK,lt_or_ge→cx,mul_le_mul_right→a5,zero_add→bv
open Option renaming bind_some→aj
open Go.World renaming cell?_of_block→az
namespace Go.Am
open Go
section
variable {P:Program} {w0:W0} {w w':World} {Z0 Zp:aL} {h h':aD} {g:G} {new next base:Nat} {r:A} {L L':Log} {X:Cx}
theorem DV{p:Nat}:∀(l:List (Nat×GK)) (x y:cJ l) (K:GK) (H:List (Option K.ga)) (a:GK) (b:List (Option a.ga)),cA true l x p=some (.gh true K H)→cA true l y p=some (.gh true a b)→K=a
 |[],_,_,_,_,_,_,h,_=>by cases h
 |(c,j)::r,x,y,K,H,a,b,k,n=>by
  have d:(if c=p then some (Ob.gh true j x.1)else cA true r x.2 p)=some (.gh true K H):=k;have i:(if c=p then some (Ob.gh true j y.1)else cA true r y.2 p)=some (.gh true a b):=n;clear k n
  by_cases o:c=p
  ·rw[if_pos o]at d i
   cases d;cases i;rfl
  ·rw[if_neg o]at d i;exact DV r x.2 y.2 K H a b d i
def Jg(w:World)(h:aD)(g:G)(V:VT)(x:V.den)(v:Value):Prop:=
 ∀(base:Nat) (a:aL) (h':aD) (d:G),(∀b i,g.Z b i→d.Z b i)→(∀c id e,g.pm c id=some e→d.pm c id=some e)→(∀b i,tT h g w b i→a b i)→AR w base a h' d (kJ V x) v
def sa(w:World)(h:aD)(g:G):(ps:List VT)→(iz ps).den→List Value→Prop
 |[],_,b=>b=[]
 |[V],x,b=>∃v,b=[v]∧Jg w h g V x v
 |V::U::r,x,b=>∃v a,b=v::a∧Jg w h g V x.1 v∧sa w h g (U::r) x.2 a
theorem sa.out{rT:aL}{g':G}{t:aD}(d:∀b i,g.Z b i→g'.Z b i)(j:∀c id e,g.pm c id=some e→g'.pm c id=some e)(l:∀b i,tT h g w b i→rT b i):∀(ps:List VT) (x:(iz ps).den) (vs:List Value),sa w h g ps x vs→kr w base rT t g' ps x vs
 |[],_,_,u=>u
 |[_],_,_,⟨v,e,p⟩=>⟨v,e,p _ _ _ _ d j l⟩
 |_::U::r,x,_,⟨v,a,e,p,hr⟩=>⟨v,a,e,p _ _ _ _ d j l,sa.out d j l (U::r) x.2 a hr⟩
theorem yL(R:HR w0 Z0 Zp h g w){V:VT}{a:A}{v:Value}(F:AR w w0.heap.size Zp h g a v){k:V.den→HM}{j:A×aD×Log}(e:(DJ true V a k).eval next h L=some j):
  ∃x c g1 q,(k x).eval next c q=some j∧HR w0 Z0 Zp c g1 w∧Le Zp h g w c g1 w∧Fz h g c g1∧Jg w c g1 V x v:=by
 by_cases H:∃τ,V= .data τ
 ·obtain⟨τ,rfl⟩:=H;have e:(D7 true τ a k).eval next h L=some j:=e
  obtain⟨x,c,g1,q,e,N,t,f1,o⟩:=vO true R F e;refine⟨x,c,g1,q,e,N,t,f1,fun base rT h' g' E I J=> ?_⟩;have o:iM w g1.Z (tT c g1 w) τ x v:=o;exact iM.toVR (iM.mono (fun b i l=>⟨E b i l,rfl⟩) (fun b i l=>⟨J b i l,rfl⟩) o)
 unfold DJ at e
 split at e
 ·exact absurd ⟨_,rfl⟩ H
 ·rename_i T Y _
  split at e
  ·rename_i p;rw[ae]at p;obtain⟨K,y,c,U⟩:=VR.list F;obtain⟨Q,W,S,M,e,O,u,z,n⟩:=cd _ _ h g _ _ _ R y e
   split at e
   ·rename_i x o;have D:=VT.eX p.2 n o;refine⟨x,W,S,M,e,O,u,z,fun base rT h' g' E I J=> ?_⟩;have d:=VT.ic (w':=w) (base':=base) (rT:=rT) (h':=h') (g':=g') (fun b i l=>⟨E b i l,rfl⟩) I V x K p.2 D;have B:=toBeq p.1;show VR w base rT h' g' V.isAgg (V.cells x) v;rw[←B]
    cases T with
    |true=>exact⟨K,c rfl,d⟩
    |false=>rw[U rfl]at d;exact d
   ·exact(ac e).elim
  ·exact(ac e).elim
 ·exact(ac e).elim
theorem Jg.mono{d:aD}{g1:G}(L:Le Zp h g w d g1 w)(f:Fz h g d g1){V:VT}{x:V.den}{v:Value}(t:Jg w h g V x v):Jg w d g1 V x v:=fun base a h' j y p u=>
 t base a h' j (fun b i hb=>y b i (L.z b i hb).1) (fun c id e l=>p c id e (L.pm c id e l)) (fun b i hb=>u b i (FI f b i hb).1)
theorem vR:∀(ps:List VT) (as:List A) (vs:List Value) (h:aD) (g:G) (L:Log) (k:(iz ps).den→HM) (c:A×aD×Log),HR w0 Z0 Zp h g w→
  bm (fun b B=>∃u,B=[u]∧AR w w0.heap.size Zp h g b u) as vs→(CY true ps as k).eval next h L=some c→
  ∃x j g1 n,(k x).eval next j n=some c∧HR w0 Z0 Zp j g1 w∧Le Zp h g w j g1 w∧Fz h g j g1∧sa w j g1 ps x vs
 |[],as,vs,h,g,L,k,c,R,t,e=>by
  cases as with
  |nil=>exact⟨(),h,g,L,e,R,Le.refl _ _ _ _,Fz.refl _ _,t⟩
  |cons _ _=>exact(ac e).elim
 |[V],as,vs,h,g,L,k,c,R,t,e=>by
  cases as with
  |nil=>exact(ac e).elim
  |cons a as=>
   cases as with
   |cons _ _=>exact(ac e).elim
   |nil=>
    obtain⟨B,d,E,⟨u,F,q⟩,z⟩:=t;simp only[bm]at z;subst z;subst F;obtain⟨x,j,g1,n,H,D,i,l,I⟩:=yL R q e;exact⟨x,j,g1,n,H,D,i,l,u,by simpa using E,I⟩
 |V::U::ps,as,vs,h,g,L,k,c,R,t,e=>by
  cases as with
  |nil=>exact(ac e).elim
  |cons a as=>
   obtain⟨B,d,E,⟨u,F,q⟩,z⟩:=t;subst F;obtain⟨x,j,g1,n,H,D,i,l,I⟩:=yL R q e;obtain⟨y,O,N,J,M,K,o,p,Q⟩:=vR (U::ps) as d j g1 n _ c D (bm.mono (fun b B ⟨u,e,q⟩=>⟨u,e,AR.mono i _ _ q⟩) _ _ z) H;exact⟨(x,y),O,N,J,M,K,i.trans o,l.trans p,u,d,by simpa using E,Jg.mono o p I,Q⟩
theorem mE{w1:World}{base':Nat}{rT:aL}{o:aD}{g1:G}(j:bc w w1 g.Z g1.Z)(k:∀c id e,g.pm c id=some e→g1.pm c id=some e):∀(rs:List VT) (x:(iz rs).den) (vs:List Value),rs.all VT.ok=true→
  bm (fun(p:Bool×List C) b=>∃u,b=[u]∧VR w base Zp h g p.1 p.2 u) (px rs x) vs→bm (fun(p:Bool×List C) b=>∃u,b=[u]∧VR w1 base' rT o g1 p.1 p.2 u) (px rs x) vs
 |[],_,_,_,q=>q
 |[V],x,_,d,⟨b,a,e,⟨u,i,n⟩,l⟩=>⟨b,a,e,⟨u,i,VT.uY j k (by simpa using d) n⟩,l⟩
 |V::U::r,x,_,d,⟨b,a,e,⟨u,i,n⟩,l⟩=>by
  simp only[List.all_cons,ae]at d;exact⟨b,a,e,⟨u,i,VT.uY j k d.1 n⟩,mE j k (U::r) x.2 a (by simpa using d.2) l⟩
theorem zO{w1:World}{base':Nat}{rT:aL}{l:aD}{g1:G}(d:bc w w1 g.Z g1.Z)(i:∀c id e,g.pm c id=some e→g1.pm c id=some e)(rs:List VT)(x:(iz rs).den)(v:Value)(a:rs.all VT.ok=true)(b:AR w base Zp h g (jZ rs x) v):AR w1 base' rT l g1 (jZ rs x) v:=by
 match rs,x,a,b with
 |[V],x,a,b=>exact VT.uY d i (by simpa using a) b
 |[],x,a,⟨k,e,j⟩=>exact⟨k,e,mE d i _ _ _ a j⟩
 |V::U::r,x,a,⟨k,e,j⟩=>exact⟨k,e,mE d i _ _ _ a j⟩
theorem HR.Jh(R:HR w0 Z0 Zp h g w){c k cap sz nb:Nat}{K:GK}{H:List (Option K.ga)}{x:K.ga}(I:look .dead c h= .gh true K H)(l:∀b:Nat,b<w.heap.size→w'.heap[b]? =w.heap[b]?)(Q:w.heap.size≤nb)(E:nb<w'.heap.size)(W:w0.Extends w')(T:∀V,K= .bf V→sz=V.size){g':G}(Y:g'={ g with pm:=p3 g.pm c H.length (nb,k,cap,sz) })
  (hx:Le Zp h g w ((c,.gh true K (Go.Am.dl H x))::h) g' w'→gi w' w0.heap.size Zp ((c,.gh true K (Go.Am.dl H x))::h) g' c H.length K x):
  HR w0 Z0 Zp ((c,.gh true K (Go.Am.dl H x))::h) g' w'∧Le Zp h g w ((c,.gh true K (Go.Am.dl H x))::h) g' w':=by
 subst Y;have O:=R.gh.fresh c true K H H.length I (aq _);have S:∀t d e,g.pm t d=some e→¬ (t=c∧d=H.length):=fun t d e p ⟨u,J⟩=>by subst u;subst J;rw[O]at p;cases p
 refine R.Bc I g.Z (p3 g.pm c H.length (nb,k,cap,sz)) (fun _ _ h=>h) (fun _ _ h=> .inl h) (fun t d e h=>by rw[gW _ _ (S _ _ _ h)];exact h) (fun t d e h=> ?_) (by simp[Go.Am.dl]) (by simp[Go.Am.dl]) (fun i z D a=> ?_) (fun i y j p u _=>R.gh.dC _ _ _ _ p u) (fun i y U x' p u J h4=> ?_) (fun y M _=>l y M)
  (fun y i a=>az (l y (R.nU _ _ a))) (by omega) W fun L i z a=> ?_
 ·by_cases p:t=c∧d=H.length
  ·obtain⟨rfl,rfl⟩:=p;rw[fm]at h
   cases h;exact .inr ⟨rfl,rfl,by simp[Go.Am.dl],.inl ⟨Q,E⟩,T⟩
  ·rw[gW _ _ p]at h;exact .inl h
 ·simp only[Go.Am.dl]at a;rw[aH D]at a;exact⟨z,a⟩
 ·rw[fm]at u
  cases u;have:=R.gh.lt _ _ _ p;simp only at J;omega
 ·simp only[Go.Am.dl]at a;rcases cx i H.length with D |D
  ·rw[aH D]at a;exact gi.mono L (fun U N=>l _ (R.gh.lt c i _ ⟨true,K,H,z,U,I,a,N,rfl⟩)) _ _ (R.gh.ga c true K H i z I a)
  ·rw[aY D]at a;have:i=H.length:=by
    rcases cx (i -H.length) 1 with h |h
    ·omega
    ·rw[bM (by simpa using h)]at a;cases a
   subst this;simp at a;subst a;exact hx L
theorem Ew{Z:aL}{e:Ty}(R:e.flat=true)(c:0<e.size){l:List e.den}{v:Value}{W:Option Nat}(U:PR w' Z ay (.sl e) l [v])(T:FH w w' e.size (aa l) W v)(z:aa l≠0):
  ∃b cap cur e0,v= .slice (some ⟨b,0,none⟩) (aa l) cap∧w'.heap[b]? =some (.cells cur e0 (0,0))∧aa l≤cap∧cap≤maxLen∧cur.size=cap*e.size∧w.heap.size≤b∧
   ∀(base:Nat) (rT:aL) (h':aD) (g':G),bm (fun y q=>bG w' base rT h' g' (e.cells y) q) l (cur.toList.take (aa l*e.size)):=by
 obtain⟨base,cap,a,o,e2,E,K⟩:=U;rcases T with⟨_,_,n⟩|⟨b',D,cur,e0,_,n,F,H,N,I,O⟩
 ·exact(z n).elim
 ·rw[n]at o;simp only[List.cons.injEq,Value.slice.injEq,and_true]at o;obtain⟨p,_,rfl⟩:=o;have d:=bm.length (PR.k e) l a E;have i:a≠[]:=by
   intro M;rw[M]at d;have:0<aa l*e.size:=Nat.mul_pos (by omega) c;simp at d;omega
  obtain⟨b,Y,t,Q⟩:=K i;rw[←p]at t;simp only[Option.some.injEq,Addr.mk.injEq,and_true]at t;obtain⟨rfl,rfl⟩:=t;have S:aa l*e.size≤cur.size:=by rw[I];exact a5 _ H
  have B:cur.toList.take (aa l*e.size)=a:=by
   apply List.ext_getElem?;intro j;rcases cx j a.length with x |x
   ·obtain⟨u,J⟩:∃u,a[j]? =some u:=⟨a[j],ah x⟩
    have:=(Q j u J).1;rw[ao,if_pos (by omega),J,av];simpa[World.cell?,F]using this
   ·rw[bM x,bM (by rw[aP];omega)]
  refine⟨_,_,cur,e0,n,F,H,N,I,O,fun base rT h' g'=> ?_⟩;rw[B];exact bm.mono (fun y q V=>bG.gT e y q (PR.flat _ _ _ R V)) _ _ E
theorem Ey(hS:∀f E,ba f X.calls=some E→aw P f E)(hO:∀f E,ba f X.owns=some E→gu P f E)(hT:∀f E,ba f X.stats=some E→be P f E)(R:HR w0 Z0 Zp h g w)(hn:¬ g.al new){f:FuncId}{as:List A}{vs:List Value}
  (l:bm (fun b es=>∃u,es=[u]∧AR w w0.heap.size Zp h g b u) as vs) (e:(yv X new f as).eval next h L=some (r,h',L')):
  (∃fn,P.funcs[f]? =some fn∧(fn.name== "runtime.NumGoroutine")=false∧fn.body.isNone=false)∧Calls P f vs.toArray w fun e w'=>∃v g',e= .returned v∧HR w0 Z0 Zp h' g' w'∧Le Zp h g w h' g' w'∧AR w' w0.heap.size Zp h' g' r v∧∀o,g'.al o→g.al o∨o=new:=by
 unfold yv at e
 split at e
 ·rename_i E hE;have S:=hO f E hE;refine⟨S.fn,?_⟩
  split at e
  ·obtain⟨x,O,g1,L1,e,J,t,n,hx⟩:=nX _ _ _ _ h g L _ _ R l e;obtain⟨a,j,e⟩:=aC e;have e:=bx e
   cases cm e;have hz1:∀b i,(if(!E.e.flat)=true then g1.Z else uX w) b i→b<w.heap.size:=by
    intro b i B
    split at B
    ·exact J.nU b i B
    ·exact B
   have d:=S.calls w _ (uX w) x a _ hz1 (fun b i B=>B) hx j;refine d.mono fun e w' ⟨v,ob,z,k,M,D⟩=> ?_;obtain⟨U,I,Qk⟩:=J.Ha k (by rw[n.al];exact hn) D;refine⟨v,_,z,U,t.trans I,?_,fun o F=> ?_⟩
   ·have Nd:(Ty.sl E.e).aX=true:=by simpa[Ty.aX]using S.nr
    refine AR.eU ⟨PR.aX (Zp:=ay) (.sl E.e) _ _ Nd ?_,.inr rfl,fun _=>Qk⟩
    cases hf:E.e.flat with
    |true=>exact FM hf M D (fun b i O h2 h3=> .inr ⟨O,h2,fun _=>h3⟩)
    |false=>
     simp only[hf,Bool.not_false,if_true]at M;exact M
   ·rcases F with F |F
    ·exact .inl (n.al▸F)
    ·exact .inr F
  ·rename_i c hc
   split at e
   ·rename_i W;rw[ae]at W;have T:0<E.e.size:=by simpa[b9]using W.2
    obtain⟨x,O,g1,L1,e2,J,t,n,hx⟩:=nX _ _ _ _ h g L _ _ R l e;obtain⟨a,j,e3⟩:=aC e2;have e4:=aR e3
    split at e4
    ·rename_i K H Nf
     split at e4
     ·rename_i H' hH;obtain⟨hK,Ql⟩:=cB hH;subst hK
      cases Ql;obtain⟨q,hq,e5⟩:=aC e4;have e6:=bx e5
      cases cm e6;have d:=S.calls w _ (uX w) x a _ (fun b i B=>B) (fun b i B=>B) hx j;refine d.mono fun e w' ⟨v,ob,z,k,M,D⟩=> ?_;have hne:aa a≠0:=by
       intro h0;have:a=[]:=List.length_eq_zero_iff.1 h0;subst this;simp[Mx]at hq
      have Qm:q=(dl (α:=List E.e.den) H a,some (aa H,0,aa a)):=by
       match a,hq with
       |y::m,hq=>simp only[Mx,Option.some.injEq]at hq;exact hq.symm
      subst Qm;obtain⟨b,N,cur,e0,hv,hb,h4,h5,h6,h7,h8⟩:=Ew W.1 T M D hne;have Ng:=(Array.getElem?_eq_some_iff.1 hb).1;obtain⟨g',Y⟩:∃g':G,g'={ g1 with pm:=p3 g1.pm c (aa H) (b,0,N,E.e.size) }:=⟨_,rfl⟩;have E0:g'.pm c (aa H)=some (b,0,N,E.e.size):=by rw[Y];exact fm _ _ _ _
      obtain⟨U,I⟩:=J.Jh (K:=.bf (.data E.e)) (x:=a) (w':=w') Nf (fun b hb=>k.block b hb) h7 Ng (J.ext.trans k) (fun V hV=>by cases hV;rfl) Y
       (fun L=>⟨T,b,0,N,cur,e0,E0,hb,by rw[h6];simp[VT.size],h4,h5,by rw[List.drop_zero];exact h8 _ _ _ _⟩)
      exact⟨v,g',z,U,t.trans I,AR.eU ⟨b,0,N,E.e.size,0,E0,by omega,fun _=>by simp,by rw[hv];simp⟩,fun o F=> .inl (by rw[Y]at F;exact n.al▸F)⟩
     ·exact(ac e4).elim
    ·exact(ac e4).elim
   ·exact(ac e).elim
 ·split at e
  ·rename_i E hE;have S:=hS f E hE;refine⟨S.fn,?_⟩;obtain⟨x,O,g1,L1,e,J,t,n,hx⟩:=nX _ _ _ _ h g L _ _ R l e;obtain⟨a,j,e⟩:=aC e
   cases cm e;have hz1:∀b i,(if(!E.rs.all Ty.flat)=true then g1.Z else uX w) b i→b<w.heap.size:=by
    intro b i B
    split at B
    ·exact J.nU b i B
    ·exact B
   have d:=S.calls w _ (uX w) x a _ hz1 (fun b i B=>B) hx j;refine d.mono fun e w' ⟨v,z,k,M⟩=> ?_;obtain⟨U,I⟩:=J.called k;refine⟨v,_,z,U,t.trans I,?_,fun o F=> .inl (n.al▸F)⟩;refine Ev _ _ _ ?_
   cases hfl:E.rs.all Ty.flat with
   |true=>exact mf.map (p:=Ty.flat) (fun τ x v Q hh=>iM.flat Q hh) _ _ _ hfl M
   |false=>
    simp only[hfl,Bool.not_false,if_true]at M;exact mf.map (p:=Ty.aX) (fun τ x v Q hh=>iM.aX Q hh) _ _ _ S.nr M
  ·split at e
   ·rename_i E hE;have S:=hT f E hE;refine⟨S.fn,?_⟩;unfold Ic at e
    split at e
    ·rename_i hok;rw[List.map_append]at hok;obtain⟨x,O,g1,L1,e,J,t,n,hx⟩:=vR _ _ _ h g L _ _ R l e;obtain⟨y,L2,e,hy⟩:=r9 E.ws _ _ e;obtain⟨yo,L3,e,Qn⟩:=r9 E.os _ _ e;obtain⟨a,j,e⟩:=aC e;obtain⟨L4,e⟩:=sU E.ws a.2 _ _ e
     cases cm e;have hy':∀p K H,cA true E.ws y p=some (.gh true K H)→look .dead p O= .gh true K H:=fun p K H Q=>by
      obtain⟨wr',h2,h3⟩:=hy p K H Q;rw[h3 rfl]at h2;exact h2
     have U:=J.Jb (ws:=E.ws) (os:=E.os) (y:=y) (yo:=yo) hy' (fun p K H Q=>by obtain⟨wr',h2,_⟩:=Qn p K H Q;exact⟨wr',h2⟩);have d:=S.calls (FN w O g1 E.ws E.os yo) g1.Z (tT O g1 w) (BE g1 E.ws E.os) x y yo a.1 a.2 vs U (fun p Q=>Q) (sa.out (w:=w) (h:=O) (g:=g1) (g':=BE g1 E.ws E.os) (fun _ _ h=>h) (fun _ _ _ h=>h) (fun _ _ h=>h) E.ps x vs hx) j;refine d.mono fun e w' ⟨v,g2,z,R3,M⟩=> ?_;obtain⟨R4,Qo⟩:=J.Hb (vQ _ _ hok) hy' R3 (fun p K H K' H'=>DV E.ws y a.2 K H K' H') rfl;exact⟨v,_,z,R4,t.trans Qo,zO (g:=g2) (g1:={ g1 with Z:=g2.Z,pm:=g2.pm }) (fun _ _ h=>⟨h,rfl⟩) (fun _ _ _ h=>h) E.rs a.1 v S.ok M,fun o F=> .inl (n.al▸F)⟩
    ·exact(ac e).elim
   ·exact(ac e).elim
theorem yM:∀(t:Ty) (x:t.den) (vs:List Value),CX t=true→PR w g.Z Zp t x vs→bm (fun b l=>∃u,l=[u]∧AR w base Zp h g b u) (E6 t x) vs
 |.unit,_,_,_,y=>y
 |.pair (.ref σ) r,x,_,q,⟨z,k,e,⟨b,a,c,n,o,d⟩,p⟩=>⟨z,k,e,⟨_,n,AR.eU ⟨b,a,c,by simp,o,fun j u i=>⟨(d j u i).1,.inr (d j u i).2⟩⟩⟩,yM r x.2 k q p⟩
theorem pI:∀(l:List (Nat×Nat)) (a:List Nat) (vs:List Value),iL g.pm l a vs→bm (fun b o=>∃u,o=[u]∧AR w base Zp h g b u) (zt l a) vs
 |[],[],_,j=>j
 |(c,k)::l,i::a,_,⟨e,d,p,n,q⟩=>⟨[.pointer (some ⟨e.1,k,none⟩)],d,by simpa using p,⟨_,rfl,AR.eU ⟨e,n.1,n.2,rfl⟩⟩,pI l a d q⟩
 |[],_::_,_,j=>j.elim
 |_::_,[],_,j=>j.elim
theorem lp{pm:Nat→Nat→Option (Nat×Nat×Nat×Nat)}:∀(l:List (Nat×Nat)) (a:List Nat) (vs:List Value),iL pm l a vs→a.length=l.length
 |[],[],_,_=>rfl
 |_::l,_::a,_,⟨_,b,_,_,h⟩=>by simp[lp l a b h]
 |[],_::_,_,h=>h.elim
 |_::_,[],_,h=>h.elim
theorem mF{d:A×aD×Log}:∀(l:List (Nat×Nat)) (i:Nat) (a:List Nat) (k:List A→HM) (L:Log),a.length=i+l.length→(vb l i a k).eval next h L=some d→∃j,(k (zt l (a.drop i))).eval next h j=some d
 |[],i,a,k,L,_,e=>⟨L,by
  have:zt [] (a.drop i)=[]:=by cases a.drop i<;>rfl
  rw[this];exact e⟩
 |(c,p)::l,i,a,k,L,o,e=>by
  unfold vb at e;obtain⟨id,b,e⟩:=aC e;obtain⟨j,e⟩:=mF l (i+1) a _ _ (by simp at o;omega) e;have n:i<a.length:=by simp at o;omega
  have b:a[i]? =some id:=b
  have:a.drop i=id::a.drop (i+1):=by
   rw[List.drop_eq_getElem_cons n];congr 1;exact(List.getElem?_eq_some_iff.1 b).2
  rw[this];exact⟨j,e⟩
theorem FO(hS:∀f E,ba f X.calls=some E→aw P f E)(hO:∀f E,ba f X.owns=some E→gu P f E)(hT:∀f E,ba f X.stats=some E→be P f E)(R:HR w0 Z0 Zp h g w)(hn:¬ g.al new){env:Env}{a:Act}(W:∀t,AR w w0.heap.size Zp h g (look ar t env) (a.tmps.getD t undef)){o:Oper}{c:Call}{N:Operand}(Y:o.op= .call c)(V:c.callee= .value N)
  (e:(EZ X new (jJ env) o.op).eval next h L=some (r,h',L')):
  ∃f k,(execOp a.eval o).run P w= .ok (.enter f k) w∧Calls P f k w fun e w'=>∃v g',e= .returned v∧HR w0 Z0 Zp h' g' w'∧Le Zp h g w h' g' w'∧AR w' w0.heap.size Zp h' g' r v∧∀o,g'.al o→g.al o∨o=new:=by
 rw[Y]at e;simp only[EZ,V]at e;have J:=bo W N;have I:∀(j:Array Value) (z:List A),bm (fun b K=>∃u,K=[u]∧AR w w0.heap.size Zp h g b u) z j.toList→∀(f:FuncId) (d:Array Value) (B:List A),a.eval N= .func (.func f) j d→bm (fun b K=>∃u,K=[u]∧AR w w0.heap.size Zp h g b u) B d.toList→∀L:Log,(yv X new f (z++c.args.toList.map (jJ env)++B)).eval next h L=some (r,h',L')→
   ∃f k,(execOp a.eval o).run P w= .ok (.enter f k) w∧Calls P f k w fun e w'=>∃v g',e= .returned v∧HR w0 Z0 Zp h' g' w'∧Le Zp h g w h' g' w'∧AR w' w0.heap.size Zp h' g' r v∧∀o,g'.al o→g.al o∨o=new:=by
  intro j z M f d B n i L e;have D:bm (fun b K=>∃u,K=[u]∧AR w w0.heap.size Zp h g b u) (z++c.args.toList.map (jJ env)++B) (j.toList++c.args.toList.map a.eval++d.toList):=bm.app _ _ _ _ (bm.app _ _ _ _ M (uW W _)) i;have O:(j.toList++c.args.toList.map a.eval++d.toList).toArray=j++c.args.map a.eval++d:=by
   apply Array.ext';simp
  obtain⟨⟨fn,S,H,F⟩,p⟩:=Ey hS hO hT R hn D e;rw[O]at p;refine⟨f,(j++c.args.map a.eval++d),?_,p⟩;simp only[execOp,Y,resolve,V,n,Deferred.ofValue,Sem.run_bind,Sem.run_pure,Result.andThen_ok,invoke];simpa using zN S H F (j++c.args.map a.eval++d)
 split at e
 ·rename_i f ids y;rw[y]at J;obtain⟨d,n,i⟩:=J.c;exact I #[] [] rfl f d _ n (FL i) L e
 ·rename_i f t x y;rw[y]at J;obtain⟨d,n,i⟩:=J.c;simp only[List.cons.injEq,and_true]at n
  split at e
  ·rename_i Q;exact I #[] [] rfl f d _ n (yM t x _ Q i) L e
  ·exact(ac e).elim
 ·rename_i f l m x y;rw[y]at J;obtain⟨q,hq,e⟩:=aC e;subst hq;obtain⟨j,d,n,T,U⟩:=J.c;obtain⟨L1,e⟩:=mF l 0 q.1 _ _ (by rw[lp _ _ _ T];omega) e;obtain⟨Z,e⟩:=mF m 0 q.2 _ _ (by rw[lp _ _ _ U];omega) e;exact I j _ (pI _ _ _ T) f d _ n (pI _ _ _ U) Z e
 ·exact(ac e).elim
end
def Ez(X:Cx)(new:Nat)(o:Oper)(s:St):Option (St×Log):=
 match(EZ X new (jJ s.env) o.op).eval s.next s.heap []with
 |some (a,h,L)=>some ({ s with env:=pA s.env o.dst a,heap:=h },L)
 |none=>none
def j3(X:Cx)(c:List Oper)(new:Nat)(o:Oper)(s:St):Option (St×Log):=
 match yw X o.dst with
 |false=>none
 |true=>match o.guard with
  |none=>Ez X new o s
  |some (j,a)=>match vg c j with
   |some g=>match look ar g s.env with
    |.v false [.bool b]=>match b==a with
     |true=>Ez X new o { s with env:=(g,.v false [.bool b])::s.env }
     |false=>some ({ s with env:=pA ((g,.v false [.bool b])::s.env) o.dst gR },[])
    |.eo []=>some ({ s with env:=pA s.env o.dst gR },[])
    |_=>none
   |none=>none
def xv(X:Cx)(a:List Oper):Nat→List Oper→St→List Log→Option (St×List Log)
 |_,[],s,b=>some (s,b)
 |new,o::r,s,b=>match j3 X a new o s with
  |some (s,L)=>xv X a (new+1) r s (L::b)
  |none=>none
theorem FP{R:Type}(X:Cx)(new:Nat)(o:Oper)(s:St)(K:St→Log→Option R):Kf X new o s K=(Ez X new o s).bind fun r=>K r.1 r.2:=by
 unfold Kf Ez;rw[HM.run_eq]
 cases(EZ X new (jJ s.env) o.op).eval s.next s.heap []<;>rfl
theorem i1{R:Type}(X:Cx)(a:List Oper)(K:St→List Log→Option R):∀(l:List Oper) (new:Nat) (s:St) (h:List Log),xo X a K new l s h=(xv X a new l s h).bind fun r=>K r.1 r.2
 |[],_,_,_=>rfl
 |o::r,new,s,h=>by
  unfold xo xv j3
  cases yw X o.dst with
  |false=>rfl
  |true=>
   simp only
   cases y:o.guard with
   |none=>
    simp only;rw[FP]
    cases Ez X new o s with
    |none=>rfl
    |some q=>exact i1 X a K r _ _ _
   |some w=>
    obtain⟨j,d⟩:=w;simp only
    cases x:vg a j with
    |none=>rfl
    |some g=>
     simp only;generalize look ar g s.env=q
     split
     ·rename_i b;have i:(true==true)=true:=rfl;have k:(false==false)=true:=rfl;have n:(true==false)=false:=rfl;have p:(false==true)=false:=rfl
      cases d<;>cases b<;>simp only[eN,FP,i,k,n,p]
      ·cases Ez X new o { s with env:=(g,.v false [.bool false])::s.env }with
       |none=>rfl
       |some q=>exact i1 X a K r _ _ _
      ·exact i1 X a K r _ _ _
      ·exact i1 X a K r _ _ _
      ·cases Ez X new o { s with env:=(g,.v false [.bool true])::s.env }with
       |none=>rfl
       |some q=>exact i1 X a K r _ _ _
     ·exact i1 X a K r _ _ _
     ·rename_i t u
      split
      ·rename_i c
       split at c
       ·rename_i b;exact absurd rfl (t b)
       ·exact absurd rfl u
       ·cases c
      ·rfl
theorem gZ(next:Nat):∀(m:HM) (h:aD) (L:Log) (a:A) (h':aD) (g:Log),m.eval next h L=some (a,h',g)→
  ∃M,g=M++L∧(∀o,(o,true)∉M→look .dead o h'=look .dead o h)∧
   ∀(d:aD) (l:Log),(∀p∈M,look .dead p.1 d=look .dead p.1 h)→∃r,m.eval next d l=some (a,r,M++l)∧
    (∀o,(o,true)∈M→look .dead o r=look .dead o h')∧∀o,(o,true)∉M→look .dead o r=look .dead o d
 |.ret a,h,L,_,_,_,e=>by
  simp[HM.eval]at e;obtain⟨rfl,rfl,rfl⟩:=e;exact⟨[],rfl,fun _ _=>rfl,fun d l _=>⟨d,rfl,(fun o H=>by cases H),fun _ _=>rfl⟩⟩
 |.fail,_,_,_,_,_,e=>by simp[HM.eval]at e
 |.get o k,h,L,a,h',g,e=>by
  obtain⟨M,n,d,q⟩:=gZ next _ _ _ a h' g (aR e)
  refine⟨M++[(o,false)],by simp[n],fun p c=>d p (fun j=>c (by simp[j])),fun u l w=> ?_⟩;have H:look .dead o u=look .dead o h:=w (o,false) (by simp);obtain⟨i,z,B,D⟩:=q u ((o,false)::l) (fun p c=>w p (by simp[c]));refine⟨i,?_,fun p c=>B p (by simpa using c),fun p c=>D p (by simpa using c)⟩;simp only[HM.eval,H,z,bd,List.singleton_append]
 |.set o x k,h,L,a,h',g,e=>by
  have F:Nat.blt o next=true:=by
   simp only[HM.eval]at e
   split at e
   ·assumption
   ·cases e
  obtain⟨M,n,d,q⟩:=gZ next _ _ _ a h' g (bx e)
  refine⟨M++[(o,true)],by simp[n],fun p c=> ?_,fun u l w=> ?_⟩
  ·have t:o≠p:=fun E=>c (by simp[E]);rw[d p (fun j=>c (by simp[j])),ax,if_neg t]
  ·obtain⟨i,z,B,D⟩:=q ((o,x)::u) ((o,true)::l) (fun p c=>by
    rw[ax,ax]
    split
    ·rfl
    ·exact w p (by simp[c]))
   refine⟨i,?_,fun p c=> ?_,fun p c=> ?_⟩
   ·simp only[HM.eval,F,z,bd,List.singleton_append]
   ·by_cases j:(p,true)∈M
    ·exact B p j
    ·have I:p=o:=by simpa[j]using c
     subst I;rw[D p j,d p j,ax,ax,if_pos rfl,if_pos rfl]
   ·have t:o≠p:=fun E=>c (by simp[E]);rw[D p (fun j=>c (by simp[j])),ax,if_neg t]
 |.opt x k,h,L,a,h',g,e=>by
  obtain⟨b,J,e⟩:=aC e;obtain⟨M,n,d,q⟩:=gZ next _ _ _ a h' g e
  refine⟨M,n,d,fun u l w=> ?_⟩;obtain⟨i,z,B⟩:=q u l w;exact⟨i,by simp only[HM.eval,J,aj,z],B⟩
 |.br b x y,h,L,a,h',g,e=>by
  cases b with
  |true=>
   obtain⟨M,n,d,q⟩:=gZ next x h L a h' g e
   exact⟨M,n,d,q⟩
  |false=>
   obtain⟨M,n,d,q⟩:=gZ next y h L a h' g e
   exact⟨M,n,d,q⟩
def FQ:Operand→Option Tmp
 |.tmp t=>some t
 |_=>none
theorem EA{a b:Env}{x:Operand}(h:∀t,FQ x=some t→look ar t a=look ar t b):jJ a x=jJ b x:=by
 cases x with
 |tmp t=>exact h t rfl
 |_=>rfl
theorem EB(X:Cx)(new:Nat){a g:Env}(o:Op)(h:∀x∈o.operands,jJ a x=jJ g x):EZ X new (jJ a) o=EZ X new (jJ g) o:=by
 cases o<;>simp only[Op.operands]at h<;>simp only[EZ]
 case move x=>rw[h x (by simp)]
 case assign x=>rw[h x (by simp)]
 case pick c x y=>rw[h c (by simp),h x (by simp),h y (by simp)]
 case box t x=>rw[h x (by simp)]
 case build t parts=>
  have:(parts.toList.map fun(i,x)=>(i,jJ a x))=(parts.toList.map fun(i,x)=>(i,jJ g x)):=by
   apply List.map_congr_left;rintro⟨i,x⟩ p;simp only[Prod.mk.injEq,true_and];exact h x (by simp;exact⟨i,by simpa using p⟩)
  rw[this]
 case buildSlice t n parts=>
  have:(parts.toList.map fun(i,x)=>(i,jJ a x))=(parts.toList.map fun(i,x)=>(i,jJ g x)):=by
   apply List.map_congr_left;rintro⟨i,x⟩ p;simp only[Prod.mk.injEq,true_and];exact h x (by simp;exact⟨i,by simpa using p⟩)
  rw[this]
 case load t x=>rw[h x (by simp)]
 case store t x y=>rw[h x (by simp),h y (by simp)]
 case nilCheck x=>rw[h x (by simp)]
 case binOp E t x y H=>rw[h x (by simp),h y (by simp)]
 case unOp E t x=>rw[h x (by simp)]
 case convert s d x=>rw[h x (by simp)]
 case makeFunc fn first q=>
  cases fn<;>simp only;have:q.toList.map (jJ a)=q.toList.map (jJ g):=List.map_congr_left fun x p=>h x (by simp;exact .inr (by simpa using p));have r:first.toList.map (jJ a)=first.toList.map (jJ g):=List.map_congr_left fun x p=>h x (by simp;exact .inl (by simpa using p));rw[this,r]
 case makeSlice t l c=>rw[h l (by simp),h c (by simp)]
 case slice t x w u mx=>
  have z:w.map (jJ a)=w.map (jJ g):=by cases w with |none=>rfl |some y=>simp[h y (by simp)]
  have r:u.map (jJ a)=u.map (jJ g):=by cases u with |none=>rfl |some y=>simp[h y (by simp)]
  have B:mx.map (jJ a)=mx.map (jJ g):=by cases mx with |none=>rfl |some y=>simp[h y (by simp)]
  rw[h x (by simp),z,r,B]
 case fieldAddr s x j=>rw[h x (by simp)]
 case field s x j=>rw[h x (by simp)]
 case indexAddr t x i=>rw[h x (by simp),h i (by simp)]
 case index t x i=>rw[h x (by simp),h i (by simp)]
 case makeMap t F=>cases F<;>rfl
 case lookup t x i ok=>rw[h x (by simp),h i (by simp)]
 case mapUpdate t m k x=>rw[h m (by simp),h k (by simp),h x (by simp)]
 case extract x j=>rw[h x (by simp)]
 case call c=>
  have:c.args.toList.map (jJ a)=c.args.toList.map (jJ g):=List.map_congr_left fun x p=>h x (by simp[Call.operands];exact .inr (by simpa using p));rw[this]
  cases D:c.callee with
  |value f=>simp only;rw[h f (by simp[Call.operands,D])]
  |builtin b=>cases b<;>rfl
  |_=>rfl
theorem FR{a:List Oper}{o:Oper}{x:Operand}(c:x∈o.op.operands){t:Tmp}(b:FQ x=some t):t∈uses a o:=by
 unfold uses;refine List.mem_append.2 (.inl (List.mem_filterMap.2 ⟨x,by simpa using c,?_⟩))
 cases x<;>simp[FQ]at b<;>simp[b]
theorem eJ{env:Env}{b:Option Tmp}{a:A}{t:Tmp}:look ar t (pA env b a)=if b=some t then a else look ar t env:=by
 cases b with
 |none=>simp[pA]
 |some d=>simp only[pA,ax,Option.some.injEq]
theorem g0{env:Env}{g:Tmp}{x:A}(h:look ar g env=x)(t:Tmp):look ar t ((g,x)::env)=look ar t env:=by
 rw[ax]
 split
 ·rename_i a;subst a;exact h.symm
 ·rfl
structure KF (s t:St):Prop where
 next:s.next=t.next
 env:∀x,look ar x s.env=look ar x t.env
 heap:∀o,look .dead o s.heap=look .dead o t.heap
theorem ep{X:Cx}{r:List Oper}{new:Nat}{o:Oper}{s q:St}{L:Log}(e:j3 X r new o s=some (q,L)):
  q.next=s.next∧(∀t,o.dst≠some t→look ar t q.env=look ar t s.env)∧(∀p,(p,true)∉L→look .dead p q.heap=look .dead p s.heap)∧
  ∀i:St,i.next=s.next→(∀t∈uses r o,look ar t i.env=look ar t s.env)→(∀p∈L,look .dead p.1 i.heap=look .dead p.1 s.heap)→
   ∃d,j3 X r new o i=some (d,L)∧d.next=s.next∧(∀t,o.dst=some t→look ar t d.env=look ar t q.env)∧(∀t,o.dst≠some t→look ar t d.env=look ar t i.env)∧
    (∀p,(p,true)∈L→look .dead p d.heap=look .dead p q.heap)∧∀p,(p,true)∉L→look .dead p d.heap=look .dead p i.heap:=by
 have S:∀{s q:St} {L:Log},Ez X new o s=some (q,L)→q.next=s.next∧(∀t,o.dst≠some t→look ar t q.env=look ar t s.env)∧(∀p,(p,true)∉L→look .dead p q.heap=look .dead p s.heap)∧
   ∀i:St,i.next=s.next→(∀t∈uses r o,look ar t i.env=look ar t s.env)→(∀p∈L,look .dead p.1 i.heap=look .dead p.1 s.heap)→
   ∃d,Ez X new o i=some (d,L)∧d.next=s.next∧(∀t,o.dst=some t→look ar t d.env=look ar t q.env)∧(∀t,o.dst≠some t→look ar t d.env=look ar t i.env)∧
    (∀p,(p,true)∈L→look .dead p d.heap=look .dead p q.heap)∧∀p,(p,true)∉L→look .dead p d.heap=look .dead p i.heap:=by
  intro s q L e;unfold Ez at e
  split at e
  ·rename_i a h M he
   cases e;obtain⟨M',B,E,K⟩:=gZ _ _ _ _ _ _ _ he;simp only[List.append_nil]at B;subst B;refine⟨rfl,fun t k=>by simp only[eJ,if_neg k],E,fun i W D hL=> ?_⟩;obtain⟨U,N,O,P⟩:=K i.heap [] hL;have R:EZ X new (jJ i.env) o.op=EZ X new (jJ s.env) o.op:=EB X new o.op fun x hx=>EA fun t k=>D t (FR hx k);refine⟨{ i with env:=pA i.env o.dst a,heap:=U },?_,W,fun t k=>by simp only[eJ,if_pos k],fun t k=>by simp only[eJ,if_neg k],O,P⟩;unfold Ez;rw[R,W,N];simp
  ·cases e
 have J:∀{j:Nat} {w:Bool} {g:Tmp},o.guard=some (j,w)→vg r j=some g→g∈uses r o:=by
  intro j w g B E;unfold uses;rw[B];simp[E]
 unfold j3 at e
 split at e
 ·cases e
 ·rename_i n
  split at e
  ·rename_i I;obtain⟨B,E,K,N⟩:=S e;refine⟨B,E,K,fun i a b c=> ?_⟩;obtain⟨d,O,P⟩:=N i a b c;exact⟨d,by unfold j3;rw[n,I];exact O,P⟩
  ·rename_i j w I
   split at e
   ·rename_i z y;have u:=J I y
    split at e
    ·rename_i b F
     split at e
     ·rename_i H;obtain⟨B,E,K,N⟩:=S e;refine⟨B,fun t k=>(E t k).trans (g0 F t),K,fun i Q D R=> ?_⟩;have l:look ar z i.env= .v false [.bool b]:=(D z u).trans F;obtain⟨d,O,P,Y,Z,h9,T⟩:=N { i with env:=(z,.v false [.bool b])::i.env } Q (fun t k=>by
       simp only;rw[g0 l t,g0 F t];exact D t k) R
      refine⟨d,?_,P,Y,fun t k=>(Z t k).trans (g0 l t),h9,T⟩;unfold j3;simp only[n,I,y,l,H,O]
     ·rename_i H
      cases e;refine⟨rfl,fun t k=>by simp only[eJ,if_neg k];exact g0 F t,fun p _=>rfl,fun i Q D R=> ?_⟩;have l:look ar z i.env= .v false [.bool b]:=(D z u).trans F;refine⟨{ i with env:=pA ((z,.v false [.bool b])::i.env) o.dst gR },?_,Q,fun t k=>by simp only[eJ,if_pos k],fun t k=>by simp only[eJ,if_neg k];exact g0 l t,(fun p V=>by cases V),fun p _=>rfl⟩;unfold j3;simp only[n,I,y,l,H]
    ·rename_i F
     cases e;refine⟨rfl,fun t k=>by simp only[eJ,if_neg k],fun p _=>rfl,fun i Q D R=> ?_⟩;have l:look ar z i.env= .eo []:=(D z u).trans F;refine⟨{ i with env:=pA i.env o.dst gR },?_,Q,fun t k=>by simp only[eJ,if_pos k],fun t k=>by simp only[eJ,if_neg k],(fun p V=>by cases V),fun p _=>rfl⟩;unfold j3;simp only[n,I,y,l]
    ·cases e
   ·cases e
structure SR (w0:W0) (Z0 Zp:aL) (X:Cx) (s:St) (g:G) (a:Act) (w:World):Prop where
 env:∀t,AR w w0.heap.size Zp s.heap g (look ar t s.env) (a.tmps.getD t undef)
 hr:HR w0 Z0 Zp s.heap g w
 nt:X.nt≤a.tmps.size
 defers:a.defers=[]
section
variable {P:Program} {w0:W0} {w w':World} {Z0 Zp:aL} {g:G} {X:Cx} {a:Act} {s s':St} {ops:Array Oper} {Q:Exit→Act→World→Prop} {K:Act→World→Prop}
structure tU (P:Program) (X:Cx):Prop where
 tt:pR P X.tt
 calls:∀f E,ba f X.calls=some E→aw P f E
 owns:∀f E,ba f X.owns=some E→gu P f E
 stats:∀f E,ba f X.stats=some E→be P f E
 la:xq P X.la
theorem uZ{base:Nat}{h:aD}{env:Env}(j:∀t,AR w base Zp h g (look ar t env) (a.tmps.getD t undef)){b:Option Tmp}{x:A}{v:Value}(l:AR w base Zp h g x v)(k:∀d,b=some d→d<a.tmps.size):
  ∀t,AR w base Zp h g (look ar t (pA env b x)) ((a.put b v).tmps.getD t undef):=by
 intro t;rw[eJ]
 cases b with
 |none=>simp only[Act.put];rw[if_neg (by simp)];exact j t
 |some d=>
  simp only[Act.put]
  by_cases c:d=t
  ·subst c;rw[if_pos rfl];have i:=k d rfl;have:(a.tmps.setIfInBounds d v).getD d undef=v:=by simp[Array.getD,i]
   rw[this];exact l
  ·rw[if_neg (by simpa using c)];have:(a.tmps.setIfInBounds d v).getD t undef=a.tmps.getD t undef:=by
    simp only[aN,Array.getElem?_setIfInBounds_ne c]
   rw[this];exact j t
theorem qg(b:Option Tmp)(v:Value):(a.put b v).tmps.size=a.tmps.size:=by cases b<;>simp[Act.put]
theorem put_defers(b:Option Tmp)(v:Value):(a.put b v).defers=a.defers:=by cases b<;>rfl
theorem FS(k:tU P X){new:Nat}{o:Oper}{L:Log}(S:SR w0 Z0 Zp X s g a w)(O:¬ g.al new)(F:yw X o.dst=true)(e:Ez X new o s=some (s',L))
  (D:∀J w' g',SR w0 Z0 Zp X s' g' J w'→(∀p,g'.al p→g.al p∨p=new)→K J w'):o.wp P a w K Q:=by
 have l:∀d,o.dst=some d→d<a.tmps.size:=by
  intro d H;rw[H]at F;simp only[yw,b9]at F;exact aK F S.nt
 unfold Ez at e
 split at e
 ·rename_i r h T N
  cases e
  by_cases E:zL o.op=false
  ·obtain⟨n,v,w',g',u,x,y,z,B,q⟩:=GY (P:=P) k.tt k.la S.hr O S.env E N;have b:=uZ (a:=a) (fun t=>AR.mono z _ _ (S.env t)) B l;have R:SR w0 Z0 Zp X { s with env:=pA s.env o.dst r,heap:=h } g' (a.put o.dst v) w':=⟨b,y,by rw[qg];exact S.nt,by rw[put_defers];exact S.defers⟩;unfold Oper.wp;rw[u];rcases x with rfl |⟨rfl,rfl⟩
   ·exact D _ _ _ R q
   ·exact D _ _ _ R q
  ·obtain⟨c,f,j,i⟩:∃c f,o.op= .call c∧c.callee= .value f:=by
    cases j:o.op<;>simp[j,zL]at E;rename_i c
    cases i:c.callee<;>simp[i]at E;exact⟨c,_,rfl,i⟩
   obtain⟨f,M,u,x⟩:=FO k.calls k.owns k.stats S.hr O S.env j i N;unfold Oper.wp;rw[u];refine x.mono fun e w' ⟨v,g',I,y,z,B,q⟩=> ?_;subst I;have b:=uZ (a:=a) (fun t=>AR.mono z _ _ (S.env t)) B l;exact D _ _ _ ⟨b,y,by rw[qg];exact S.nt,by rw[put_defers];exact S.defers⟩ q
 ·cases e
theorem FT{ops:Array Oper}{j:Nat}{g:Tmp}(h:vg ops.toList j=some g):(ops[j]?).bind (·.dst)=some g:=by
 unfold vg at h;rw[av]at h
 cases b:ops[j]? with
 |none=>simp[b]at h
 |some o=>simpa[b]using h
theorem Dj{b:Array Value}{t:Nat}{v:Value}(h:b.getD t undef=v)(d:v≠undef):b[t]? =some v:=by
 rw[aN]at h
 cases c:b[t]? with
 |none=>simp[c]at h;exact absurd h.symm d
 |some u=>simp[c]at h;rw[h]
theorem BF(R:tU P X){new i:Nat}{o:Oper}{L:Log}(U:ops[i]? =some o)(S:SR w0 Z0 Zp X s g a w)(T:¬ g.al new)(e:j3 X ops.toList new o s=some (s',L))
  (E:∀O w' g',SR w0 Z0 Zp X s' g' O w'→(∀p,g'.al p→g.al p∨p=new)→K O w'):wpOp P ops Q i K a w:=by
 unfold wpOp;simp only[U];unfold j3 at e
 split at e
 ·cases e
 ·rename_i x;have y:∀d,o.dst=some d→d<a.tmps.size:=by
   intro d I;rw[I]at x;simp only[yw,b9]at x;exact aK x S.nt
  split at e
  ·rename_i z;rw[if_pos (by simp[Region.wanted,z])];exact .inl (FS R S T x e E)
  ·rename_i j B z
   split at e
   ·rename_i D J;have n:=FT J
    split at e
    ·rename_i b F;have k:=S.env D;rw[F]at k;have k:=k.c;simp only[CR]at k;have M:=Dj k (by simp[undef]);have H:yielded ops a.tmps j=some b:=by simp[yielded,n,M]
     have r:SR w0 Z0 Zp X { s with env:=(D,.v false [.bool b])::s.env } g a w:=⟨fun t=>by rw[g0 F t];exact S.env t,S.hr,S.nt,S.defers⟩
     split at e
     ·rename_i l;have l:=toBeq l;subst l;rw[if_pos (by simp[Region.wanted,z,H])];exact .inl (FS R r T x e E)
     ·rename_i l
      cases e;have N:b≠B:=by intro h;subst h;simp at l
      rw[if_neg (by simp[Region.wanted,z,H,N])];refine E _ _ g ⟨?_,S.hr,by rw[qg];exact S.nt,by rw[put_defers];exact S.defers⟩ (fun p q=> .inl q);exact uZ r.env AR.skip y
    ·rename_i F
     cases e;have k:=S.env D;rw[F]at k;obtain⟨W,k,q⟩:=k;simp only[bm]at q;subst q;have H:yielded ops a.tmps j=none:=by
      unfold yielded;rw[n];simp only[aj];rw[aN]at k
      cases V:a.tmps[D]? with
      |none=>rfl
      |some u=>simp[V]at k;subst k;rfl
     rw[if_neg (by simp[Region.wanted,z,H])];refine E _ _ g ⟨?_,S.hr,by rw[qg];exact S.nt,by rw[put_defers];exact S.defers⟩ (fun p q=> .inl q);exact uZ S.env AR.skip y
    ·cases e
   ·cases e
theorem BG(z:tU P X):∀(n:Nat) (k new:Nat) (l:List Oper) (s:St) (t:List Log) (s':St) (b:List Log) (g:G) (a:Act) (w:World),l.length=n→(∀j:Nat,l[j]? =ops[k+j]?)→xv X ops.toList new l s t=some (s',b)→
  SR w0 Z0 Zp X s g a w→(∀p,g.al p→p<new)→(∀q w' g',SR w0 Z0 Zp X s' g' q w'→(∀p,g'.al p→p<new+n)→Q .normal q w')→wpOps P ops Q (List.range' k n) a w
 |0,k,new,l,s,t,s',b,g,a,w,r,_,e,S,c,u=>by
  have:l=[]:=List.length_eq_zero_iff.1 r;subst this
  cases e;exact u a w g S (by simpa using c)
 |n+1,k,new,l,s,t,s',b,g,a,w,r,d,e,S,c,u=>by
  cases l with
  |nil=>simp at r
  |cons o l=>
   simp only[xv]at e
   split at e
   ·rename_i I L y;rw[List.range'_succ,wpOps_cons];refine BF z (by have:=d 0;simpa using this.symm) S (fun h=>Nat.lt_irrefl _ (c new h)) y fun q w' g' B i=> ?_;refine BG z n (k+1) (new+1) l I _ s' b g' q w' (by simpa using r) (fun j=>by have:=d (j+1);simpa[ce,Nat.add_comm 1 j]using this) e B (fun p x=> ?_) (fun D J E F H=>u D J E F (fun p x=>by have:=H p x;omega));rcases i p x with h |h
    ·have:=c p h;omega
    ·omega
   ·cases e
end
theorem yN(b:Nat→Nat)(i:Nat):∀(l:List Edge) (s:Nat),(l.foldl (fun s e=>if Region.binds .any e then s ||| 2^e.on ||| b e.on else s) s).testBit i=true→
  s.testBit i=true∨∃e∈l,Region.binds .any e=true∧(e.on=i∨(b e.on).testBit i=true)
 |[],s,h=> .inl h
 |e::l,s,h=>by
  simp only[List.foldl_cons]at h;rcases yN b i l _ h with a |⟨g,c,a⟩
  ·split at a
   ·rename_i d;rw[Nat.testBit_or,Nat.testBit_or]at a;simp only[Bool.or_eq_true]at a;rcases a with(a |a)|a
    ·exact .inl a
    ·rw[Nat.testBit_two_pow]at a;exact .inr ⟨e,by simp,d,.inl (by simpa using a)⟩
    ·exact .inr ⟨e,by simp,d,.inr a⟩
   ·exact .inl a
  ·exact .inr ⟨g,by simp[c],a⟩
def qh(a:Nat→Nat)(o:Oper):Nat:=o.after.foldl (fun s e=>if Region.binds .any e then s ||| 2^e.on ||| a e.on else s) 0
theorem sW:∀(l:List Oper) (a:Array Nat),
  (l.foldl (fun a o=>a.push (qh (fun k=>a.getD k 0) o)) a).size=a.size+l.length∧
  (∀k,k<a.size→(l.foldl (fun a o=>a.push (qh (fun k=>a.getD k 0) o)) a).getD k 0=a.getD k 0)∧
  ∀(j:Nat) (o:Oper),l[j]? =some o→∃b:Array Nat,b.size=a.size+j∧(∀k,k<a.size+j→b.getD k 0=(l.foldl (fun a o=>a.push (qh (fun k=>a.getD k 0) o)) a).getD k 0)∧
   (l.foldl (fun a o=>a.push (qh (fun k=>a.getD k 0) o)) a).getD (a.size+j) 0=qh (fun k=>b.getD k 0) o
 |[],a=>⟨rfl,fun _ _=>rfl,fun j o h=>by simp at h⟩
 |o::l,a=>by
  obtain⟨n,g,p⟩:=sW l (a.push (qh (fun k=>a.getD k 0) o));simp only[List.foldl_cons,List.length_cons];simp only[Array.size_push]at n g p;have c:∀k,k<a.size→(a.push (qh (fun k=>a.getD k 0) o)).getD k 0=a.getD k 0:=fun k d=>by
   simp only[aN,Array.getElem?_push,if_neg (Nat.ne_of_lt d)]
  refine⟨by rw[n];omega,fun k d=>(g k (by omega)).trans (c k d),fun j w i=> ?_⟩
  cases j with
  |zero=>
   simp at i;subst i;refine⟨a,rfl,fun k d=>((g k (by omega)).trans (c k (by omega))).symm,?_⟩;rw[b8,g a.size (by omega)];simp[aN]
  |succ j=>
   obtain⟨b,q,u,r⟩:=p j w (by simpa using i);have t:a.size+1+j=a.size+(j+1):=by omega
   rw[t]at q r;exact⟨b,q,fun k d=>u k (by omega),r⟩
theorem EC(ops:Array Oper):Region.before ops=ops.toList.foldl (fun a o=>a.push (qh (fun k=>a.getD k 0) o)) #[]:=by
 unfold Region.before;rw[←Array.foldl_toList];rfl
def Io(ops:Array Oper)(i j:Nat):Prop:=((Region.before ops).getD j 0).testBit i=true
theorem BH{ops:Array Oper}{i j:Nat}{o:Oper}(t:ops[j]? =some o)(r:∀e∈o.after.toList,Region.binds .any e=true→e.on<j)(h:Io ops i j):
  ∃e∈o.after.toList,Region.binds .any e=true∧(e.on=i∨Io ops i e.on):=by
 unfold Io at h ⊢;rw[EC]at h ⊢;obtain⟨_,_,n⟩:=sW ops.toList #[];obtain⟨a,p,d,g⟩:=n j o (by simpa using t);simp only[bD,List.length_nil,bv]at p d g;rw[g]at h;unfold qh at h;rw[←Array.foldl_toList]at h;rcases yN (fun k=>a.getD k 0) i _ 0 h with c |⟨e,l,b,c⟩
 ·simp at c
 ·refine⟨e,l,b,c.imp id fun q=> ?_⟩;rw[←d e.on (r e l b)];exact q
theorem vS(X:Cx)(ops:List Oper):∀(l:List Oper) (new:Nat) (s:St) (b:List Log) (c:St) (a:List Log),xv X ops new l s b=some (c,a)→
  ∃(S:Nat→St) (Lg:Nat→Log),S 0=s∧S l.length=c∧(∀(i:Nat) (o:Oper),l[i]? =some o→j3 X ops (new+i) o (S i)=some (S (i+1),Lg i))∧a=((List.range l.length).map Lg).reverse++b
 |[],new,s,b,c,a,e=>by
  cases e;exact⟨fun _=>s,fun _=>[],rfl,rfl,fun i o h=>by simp at h,by simp⟩
 |o::l,new,s,b,c,a,e=>by
  simp only[xv]at e
  split at e
  ·rename_i t L g;obtain⟨S,Lg,k,n,p,q⟩:=vS X ops l (new+1) t (L::b) c a e;refine⟨fun i=>match i with |0=>s |i+1=>S i,fun i=>match i with |0=>L |i+1=>Lg i,rfl,n,fun i r d=> ?_,?_⟩
   ·cases i with
    |zero=>simp at d;subst d;simp only[b8,k];exact g
    |succ i=>
     have:=p i r (by simpa using d);have j:new+1+i=new+(i+1):=by omega
     rw[j]at this;exact this
   ·rw[q];simp[List.range_succ_eq_map,List.map_map,Function.comp_def]
  ·cases e
theorem yO(p:Nat→Prop):∀j,(∃i,i<j∧p i)→∃i,i<j∧p i∧∀k,k<j→p k→k≤i
 |0,⟨i,l,_⟩=>by omega
 |j+1,⟨i,l,c⟩=>by
  by_cases b:p j
  ·exact⟨j,by omega,b,fun k o _=>by omega⟩
  ·have n:i≠j:=fun h=>b (h▸c);obtain⟨m,q,d,g⟩:=yO p j ⟨i,by omega,c⟩;exact⟨m,by omega,d,fun k o a=>g k (by
    rcases cx k j with h |h
    ·exact h
    ·have:k=j:=by omega
     subst this;exact absurd a b) a⟩
theorem zP{V:Type}(val:Nat→V)(wr:Nat→Prop)(n:Nat)(g:∀i,i<n→¬ wr i→val (i+1)=val i):∀(d i:Nat),i+d≤n→(∀k,i≤k→k<i+d→¬ wr k)→val (i+d)=val i
 |0,i,_,_=>rfl
 |d+1,i,h,a=>by
  have b:=g (i+d) (by omega) (a (i+d) (by omega) (by omega));have c:=zP val wr n g d i (by omega) (fun k b c=>a k b (by omega));rw[show i+(d+1)=i+d+1 by omega,b,c]
theorem agree{V:Type}(val:Nat→V)(d:V)(wr a:Nat→Prop)(n j:Nat)(D:j≤n)(u:∀i,i<n→¬ wr i→val (i+1)=val i)(o:(∀i,a i→¬ wr i)→d=val 0)
  (p:∀i,a i→wr i→(∀k,a k→wr k→k≤i)→d=val (i+1)) (l:∀i,a i→wr i→i<j) (c:∀k,k<j→wr k→a k):d=val j:=by
 by_cases h:∃i,i<j∧(a i∧wr i)
 ·obtain⟨i,B,⟨x,y⟩,t⟩:=yO (fun i=>a i∧wr i) j h;rw[p i x y fun k w b=>t k (l k w b) ⟨w,b⟩];have:=zP val wr n u (j -(i+1)) (i+1) (by omega) fun k z q b=>by
   have:=t k (by omega) ⟨c k (by omega) b,b⟩;omega
  rw[show i+1+(j -(i+1))=j by omega]at this;exact this.symm
 ·have r:∀i,i<j→¬ wr i:=fun i g b=>h ⟨i,g,c i g b,b⟩;rw[o fun i g b=>h ⟨i,l i g b,g,b⟩];have:=zP val wr n u j 0 (by omega) fun k _ q=>r k (by omega);rw[bv]at this;exact this.symm
structure Hc (X:Cx) (ops:Array Oper) (base:Nat) (S:Nat→St) (Lg:Nat→Log):Prop where
 step:∀(i:Nat) (o:Oper),ops[i]? =some o→j3 X ops.toList (base+i) o (S i)=some (S (i+1),Lg i)
 back:∀(j:Nat) (o:Oper),ops[j]? =some o→∀e∈o.after.toList,Region.binds .any e=true→e.on<j
 apart:∀(i j:Nat) (x y:Oper),ops[i]? =some x→ops[j]? =some y→i<j→Io ops i j∨(fR ops.toList x y=true∧nR (Lg i) (Lg j)=true)
def nY(ops:Array Oper)(t:Tmp)(i:Nat):Prop:=∃o,ops[i]? =some o∧o.dst=some t
def nZ(Lg:Nat→Log)(n o i:Nat):Prop:=i<n∧(o,true)∈Lg i
def bn(n:Nat)(listed:Array Bool)(i:Nat):Prop:=i<n∧listed.getD i true=true
structure Inv (ops:Array Oper) (S:Nat→St) (Lg:Nat→Log) (listed:Array Bool) (s:St):Prop where
 size:listed.size=ops.size
 next:s.next=(S 0).next
 Ji:∀t,(∀i,bn ops.size listed i→¬ nY ops t i)→look ar t s.env=look ar t (S 0).env
 Jj:∀t i,bn ops.size listed i→nY ops t i→(∀k,bn ops.size listed k→nY ops t k→k≤i)→look ar t s.env=look ar t (S (i+1)).env
 FU:∀o,(∀i,bn ops.size listed i→¬ nZ Lg ops.size o i)→look .dead o s.heap=look .dead o (S 0).heap
 FW:∀o i,bn ops.size listed i→nZ Lg ops.size o i→(∀k,bn ops.size listed k→nZ Lg ops.size o k→k≤i)→look .dead o s.heap=look .dead o (S (i+1)).heap
 closed:∀i j,bn ops.size listed j→Io ops i j→bn ops.size listed i
section
variable {X:Cx} {ops:Array Oper} {base:Nat} {S:Nat→St} {Lg:Nat→Log} {listed:Array Bool} {s:St}
theorem Hc.lt(_:Hc X ops base S Lg){i:Nat}{o:Oper}(h:ops[i]? =some o):i<ops.size:=(Array.getElem?_eq_some_iff.1 h).1
theorem Hc.next(R:Hc X ops base S Lg){i:Nat}(b:i≤ops.size):(S i).next=(S 0).next:=by
 induction i with
 |zero=>rfl
 |succ i a=>
  have:=ep (R.step i ops[i] (ag (by omega)));exact this.1.trans (a (by omega))
theorem vT{ops:List Oper}{x y:Oper}(h:fR ops x y=true){t:Tmp}(b:x.dst=some t):t∉uses ops y:=by
 unfold fR at h;rw[b]at h;simp only[ae,bg]at h;intro a;have:=h.1.1 t a;simp at this
theorem xw{ops:List Oper}{x y:Oper}(h:fR ops x y=true){t:Tmp}(a:x.dst=some t):y.dst≠some t:=by
 unfold fR at h;rw[a]at h;simp only[ae]at h;intro b;have:=h.1.2;rw[b]at this;simp at this
theorem vU{ops:List Oper}{x y:Oper}(h:fR ops x y=true){t:Tmp}(b:y.dst=some t):t∉uses ops x:=by
 unfold fR at h;rw[b]at h;simp only[ae,bg]at h;intro a;have:=h.2 t a;simp at this
theorem pJ{a b:Log}(h:nR a b=true){o:Nat}{w w':Bool}(c:(o,w)∈a)(d:(o,w')∈b):w=false∧w'=false:=by
 unfold nR at h;simp only[bg]at h;have:=h _ c _ d;simpa using this
theorem BI(R:Hc X ops base S Lg)(I:Inv ops S Lg listed s){j:Nat}{y:Oper}(r:ops[j]? =some y)(n:¬ bn ops.size listed j)
  (g:∀e∈y.after.toList,Region.binds .any e=true→bn ops.size listed e.on):
  (∀t∈uses ops.toList y,look ar t s.env=look ar t (S j).env)∧(∀p∈Lg j,look .dead p.1 s.heap=look .dead p.1 (S j).heap):=by
 have K:=R.lt r;have l:∀i,Io ops i j→bn ops.size listed i:=fun i z=>by
  obtain⟨e,F,u,a⟩:=BH r (R.back j y r) z;rcases a with a |a
  ·exact a▸g e F u
  ·exact I.closed i _ (g e F u) a
 have d:∀i,bn ops.size listed i→¬ Io ops j i:=fun i b z=>n (I.closed j i b z);refine⟨fun t J=> ?_,fun p H=> ?_⟩
 ·refine agree (fun i=>look ar t (S i).env) _ (nY ops t) (bn ops.size listed) ops.size j (by omega) (fun i b c=> ?_) (I.Ji t) (I.Jj t) (fun i b c=> ?_) (fun k B c=> ?_)
  ·exact(ep (R.step i ops[i] (ag b))).2.1 t (fun h=>c ⟨_,ag b,h⟩)
  ·obtain⟨x,E,q⟩:=c;rcases cx i j with h |h
   ·exact h
   ·have D:i≠j:=fun h=>n (h▸b);rcases R.apart j i y x r E (by omega)with a |a
    ·exact absurd a (d i b)
    ·exact absurd J (vU a.1 q)
  ·obtain⟨x,E,q⟩:=c;rcases R.apart k j x y E r B with a |a
   ·exact l k a
   ·exact absurd J (vT a.1 q)
 ·obtain⟨o,w⟩:=p;refine agree (fun i=>look .dead o (S i).heap) _ (nZ Lg ops.size o) (bn ops.size listed) ops.size j (by omega) (fun i b c=> ?_) (I.FU o) (I.FW o) (fun i b c=> ?_) (fun k B c=> ?_)
  ·exact(ep (R.step i ops[i] (ag b))).2.2.1 o (fun h=>c ⟨b,h⟩)
  ·rcases cx i j with h |h
   ·exact h
   ·have D:i≠j:=fun h=>n (h▸b);rcases R.apart j i y _ r (ag c.1) (by omega)with a |a
    ·exact absurd a (d i b)
    ·have:=pJ a.2 H c.2
     cases this.2
  ·rcases R.apart k j _ y (ag c.1) r B with a |a
   ·exact l k a
   ·have:=pJ a.2 c.2 H
    cases this.1
theorem jh{n j k:Nat}{listed:Array Bool}(c:listed.size=n)(b:j<n):bn n (listed.setIfInBounds j true) k↔bn n listed k∨k=j:=by
 unfold bn;simp only[aN]
 by_cases h:j=k
 ·subst h;have:j<listed.size:=by omega
  simp[this,b]
 ·rw[Array.getElem?_setIfInBounds_ne h];constructor
  ·exact .inl
  ·rintro(a |a)
   ·exact a
   ·exact absurd a.symm h
theorem FX(R:Hc X ops base S Lg)(I:Inv ops S Lg listed s){j:Nat}{y:Oper}(q:ops[j]? =some y)(r:¬ bn ops.size listed j)
  (c:∀e∈y.after.toList,Region.binds .any e=true→bn ops.size listed e.on):
  ∃H,j3 X ops.toList (base+j) y s=some (H,Lg j)∧Inv ops S Lg (listed.setIfInBounds j true) H:=by
 have K:=R.lt q;obtain⟨hu,Y⟩:=BI R I q r c;obtain⟨_,l1,l2,l3⟩:=ep (R.step j y q);obtain⟨H,T,U,V,O,W,P⟩:=l3 s (I.next.trans (R.next (by omega)).symm) hu Y;have g:∀i,bn ops.size listed i→¬ Io ops j i:=fun i l E=>r (I.closed j i l E);have LS:∀k,bn ops.size (listed.setIfInBounds j true) k↔bn ops.size listed k∨k=j:=fun k=>jh I.size K;have N:∀t k,y.dst=some t→bn ops.size listed k→nY ops t k→k<j:=by
  intro t k a n ⟨x,F,z⟩;rcases cx k j with h |h
  ·exact h
  ·have L:k≠j:=fun h=>r (h▸n);rcases R.apart j k y x q F (by omega)with d |d
   ·exact absurd d (g k n)
   ·exact absurd z (xw d.1 a)
 have M:∀o k,(o,true)∈Lg j→bn ops.size listed k→nZ Lg ops.size o k→k<j:=by
  intro o k Z n p;rcases cx k j with h |h
  ·exact h
  ·have L:k≠j:=fun h=>r (h▸n);rcases R.apart j k y _ q (ag p.1) (by omega)with d |d
   ·exact absurd d (g k n)
   ·have:=pJ d.2 Z p.2
    cases this.1
 refine⟨H,T,by simp[I.size],U.trans (R.next (by omega)),fun t B=> ?_,fun t i l p b=> ?_,fun o B=> ?_,fun o i l p b=> ?_,fun i k n E=> ?_⟩
 ·have a:y.dst≠some t:=fun h=>B j ((LS j).2 (.inr rfl)) ⟨y,q,h⟩;rw[O t a];exact I.Ji t fun i l=>B i ((LS i).2 (.inl l))
 ·by_cases a:y.dst=some t
  ·have J:j≤i:=b j ((LS j).2 (.inr rfl)) ⟨y,q,a⟩;have:i=j:=by
    rcases(LS i).1 l with h |h
    ·have:=N t i a h p;omega
    ·exact h
   subst this;exact V t a
  ·rw[O t a];have u:bn ops.size listed i:=by
    rcases(LS i).1 l with h |h
    ·exact h
    ·subst h;obtain⟨x,F,z⟩:=p;rw[q]at F;cases F;exact absurd z a
   exact I.Jj t i u p fun k n w=>b k ((LS k).2 (.inl n)) w
 ·have a:(o,true)∉Lg j:=fun h=>B j ((LS j).2 (.inr rfl)) ⟨K,h⟩;rw[P o a];exact I.FU o fun i l=>B i ((LS i).2 (.inl l))
 ·by_cases a:(o,true)∈Lg j
  ·have J:j≤i:=b j ((LS j).2 (.inr rfl)) ⟨K,a⟩;have:i=j:=by
    rcases(LS i).1 l with h |h
    ·have:=M o i a h p;omega
    ·exact h
   subst this;exact W o a
  ·rw[P o a];have u:bn ops.size listed i:=by
    rcases(LS i).1 l with h |h
    ·exact h
    ·subst h;exact absurd p.2 a
   exact I.FW o i u p fun k n w=>b k ((LS k).2 (.inl n)) w
 ·rcases(LS k).1 n with h |h
  ·exact(LS i).2 (.inl (I.closed i k h E))
  ·subst h;obtain⟨e,Q,D,d⟩:=BH q (R.back k y q) E;rcases d with d |d
   ·exact(LS i).2 (.inl (d▸c e Q D))
   ·exact(LS i).2 (.inl (I.closed i _ (c e Q D) d))
theorem DW(R:Hc X ops base S Lg)(I:Inv ops S Lg listed s)(b:∀i,i<ops.size→bn ops.size listed i):KF s (S ops.size):=by
 refine⟨I.next.trans (R.next (aq _)).symm,fun t=> ?_,fun o=> ?_⟩
 ·exact agree (fun i=>look ar t (S i).env) _ (nY ops t) (bn ops.size listed) ops.size ops.size (aq _)
   (fun i a d=>(ep (R.step i ops[i] (ag a))).2.1 t (fun h=>d ⟨_,ag a,h⟩)) (I.Ji t) (I.Jj t) (fun i a _=>a.1) (fun k c _=>b k c)
 ·exact agree (fun i=>look .dead o (S i).heap) _ (nZ Lg ops.size o) (bn ops.size listed) ops.size ops.size (aq _)
   (fun i a d=>(ep (R.step i ops[i] (ag a))).2.2.1 o (fun h=>d ⟨a,h⟩)) (I.FU o) (I.FW o) (fun i a _=>a.1) (fun k c _=>b k c)
end
section
variable {P:Program} {w0:W0} {w w':World} {Z0 Zp:aL} {g:G} {X:Cx} {a:Act} {s s':St} {ops:Array Oper} {Q:Exit→Act→World→Prop} {S:Nat→St} {Lg:Nat→Log} {listed:Array Bool} {base:Nat}
theorem SR.same(h:SR w0 Z0 Zp X s g a w)(e:KF s s'):SR w0 Z0 Zp X s' g a w:=
 ⟨fun t=>by rw[←e.env t];exact AR.mono (Le.same e.heap) _ _ (h.env t),h.hr.same e.heap,h.nt,h.defers⟩
def Mn(n:Nat)(listed:Array Bool):Nat:=(List.range n).countP fun i=> !listed.getD i true
theorem yP{α:Type}{p q:α→Bool}:∀{l:List α},(∀x∈l,q x=true→p x=true)→(∃x∈l,p x=true∧q x=false)→l.countP q<l.countP p
 |[],_,⟨x,d,_⟩=>by cases d
 |y::l,h,⟨x,d,k,n⟩=>by
  have o:l.countP q≤l.countP p:=List.countP_mono_left fun z j=>h z (by simp[j]);rw[List.countP_cons,List.countP_cons]
  by_cases b:x=y
  ·subst b;simp[k,n];omega
  ·have i:x∈l:=by simpa[b]using d
   have t:=yP (p:=p) (q:=q) (fun z j=>h z (by simp[j])) ⟨x,i,k,n⟩;have r:=h y (by simp)
   cases c:q y
   ·cases p y<;>simp<;>omega
   ·rw[r c];simp;exact t
theorem Hd(W:tU P X)(R:Hc X ops base S Lg):∀(fuel:Nat) (listed:Array Bool) (s:St) (g:G) (a:Act) (w:World),Inv ops S Lg listed s→SR w0 Z0 Zp X s g a w→
  (∀p,g.al p→p<base+ops.size∧∀i,¬ bn ops.size listed i→i<ops.size→p≠base+i)→Mn ops.size listed≤fuel→
  (∀H w' g',SR w0 Z0 Zp X (S ops.size) g' H w'→(∀p,g'.al p→p<base+ops.size)→Q .normal H w')→wpAny P .any ops Q fuel listed a w:=by
 intro fuel
 induction fuel with
 |zero=>
  intro listed s g a w I K d Y J;have b:∀i,i<ops.size→bn ops.size listed i:=fun i c=>⟨c,by
   cases r:listed.getD i true with
   |true=>rfl
   |false=>
    have:0<Mn ops.size listed:=List.countP_pos_iff.2 ⟨i,by simpa using c,by simp only[r,Bool.not_false]⟩;omega⟩
  refine⟨?_,J a w g (K.same (DW R I b)) fun p D=>(d p D).1⟩;rw[Region.ready,List.filter_eq_nil_iff];intro i c;have:=(b i (by simpa using c)).2;simp[this]
 |succ fuel ih=>
  intro listed s g a w I K d Y J;refine⟨fun Z=> ?_,fun j O=> ?_⟩
  ·have b:∀i,i<ops.size→bn ops.size listed i:=by
    intro i
    induction i using Nat.strongRecOn with
    |_ i N=>
     intro c;refine⟨c,?_⟩
     cases r:listed.getD i true with
     |true=>rfl
     |false=>
      exfalso;have o:i∈Region.ready .any ops listed:=by
       rw[mem_ready];refine⟨r,ops[i],ag c,fun e u z=> ?_⟩;have t:=R.back i ops[i] (ag c) e (by simpa using u) z;have L:=(N e.on t (by omega)).2;have:e.on<listed.size:=by rw[I.size];omega
       simpa[aN,this]using L
      rw[Z]at o
      cases o
   exact J a w g (K.same (DW R I b)) fun p D=>(d p D).1
  ·rw[mem_ready]at O;obtain⟨n,y,F,q⟩:=O;have l:=R.lt F;have E:¬ bn ops.size listed j:=fun h=>by have:=h.2;rw[n]at this;cases this
   obtain⟨s',V,U⟩:=FX R I F E fun e u z=>⟨by have:=R.back j y F e u z;omega,by
    have L:=q e (by simpa using u) z;have t:e.on<listed.size:=by have:=R.back j y F e u z;rw[I.size];omega
    simpa[aN,t]using L⟩
   refine BF W F K (fun h=>(d _ h).2 j E l rfl) V fun H w' g' M x=> ?_;refine ih _ s' g' H w' U M (fun p D=> ?_) ?_ J
   ·rcases x p D with h |h
    ·exact⟨(d p h).1,fun i c B=>(d p h).2 i (fun r=>c ((jh I.size l).2 (.inl r))) B⟩
    ·subst h;exact⟨by omega,fun i c B u=>c ((jh I.size l).2 (.inr (by omega)))⟩
   ·have:Mn ops.size (listed.setIfInBounds j true)<Mn ops.size listed:=by
     refine yP (fun i c T=> ?_) ⟨j,by simpa using l,by simp only[n,Bool.not_false],?_⟩
     ·cases r:listed.getD i true with
      |false=>rfl
      |true=>
       exfalso;have:=((jh (k:=i) I.size l).2 (.inl ⟨by simpa using c,r⟩)).2;rw[this]at T
       cases T
     ·have:=((jh (k:=j) I.size l).2 (.inr rfl)).2;rw[this];rfl
    omega
theorem Le.drew:Le Zp s.heap g w s.heap g w.drew:=
 ⟨fun _ h=>h,fun _ _ h=>⟨h,rfl⟩,fun _ _ h=>⟨h,rfl⟩,fun _ _=>Ob.to.refl _,fun _ _ _=>rfl,fun _ _ _=>⟨rfl,fun _ _=>rfl⟩,fun _ _ _ h=>h⟩
theorem SR.drew(h:SR w0 Z0 Zp X s g a w):SR w0 Z0 Zp X s g a w.drew:=by
 have hr:=h.hr;exact⟨fun t=>AR.mono Le.drew _ _ (h.env t),⟨hr.ext.drew,fun o=>p2.mono Le.drew (.inr rfl) (fun _ _ _=>rfl) (hr.ob o),hr.dead,hr.home,hr.ei,hr.dC,hr.oa,hr.nU,hr.me,hr.z0,hr.zp,
  hr.gh.keep Le.drew (fun _ _ _ _ h=>h) rfl (fun _ _ _ _=>rfl) (aq _) hr.gh.dC hr.gh.loc⟩,h.nt,h.defers⟩
theorem SR.reserve(h:SR w0 Z0 Zp X s g a w)(n:Nat):SR w0 Z0 Zp X { s with next:=n } g a w:=⟨h.env,h.hr,h.nt,h.defers⟩
theorem pK{R:Type}(hX:tU P X)(hm:P.follows .mixedOrders=true){id:Nat}{b:Bool}{K:St→Option R}{r:R}(e:lg X ops b K s=some r)(hS:SR w0 Z0 Zp X s g a w)(u:∀p,g.al p→p<s.next)
  (hQ:∀s' B w' g',K s'=some r→SR w0 Z0 Zp X s' g' B w'→(∀p,g'.al p→p<s'.next)→Q .normal B w'):(Code.region id ops b).wp P Q a w:=by
 unfold lg at e;simp only at e;rw[i1]at e
 cases D:xv X ops.toList s.next ops.toList { s with next:=s.next+ops.toList.length } []with
 |none=>rw[D]at e;cases e
 |some q=>
  obtain⟨H,O⟩:=q;rw[D]at e;simp only[aj]at e;obtain⟨S,Lg,Y,Z,h2,h3⟩:=vS X ops.toList ops.toList s.next _ [] H O D;have k:H.next=s.next+ops.size:=by
   have h4:∀i,i≤ops.toList.length→(S i).next=s.next+ops.size:=by
    intro i
    induction i with
    |zero=>intro _;rw[Y];simp
    |succ i ih=>
     intro M;have:=ep (h2 i (ops.toList[i]'(by omega)) (ah (by omega)));rw[this.1];exact ih (by omega)
   rw[←Z];exact h4 _ (aq _)
  cases b with
  |false=>
   refine wp_region ?_;rw[List.range_eq_range'];refine BG hX ops.size 0 s.next ops.toList _ [] H O g a w (by simp) (fun j=>by simp) D (hS.reserve _) u fun B w' g' n c=> ?_;exact hQ H B w' g' e n (fun p F=>by rw[k];exact c p F)
  |true=>
   simp only at e
   split at e
   ·rename_i J;have L:O.reverse=(List.range ops.size).map Lg:=by
     rw[h3];simp
    rw[L]at J;unfold C4 at J;simp only[bg]at J;have d:∀(j:Nat) (o:Oper),ops[j]? =some o→ops.toList[j]? =some o∧((List.range ops.size).map Lg)[j]? =some (Lg j)∧j<ops.size:=fun j o E=>by
     have N:j<ops.size:=(Array.getElem?_eq_some_iff.1 E).1;exact⟨by simpa using E,by simp[N],N⟩
    have Rn:Hc X ops s.next S Lg:=by
     refine⟨fun i o E=>h2 i o (by simpa using E),fun j o E e D hb=> ?_,fun i j x y hx hy W=> ?_⟩
     ·obtain⟨g1,T,U⟩:=d j o E;have:=J j (by simpa using U);rw[g1,T]at this;simp only[ae]at this;have l:=this.1;rw[Array.all_eq_true_iff_forall_mem]at l;have I:=l e (by simpa using D);rw[hb]at I;simp[b9]at I;exact I
     ·obtain⟨g1,T,U⟩:=d j y hy;obtain⟨k1,k2,k3⟩:=d i x hx;have:=J j (by simpa using U);rw[g1,T]at this;simp only[ae,bg]at this;have l:=this.2 i (by simpa using W);rw[k1,k2]at l;simp only[Bool.or_eq_true,ae]at l;rcases l with l |l
      ·exact .inl l
      ·exact .inr l
    refine wp_region_any hm ?_;have V:SR w0 Z0 Zp X (S 0) g a w.drew:=by rw[Y];exact(hS.reserve _).drew
    have z:∀i,¬ bn ops.size (Array.replicate ops.size false) i:=fun i h=>by
     have I:=h.2;simp[aN,h.1]at I
    refine Hd hX Rn ops.size _ (S 0) g a w.drew ⟨by simp,rfl,fun _ _=>rfl,fun t i M=>absurd M (z i),fun _ _=>rfl,fun o i M=>absurd M (z i),fun i j N=>absurd N (z j)⟩ V
     (fun p F=>⟨by have:=u p F;omega,fun i _ _ h=>by have:=u p F;omega⟩) ?_ fun B w' g' n c=> ?_
    ·exact Nat.le_trans List.countP_le_length (by simp)
    ·have:S ops.size=H:=by rw[←Z];simp
     rw[this]at n;exact hQ H B w' g' e n (fun p F=>by rw[k];exact c p F)
   ·cases e
end
section
variable {P:Program} {w0:W0} {w:World} {Z0 Zp:aL} {g G2:G} {X:Cx} {a:Act} {s s':St} {H H2 h h1:aD} {base next n0:Nat}
structure Hand (g:G) (G2:G) (n0:Nat) (ts:List (Option Nat)):Prop where
 tok:∀(i:Nat) (t:Option Nat),ts[i]? =some t→G2.al (n0+i)∧G2.hm (n0+i)=t.bind g.hm∧∀o,t=some o→G2.lo (n0+i)=g.lo o
structure Kept (g:G) (H:aD) (next:Nat) (G2:G) (H2:aD):Prop where
 al:∀o,o<next→g.al o→G2.al o
 ob:∀o,o<next→(look .dead o H).to (look .dead o H2)
 hm:∀o,o<next→G2.hm o=g.hm o
 z:G2.Z=g.Z
 pm:G2.pm=g.pm
theorem Hand.left{ts d:List (Option Nat)}(h:Hand g G2 n0 (ts++d)):Hand g G2 n0 ts:=
 ⟨fun i t b=>h.tok i t (by rw[aH (List.getElem?_eq_some_iff.1 b).1];exact b)⟩
theorem Hand.right{ts b:List (Option Nat)}(h:Hand g G2 n0 (ts++b)):Hand g G2 (n0+ts.length) b:=
 ⟨fun i t d=>by
  have:=h.tok (ts.length+i) t (by rw[aY (by omega)];simpa using d);rw[ce];exact this⟩
def bP(h h1:aD):Prop:=∀o,look .dead o h1=look .dead o h∨look .dead o h1= .dead
theorem bP.refl:bP h h:=fun _=> .inl rfl
theorem bP.trans{i:aD}(a:bP h h1)(b:bP h1 i):bP h i:=fun o=>by
 rcases b o with hb |hb
 ·rcases a o with d |d
  ·exact .inl (hb.trans d)
  ·exact .inr (hb.trans d)
 ·exact .inr hb
theorem bP.dead{h1:aD}(a:bP h h1){o:Nat}(d:look .dead o h= .dead):look .dead o h1= .dead:=by
 rcases a o with b |b
 ·exact b.trans d
 ·exact b
theorem bP.back{h1:aD}(a:bP h h1){o:Nat}(d:look .dead o h1≠.dead):look .dead o h=look .dead o h1:=by
 rcases a o with b |b
 ·exact b.symm
 ·exact absurd b d
theorem bP.Dk(o:Nat):bP h ((o,.dead)::h):=fun p=>by
 rw[ax]
 split
 ·exact .inr rfl
 ·exact .inl rfl
structure cG (h h1:aD) (ts:List (Option Nat)):Prop where
 was:∀o,some o∈ts→look .dead o h≠.dead
 gone:∀o,some o∈ts→look .dead o h1= .dead
 sub:bP h h1
 nodup:(ts.filterMap id).Nodup
theorem cG.nil:cG h h []:=⟨fun _ h=>by simp at h,fun _ h=>by simp at h,bP.refl,by simp⟩
theorem cG.one{o:Nat}(d:look .dead o h≠.dead):cG h ((o,.dead)::h) [some o]:=
 ⟨fun p b=>by simp at b;subst b;exact d,fun p b=>by simp at b;subst b;rw[ax,if_pos rfl],bP.Dk o,by simp⟩
theorem cG.app{j:aD}{ts l:List (Option Nat)}(a:cG h h1 ts)(b:cG h1 j l):cG h j (ts++l):=by
 refine⟨fun o d=> ?_,fun o d=> ?_,a.sub.trans b.sub,?_⟩
 ·rcases List.mem_append.1 d with d |d
  ·exact a.was o d
  ·have:=b.was o d;rw[←a.sub.back this]at this;exact this
 ·rcases List.mem_append.1 d with d |d
  ·exact b.sub.dead (a.gone o d)
  ·exact b.gone o d
 ·rw[List.filterMap_append,List.nodup_append];refine⟨a.nodup,b.nodup,fun x p y r i=> ?_⟩;subst i;exact b.was x (by simpa using r) (a.gone x (by simpa using p))
theorem CR.kept(K:Kept g H next G2 H2){c:C}(hb:rX next c=true){v:Value}(y:CR w base Zp H g c v):CR w base Zp H2 G2 c v:=by
 cases c<;>simp only[rX,Bool.false_eq_true]at hb
 case vec o=>
  have d:o<next:=by simpa[b9]using hb
  obtain⟨h1,j,r⟩:=y;exact⟨K.al o d h1,j,fun e n I=>by
   obtain⟨b,t,x⟩:=r e n ((K.ob o d).row I);exact⟨b,(K.hm o d).trans t,x⟩⟩
 case ptr o S=>
  have d:o<next:=by simpa[b9]using hb
  obtain⟨h1,j,r⟩:=y;exact⟨K.al o d h1,j,fun I=>by
   obtain⟨b,t,x⟩:=r ((K.ob o d).alive I);exact⟨b,(K.hm o d).trans t,x⟩⟩
 case clos f i=>
  obtain⟨D,h1,j⟩:=y;refine⟨D,h1,?_⟩;have:∀(i:List Nat) (L:List Value),(∀o∈i,o<next)→bm (fun o E=>g.al o∧∃u,E=[u]∧ov u∧(look .dead o H≠.dead→∃b,g.hm o=some b∧u= .pointer (some ⟨b,0,none⟩))) i L→
    bm (fun o E=>G2.al o∧∃u,E=[u]∧ov u∧(look .dead o H2≠.dead→∃b,G2.hm o=some b∧u= .pointer (some ⟨b,0,none⟩))) i L:=by
   intro i
   induction i with
   |nil=>intro L _ h;exact h
   |cons o i R=>
    intro L J ⟨E,l,e,⟨h1,u,j,r,t⟩,x⟩;have d:=J o (by simp);exact⟨E,l,e,⟨K.al o d h1,u,j,r,fun I=>by
     obtain⟨b,M,N⟩:=t ((K.ob o d).alive I);exact⟨b,(K.hm o d).trans M,N⟩⟩,R l (fun p Q=>J p (by simp[Q])) x⟩
  exact this i _ (fun o d=>by
   simp only[bg]at hb;simpa[b9]using hb o d) j
 case nilfn=>exact y
 case nilp=>exact y
 case mp o=>
  have d:o<next:=by simpa[rX,b9]using hb
  obtain⟨h1,j,r⟩:=y;exact⟨K.al o d h1,j,fun O=>by
   obtain⟨b,t,x⟩:=r ((K.ob o d).alive O);exact⟨b,(K.hm o d).trans t,x⟩⟩
theorem BJ{c d:C}(h:DO c d=true):c=d:=by
 cases c<;>cases d<;>simp only[DO,Bool.false_eq_true,ae]at h
 case vec.vec=>rw[af h]
 case ptr.ptr=>rw[af h.1,af h.2]
 case clos.clos=>rw[af h.1,eq_of_beq h.2]
 case nilfn.nilfn=>rfl
 case nilp.nilp=>rfl
 case mp.mp=>rw[af h]
theorem Dl{a:A}(h:zw next a=true):∃c,a= .v false [c]∧rX next c=true:=by
 unfold zw at h
 split at h
 ·exact⟨_,rfl,h⟩
 ·cases h
theorem FY{a b:A}(h:DP a b=true):a=b:=by
 unfold DP at h
 split at h
 ·rw[BJ h]
 ·cases h
def dR(h:aD)(ts:List (Option Nat)):Prop:=∀o,some o∈ts→look .dead o h= .tok
theorem dR.nil:dR h []:=fun _ h=>by simp at h
theorem dR.app{ts j:List (Option Nat)}(a:dR h ts)(b:dR h1 j)(d:bP h h1):dR h (ts++j):=fun o i=>by
 rcases List.mem_append.1 i with i |i
 ·exact a o i
 ·have:=b o i;rw[d.back (by rw[this];simp)];exact this
theorem BK(j:bP H h){e:Ty}{c:C}{l:List e.den}{v:Value}(z:CR w base Zp H g c v)(i:A9 e c h=some (l,h1)):
  ∃t:Option Nat,cG h h1 [t]∧dR h [t]∧∀H2 G2 n0,Hand g G2 n0 [t]→G2.Z=g.Z→CR w base Zp H2 G2 (.sl e l (.own n0)) v:=by
 unfold A9 at i
 split at i
 ·cases i;simp only[CR]at z;subst z;refine⟨none,⟨fun o h=>by simp at h,fun o h=>by simp at h,bP.refl,by simp⟩,fun o h=>by simp at h,fun H2 G2 n0 B I=> ?_⟩;obtain⟨Q,y,_⟩:=B.tok 0 none rfl;exact⟨⟨none,0,[],rfl,aq _,rfl,fun h=>absurd rfl h⟩,Q,fun _=> .inl ⟨y,rfl,rfl⟩⟩
 ·rename_i V W o
  split at i
  ·rename_i d
   split at i
   ·rename_i Y D;obtain⟨T,E⟩:=eH D;subst T;subst E
    cases i;refine⟨some o,cG.one (by rw[d];simp),fun p k=>by simp at k;subst k;exact d,fun H2 G2 n0 B I=> ?_⟩;obtain⟨y,F,R⟩:=B.tok 0 (some o) rfl;obtain⟨k,S,U⟩:=z;refine⟨?_,y,fun _=> ?_⟩
    ·rw[I];exact k
    ·rcases U ((j.back (by rw[d];simp)).trans d)with⟨n,q,r⟩|⟨b,u,x,O,n,q,r,J,K,L,M,N⟩
     ·exact .inl ⟨by rw[←b8 n0,F];exact n,q,r⟩
     ·exact .inr ⟨b,u,x,O,by rw[←b8 n0,F];exact n,q,r,J,K,L,M,by rw[←b8 n0,R o rfl];exact N⟩
   ·cases i
  ·cases i
 ·cases i
theorem AR.list{agg:Bool}{cs:List C}{v:Value}{τ:Ty}{x:τ.den}(p:agg=τ.isAgg)(r:AR w base Zp H g (.v agg cs) v)(b:τ.aX=true)(t:τ.bp cs=some x)(u:G2.Z=g.Z):AR w base Zp H2 G2 (.v τ.isAgg (τ.cells x)) v:=by
 obtain⟨i,h1,j,l⟩:=VR.list r;have d:=ci b h1 t;rw[←u]at d;have:=bG.gT (base:=base) (h:=H2) (g:=G2) τ x i d;rw[←p]
 cases agg with
 |true=>exact⟨i,j rfl,this⟩
 |false=>rw[l rfl]at this;exact this
theorem FZ(l:bP H h){k:CK}{c:C}{x:k.den}{v:Value}(n:CR w base Zp H g c v)(b:IG next k c h=some (x,h1)):
  ∃ts:List (Option Nat),cG h h1 ts∧dR h ts∧(∀n0,(II k x n0).2=n0+ts.length)∧∀H2 G2 n0,Hand g G2 n0 ts→Kept g H next G2 H2→bG w base Zp H2 G2 (II k x n0).1 [v]:=by
 unfold IG at b
 split at b
 ·rename_i τ
  split at b
  ·rename_i i;simp only[ae]at i
   split at b
   ·rename_i y D
    cases b;refine⟨[],cG.nil,dR.nil,fun _=>rfl,fun H2 G2 n0 _ j=> ?_⟩;have o:bG w base Zp H g [c] [v]:=⟨v,[],rfl,n,rfl⟩;have p:=ci i.2 o D;rw[←j.z]at p;exact bG.gT τ _ [v] p
   ·cases b
  ·cases b
 ·rename_i e;obtain⟨t,q,r,u⟩:=BK l n b;exact⟨[t],q,r,fun _=>rfl,fun H2 G2 n0 B j=>⟨v,[],rfl,u H2 G2 n0 B j.z,rfl⟩⟩
 ·rename_i d
  split at b
  ·rename_i i;simp only[ae]at i
   cases b;have:=BJ i.1;subst this;exact⟨[],cG.nil,dR.nil,fun _=>rfl,fun H2 G2 n0 _ j=>⟨v,[],rfl,CR.kept j i.2 n,rfl⟩⟩
  ·cases b
theorem sb:∀(j:List CK) (cs:List C) (vs:List Value) (h h1:aD) (x:rW j),bP H h→bG w base Zp H g cs vs→sS next j cs h=some (x,h1)→
  ∃ts:List (Option Nat),cG h h1 ts∧dR h ts∧(∀n0,(mr j x n0).2=n0+ts.length)∧∀H2 G2 n0,Hand g G2 n0 ts→Kept g H next G2 H2→bG w base Zp H2 G2 (mr j x n0).1 vs
 |[],cs,vs,h,h1,x,b,n,d=>by
  cases cs with
  |nil=>cases d;exact⟨[],cG.nil,dR.nil,fun _=>rfl,fun _ _ _ _ _=>n⟩
  |cons _ _=>cases d
 |k::j,cs,vs,h,h1,x,b,n,d=>by
  cases cs with
  |nil=>cases d
  |cons c cs=>
   obtain⟨v,i,rfl,o,p⟩:=n;simp only[sS]at d
   split at d
   ·rename_i y J K
    split at d
    ·rename_i z N L
     cases d;obtain⟨ts,l,u,q,B⟩:=FZ b o K;obtain⟨M,D,E,F,I⟩:=sb j cs i J _ z (b.trans l.sub) p L;refine⟨ts++M,l.app D,u.app E l.sub,fun n0=>by simp only[mr,F,q,aE];omega,fun H2 G2 n0 r t=> ?_⟩;simp only[mr];rw[q n0];exact bG.append _ _ [v] i (B H2 G2 n0 r.left t) (I H2 G2 _ r.right t)
    ·cases d
   ·cases d
theorem ED{τ:Ty}{b:Bool}{cs:List C}:Ba next (.data τ) (.v b cs) h=(match b==τ.isAgg&&τ.aX with
 |true=>match τ.bp cs with
  |some x=>some (x,h)
  |none=>none
 |false=>none):=rfl
theorem F0{e:Ty}{c:C}:Ba next (.own e) (.v false [c]) h=A9 e c h:=rfl
theorem F1{c b:A}:Ba next (.fix c) b h=(match DP c b&&zw next c with
 |true=>some ((),h)
 |false=>none):=rfl
theorem F2{b:List CK}{o off:Nat}:Ba next (.box b) (.v false [.ptr o off]) h=(match aJ off 0,look .dead o h with
 |true,.cells cs=>sS next b cs ((o,.dead)::h)
 |_,_=>none):=rfl
theorem CR.KG{G2:G}{H2:aD}{a:Ty}{x:a.den}{c:Nat}{v:Value}(i:G2.Z=g.Z)(l:CR w base Zp H g (.mj a x c) v):CR w base Zp H2 G2 (.mj a x c) v:=by
 obtain⟨b,d,y,e,r,t⟩:=l;refine⟨b,d,y,e,?_,fun j u p=> ?_⟩
 ·rw[i];exact r
 ·rw[i];exact t j u p
theorem F3{a b:Ty}{x:b.den}{c:Nat}:Ba next (.ref a) (.v false [.mj b x c]) h=(match aJ c 0,gb b a x with
 |true,some x=>some (x,h)
 |_,_=>none):=rfl
theorem CR.Jk{G2:G}{H2:aD}{f:FuncId}{a:Ty}{x:a.den}{v:Value}(j:G2.Z=g.Z)(d:CR w base Zp H g (.kI f a x) v):CR w base Zp H2 G2 (.kI f a x) v:=by
 obtain⟨b,e,i⟩:=d;refine⟨b,e,?_⟩;rw[j];exact i
theorem He{f c:FuncId}{a b:Ty}{x:b.den}:Ba next (.cl f a) (.v false [.kI c b x]) h=(match aJ f c,gb b a x with
 |true,some x=>some (x,h)
 |_,_=>none):=rfl
theorem F4(D:bP H h)(Ek:∀o,p2 w base Zp H g o (look .dead o H)){k:SK}{b:A}{x:k.den}{v:Value}(E:AR w base Zp H g b v)(d:Ba next k b h=some (x,h1)):
  ∃ts:List (Option Nat),cG h h1 ts∧(∀n0,(Ea k x n0).2=n0+ts.length)∧
   (∀n0 p,look .dead p (je k x n0)≠.dead→n0≤p∧∃q cs Z,ts[p -n0]? =some (some q)∧look .dead q h= .cells cs∧look .dead p (je k x n0)= .cells Z)∧
   (∀n0 i q,ts[i]? =some (some q)→look .dead (n0+i) (je k x n0)= .dead→look .dead q h= .tok)∧
   ∀H2 G2 n0,Hand g G2 n0 ts→Kept g H next G2 H2→AR w base Zp H2 G2 (Ea k x n0).1 v∧∀p,p2 w base Zp H2 G2 p (look .dead p (je k x n0)):=by
 cases k with
 |data τ=>
  cases b with
  |eo _=>cases d
  |v B cs=>
   rw[ED]at d
   split at d
   ·rename_i u;rw[ae]at u
    split at d
    ·rename_i y hy
     cases d;exact⟨[],cG.nil,fun _=>rfl,fun _ _ j=>absurd rfl j,fun _ _ _ j _=>by simp at j,fun H2 G2 n0 _ r=>⟨AR.list (toBeq u.1) E u.2 hy r.z,fun _=>trivial⟩⟩
    ·cases d
   ·cases d
 |vt V=>
  cases b with
  |eo _=>cases d
  |v B cs=>
   have d:(match B==V.isAgg&&V.ok with
    |true=>match V.bp cs with
     |some x=>some (x,h)
     |none=>none
    |false=>none)=some (x,h1):=d
   split at d
   ·rename_i u;rw[ae]at u
    split at d
    ·rename_i y hy
     cases d;refine⟨[],cG.nil,fun _=>rfl,fun _ _ j=>absurd rfl j,fun _ _ _ j _=>by simp at j,fun H2 G2 n0 _ r=>⟨?_,fun _=>trivial⟩⟩;obtain⟨vs,h1,h2,h3⟩:=VR.list E;have L:=VT.ic (w':=w) (base':=base) (rT:=Zp) (h':=H2) (g':=G2) (fun b i E=>⟨r.z▸E,rfl⟩) (fun c id e he=>r.pm▸he) V _ vs u.2 (VT.eX u.2 h1 hy);have Da:=toBeq u.1;show VR w base Zp H2 G2 V.isAgg (V.cells _) v;rw[←Da]
     cases B with
     |true=>exact⟨vs,h2 rfl,L⟩
     |false=>rw[h3 rfl]at L;exact L
    ·cases d
   ·cases d
 |own e=>
  rcases b with⟨B,cs⟩|ps
  ·rcases B with _ |_
   ·rcases cs with _ |⟨c,_ |⟨S,cs⟩⟩
    ·cases d
    ·rw[F0]at d;obtain⟨t,h2,h3,h4⟩:=BK D E.c d;exact⟨[t],h2,fun _=>rfl,fun _ _ j=>absurd rfl j,fun _ _ q j _=>h3 q (bj j),fun H2 G2 n0 j r=>⟨AR.eU (h4 H2 G2 n0 j r.z),fun _=>trivial⟩⟩
    ·cases d
   ·cases d
  ·cases d
 |fix a0=>
  rw[F1]at d
  split at d
  ·rename_i u;rw[ae]at u
   cases d;have:=FY u.1;subst this;obtain⟨c,rfl,hbc⟩:=Dl u.2;exact⟨[],cG.nil,fun _=>rfl,fun _ _ j=>absurd rfl j,fun _ _ _ j _=>by simp at j,fun H2 G2 n0 _ r=>⟨AR.eU (CR.kept r hbc E.c),fun _=>trivial⟩⟩
  ·cases d
 |cl f e=>
  have W:∃f' K y,b= .v false [.kI f' K y]:=by
   rcases b with⟨B,cs⟩|ps
   ·rcases B with _ |_
    ·rcases cs with _ |⟨c,_ |⟨S,cs⟩⟩
     ·cases d
     ·cases c<;>first |cases d |exact⟨_,_,_,rfl⟩
     ·cases c<;>cases d
    ·cases d
   ·cases d
  obtain⟨f',K,y,rfl⟩:=W;rw[He]at d
  cases l:aJ f f' with
  |false=>rw[l]at d;cases d
  |true=>
   rw[l]at d;have l:=af l;subst l
   cases N:gb K e y with
   |none=>rw[N]at d;cases d
   |some z=>
    rw[N]at d
    cases d;obtain⟨rfl,O⟩:=pH N
    cases O;exact⟨[],cG.nil,fun _=>rfl,fun _ _ j=>absurd rfl j,fun _ _ _ j _=>by simp at j,fun H2 G2 n0 _ r=>⟨AR.eU (CR.Jk r.z E.c),fun _=>trivial⟩⟩
 |ref e=>
  have W:∃K y c,b= .v false [.mj K y c]:=by
   rcases b with⟨B,cs⟩|ps
   ·rcases B with _ |_
    ·rcases cs with _ |⟨c,_ |⟨S,cs⟩⟩
     ·cases d
     ·cases c<;>first |cases d |exact⟨_,_,_,rfl⟩
     ·cases c<;>cases d
    ·cases d
   ·cases d
  obtain⟨K,y,c,rfl⟩:=W;rw[F3]at d
  cases l:aJ c 0 with
  |false=>rw[l]at d;cases d
  |true=>
   rw[l]at d;have l:=af l;subst l
   cases N:gb K e y with
   |none=>rw[N]at d;cases d
   |some z=>
    rw[N]at d
    cases d;obtain⟨rfl,O⟩:=pH N
    cases O;exact⟨[],cG.nil,fun _=>rfl,fun _ _ j=>absurd rfl j,fun _ _ _ j _=>by simp at j,fun H2 G2 n0 _ r=>⟨AR.eU (CR.KG r.z E.c),fun _=>trivial⟩⟩
 |box R=>
  have W:∃o Q,b= .v false [.ptr o Q]:=by
   rcases b with⟨B,cs⟩|ps
   ·rcases B with _ |_
    ·rcases cs with _ |⟨c,_ |⟨S,cs⟩⟩
     ·cases d
     ·cases c<;>first |cases d |exact⟨_,_,rfl⟩
     ·cases c<;>cases d
    ·cases d
   ·cases d
  obtain⟨o,Q,rfl⟩:=W;rw[F2]at d
  cases n:aJ Q 0 with
  |false=>rw[n]at d;cases d
  |true=>
   rw[n]at d;obtain⟨cs,F⟩:∃cs,look .dead o h= .cells cs:=by
    cases hl:look Ob.dead o h with
    |cells cs=>exact⟨cs,rfl⟩
    |_=>rw[hl]at d;cases d
   rw[F]at d;replace d:sS next R cs ((o,.dead)::h)=some (x,h1):=d
   have n:=af n;subst n;have Y:look .dead o h≠.dead:=by rw[F];simp
   have hH:look .dead o H= .cells cs:=(D.back Y).trans F;obtain⟨zB,ON,hd⟩:=E.c;obtain⟨bb,I4,hv⟩:=hd (by rw[hH];simp);have J:=Ek o;rw[hH]at J;obtain⟨b',T,e0,hb',U,KD⟩:=J;obtain⟨us,c1,S,c3,c4⟩:=sb R cs T.toList _ h1 x (D.trans (bP.Dk o)) KD d;have M:∀n0 p,look .dead p (je (.box R) x n0)=if n0=p then .cells (mr R x (n0+1)).1 else .dead:=fun n0 p=>by
    show look Ob.dead p [(n0,Ob.cells (mr R x (n0+1)).1)]=_;rw[ax];rfl
   refine⟨some o::us,(cG.one Y).app c1,fun n0=> ?_,fun n0 p hp=> ?_,fun n0 i q hi hd=> ?_,fun H2 G2 n0 j r=>⟨AR.eU ?_,fun p=> ?_⟩⟩
   ·show(mr R x (n0+1)).2=_;rw[c3];simp;omega
   ·rw[M]at hp ⊢
    by_cases I:n0=p
    ·subst I;exact⟨aq _,o,cs,_,by simp,F,if_pos rfl⟩
    ·rw[if_neg I]at hp;exact absurd rfl hp
   ·cases i with
    |zero=>have:=(M n0 (n0+0)).symm.trans hd;simp at this
    |succ i=>
     have:=S q (bj (by simpa using hi:us[i]? =some (some q)));rw[(bP.Dk o).back (by rw[this];simp)];exact this
   ·obtain⟨k1,k2,k3⟩:=j.tok 0 (some o) rfl;exact⟨k1,ON,fun _=>⟨bb,k2.trans I4,hv⟩⟩
   ·rw[M]
    split
    ·rename_i I;subst I;obtain⟨k1,k2,k3⟩:=j.tok 0 (some o) rfl;refine⟨b',T,e0,k2.trans hb',U,c4 H2 G2 (n0+1) ?_ r⟩;exact Hand.right (ts:=[some o]) j
    ·trivial
end
noncomputable local instance Mo (x:Ob):Decidable (x= .dead):=Classical.propDecidable _
section
variable {P:Program} {w0:W0} {w:World} {Z0 Zp:aL} {g G2:G} {X:Cx} {a:Act} {s s':St} {H H2 h h1:aD} {base next n0:Nat}
def fU(E:aD):Prop:=∀p T,look .dead p (E++T)=if look .dead p E= .dead then look .dead p T else look .dead p E
theorem fU.nil:fU []:=fun _ _=>(if_pos rfl).symm
theorem fU.cons{E:aD}{o:Nat}{y:Ob}(d:y≠.dead)(h:fU E):fU ((o,y)::E):=fun p T=>by
 show look .dead p ((o,y)::(E++T))=_;rw[ax,ax]
 by_cases b:o=p
 ·rw[if_pos b,if_pos b,if_neg d]
 ·rw[if_neg b,if_neg b];exact h p T
theorem fU.je(k:SK)(x:k.den)(n0:Nat):fU (je k x n0):=by
 cases k with
 |box b=>exact fU.cons (by simp) fU.nil
 |_=>exact fU.nil
theorem fU.app{E F:aD}(h:fU E)(k:fU F):fU (E++F):=fun p T=>by
 rw[bd,h,h,k]
 by_cases h1:look .dead p E= .dead
 ·rw[if_pos h1,if_pos h1]
 ·rw[if_neg h1,if_neg h1,if_neg h1]
theorem F5(L:bP H h){k:OK}{o:Nat}{y:Ob}{x:k.den}(E:p2 w base Zp H g o y)(i:IH next k y h=some (x,h1)):
  ∃ts:List (Option Nat),cG h h1 ts∧dR h ts∧(∀n0,(iZ k x n0).2=n0+ts.length)∧
   (∀n0,y.to (iZ k x n0).1∧(iZ k x n0).1.open? =y.open? ∧(iZ k x n0).1≠.tok∧(iZ k x n0).1≠.dead∧y≠.dead∧y≠.tok∧∀wr K W,(iZ k x n0).1= .gh wr K W→y= .gh wr K W)∧
   ∀H2 G2 n0,Hand g G2 n0 ts→Kept g H next G2 H2→G2.hm o=g.hm o→p2 w base Zp H2 G2 o (iZ k x n0).1:=by
 cases k with
 |row e=>
  cases y with
  |row F l=>
   have c:(match fP F e l with |some l=>some (l,h)|none=>none)=some (x,h1):=i
   cases d:fP F e l with
   |none=>rw[d]at c;cases c
   |some U=>
    rw[d]at c;obtain⟨O,n⟩:=eH d;subst O;subst n;clear i
    cases c;refine⟨[],cG.nil,dR.nil,fun _=>rfl,fun _=>⟨Ob.to.refl _,rfl,by simp[iZ],by simp[iZ],by simp,by simp,fun _ _ _ h=>by cases h⟩,fun H2 G2 n0 _ q p=> ?_⟩;obtain⟨I,J,b,j,D,r,t,u⟩:=E;exact⟨I,J,b,j,D,p.trans r,t,by rw[q.z];exact u⟩
  |_=>cases i
 |iA e=>
  cases y with
  |iA F l=>
   have c:(match fP F e l with |some l=>some (l,h)|none=>none)=some (x,h1):=i
   cases d:fP F e l with
   |none=>rw[d]at c;cases c
   |some U=>
    rw[d]at c;obtain⟨O,n⟩:=eH d;subst O;subst n;clear i
    cases c;refine⟨[],cG.nil,dR.nil,fun _=>rfl,fun _=>⟨Ob.to.refl _,rfl,by simp[iZ],by simp[iZ],by simp,by simp,fun _ _ _ h=>by cases h⟩,fun H2 G2 n0 _ q p=> ?_⟩;obtain⟨I,J,b,j,D,fz,r,t,u,N⟩:=E;exact⟨I,J,b,j,D,fz,p.trans r,t,by rw[q.z];exact u,by rw[q.z];exact N⟩
  |_=>cases i
 |cells ks=>
  cases y with
  |cells M=>
   have i:sS next ks M h=some (x,h1):=i
   obtain⟨b,j,D,r,t,u⟩:=E;obtain⟨ts,a1,a2,a3,a4⟩:=sb ks M j.toList h h1 x L u i;refine⟨ts,a1,a2,a3,fun _=>⟨.inr (.inr (.inl ⟨_,_,rfl,rfl⟩)),rfl,by simp[iZ],by simp[iZ],by simp,by simp,fun _ _ _ h=>by cases h⟩,fun H2 G2 n0 hh q p=> ?_⟩;exact⟨b,j,D,p.trans r,t,a4 H2 G2 n0 hh q⟩
  |_=>cases i
 |map k v=>
  cases y with
  |map Z v' l=>
   have c:(match lf Z v' k v l with |some l=>some (l,h)|none=>none)=some (x,h1):=i
   cases d:lf Z v' k v l with
   |none=>rw[d]at c;cases c
   |some U=>
    rw[d]at c;obtain⟨Q,S,n⟩:=pF d;subst Q S;have n:U=l:=n;subst n;clear i
    cases c;refine⟨[],cG.nil,dR.nil,fun _=>rfl,fun _=>⟨Ob.to.refl _,rfl,by simp[iZ],by simp[iZ],by simp,by simp,fun _ _ _ h=>by cases h⟩,fun H2 G2 n0 _ q p=> ?_⟩;obtain⟨I,J,r,b,es,B,t,u,N⟩:=E;exact⟨I,J,r,b,es,B,p.trans t,u,N⟩
  |_=>cases i
 |gh wr K=>
  cases y with
  |gh V K' H0=>
   have c:(match wr==V,dz K' K H0 with |true,some H=>some (H,h)|_,_=>none)=some (x,h1):=i;clear i
   split at c
   ·rename_i H2 T hH;have T:=toBeq T;subst T;obtain⟨hK,rfl⟩:=cB hH;subst hK
    cases c;refine⟨[],cG.nil,dR.nil,fun _=>rfl,fun _=>⟨Ob.to.refl _,rfl,by simp[iZ],by simp[iZ],by simp,by simp,fun _ _ _ h=>h⟩,fun H2 G2 n0 _ q p=> ?_⟩;exact p.trans E
   ·cases c
  |_=>cases i
 |obj τ=>
  cases y with
  |cells M=>
   have c:(match τ.aX with |true=>(match τ.bp M with |some x=>some (x,h)|none=>none)|false=>none)=some (x,h1):=i;clear i
   split at c
   ·rename_i R
    split at c
    ·rename_i x' hx
     cases c;obtain⟨b,j,D,r,t,u⟩:=E;refine⟨[],cG.nil,dR.nil,fun _=>rfl,fun _=>⟨.inr (.inr (.inl ⟨_,_,rfl,rfl⟩)),rfl,by simp[iZ],by simp[iZ],by simp,by simp,fun _ _ _ h=>by cases h⟩,fun H2 G2 n0 _ q p=>⟨b,j,D,p.trans r,t,?_⟩⟩;have Y:=ci R u hx;rw[←q.z]at Y;exact bG.gT τ _ _ Y
    ·cases c
   ·cases c
  |_=>cases i
structure Dm (H h:aD) (next:Nat) (ts:List (Option Nat)) (E:aD) (p:Nat):Prop where
 lt:p<next
 to:(look .dead p H).to (look .dead p E)
 Sq:(look .dead p E).open? =(look .dead p H).open?
 Qp:look .dead p E≠.tok
 was:look .dead p h≠.dead
 out:some p∉ts
 gh:∀wr K H',look .dead p E= .gh wr K H'→look .dead p H= .gh wr K H'
theorem vV(u:∀o,p2 w base Zp H g o (look .dead o H)):∀(l:List (Nat×OK)) (h h1:aD) (x:vk l),bP H h→zx next l h=some (x,h1)→
  ∃ts:List (Option Nat),cG h h1 ts∧dR h ts∧(∀n0,(jf l x n0).2=n0+ts.length)∧
   (∀n0,fU (jf l x n0).1)∧
   (∀n0 o,look .dead o (jf l x n0).1≠.dead→Dm H h next ts (jf l x n0).1 o)∧
   ∀H2 G2 n0,Hand g G2 n0 ts→Kept g H next G2 H2→∀o,p2 w base Zp H2 G2 o (look .dead o (jf l x n0).1)
 |[],h,h1,x,b,i=>by
  cases i;exact⟨[],cG.nil,dR.nil,fun _=>rfl,fun _=>fU.nil,fun _ _ E=>absurd rfl E,fun _ _ _ _ _ _=>trivial⟩
 |(o,k)::r,h,h1,x,b,i=>by
  have i:(match Nat.blt o next with
   |false=>none
   |true=>match IH next k (look .dead o h) h with
    |some (x,h)=>match zx next r h with
     |some (y,h)=>some ((x,y),h)
     |none=>none
    |none=>none)=some (x,h1):=i
  split at i
  ·cases i
  ·rename_i j;have j:o<next:=by simpa[b9]using j
   split at i
   ·rename_i y h2 hy
    split at i
    ·rename_i z h3 hz
     cases i;have B:p2 w base Zp H g o (look .dead o h):=by
      rcases b o with h |h
      ·rw[h];exact u o
      ·rw[h];trivial
     obtain⟨ts,t,S,M,N,T⟩:=F5 b B hy;obtain⟨R,U,V,W,b6,Y,Z⟩:=vV u r h2 _ z (b.trans t.sub) hz;have c:∀n0 p,look .dead p (jf ((o,k)::r) (y,z) n0).1=if o=p then(iZ k y n0).1 else look .dead p (jf r z (n0+ts.length)).1:=fun n0 p=>by
      show look .dead p ((o,(iZ k y n0).1)::(jf r z (iZ k y n0).2).1)=_;rw[ax,M]
     have n:dR h (ts++R):=S.app V t.sub;refine⟨ts++R,t.app U,n,fun n0=> ?_,fun n0=> ?_,fun n0 p Q=> ?_,fun H2 G2 n0 E L p=> ?_⟩
     ·show(jf r z (iZ k y n0).2).2=_;rw[W,M,aE];omega
     ·exact fU.cons (N n0).2.2.2.1 (b6 _)
     ·by_cases D:o=p
      ·subst D;obtain⟨c1,c2,c3,c4,O,c6,c7⟩:=N n0;have d:=c n0 o;rw[if_pos rfl]at d;have J:=b.back O;exact⟨j,by rw[d,J];exact c1,by rw[d,J];exact c2,by rw[d];exact c3,O,fun q=>c6 (n o q),fun wr K I F=>by rw[d]at F;rw[J];exact c7 wr K I F⟩
      ·have d:=c n0 p;rw[if_neg D]at d;rw[d]at Q;obtain⟨d1,d2,d3,d4,d5,d6,d7⟩:=Y _ p Q;refine⟨d1,by rw[d];exact d2,by rw[d];exact d3,by rw[d];exact d4,?_,fun q=> ?_,fun wr K I F=>d7 wr K I (d▸F)⟩
       ·rw[t.sub.back d5];exact d5
       ·rcases List.mem_append.1 q with q |q
        ·exact d5 (t.gone p q)
        ·exact d6 q
     ·rw[c]
      split
      ·rename_i D;subst D;exact T H2 G2 n0 E.left L (L.hm _ j)
      ·exact Z H2 G2 _ E.right L p
    ·cases i
   ·cases i
theorem qi(F:∀o,p2 w base Zp H g o (look .dead o H)){env:Env}{val:Nat→Value}(B:∀t,AR w base Zp H g (look ar t env) (val t))(b:List (Nat×OK)):
  ∀(l:List (Nat×SK)) (h h1:aD) (x:mq l b),bP H h→p1 next env l b h=some (x,h1)→
  ∃ts:List (Option Nat),cG h h1 ts∧(∀n0,(cK l b x n0).2.2=n0+ts.length)∧
   (∀n0,fU (cK l b x n0).2.1)∧
   (∀n0 p,look .dead p (cK l b x n0).2.1≠.dead→Dm H h next ts (cK l b x n0).2.1 p∨
    (n0≤p∧∃q cs n,ts[p -n0]? =some (some q)∧look .dead q h= .cells cs∧look .dead p (cK l b x n0).2.1= .cells n))∧
   (∀n0 i q,ts[i]? =some (some q)→look .dead (n0+i) (cK l b x n0).2.1= .dead→look .dead q h= .tok)∧
   ∀H2 G2 n0,Hand g G2 n0 ts→Kept g H next G2 H2→(∀o,p2 w base Zp H2 G2 o (look .dead o (cK l b x n0).2.1))∧∀t,AR w base Zp H2 G2 (look ar t (cK l b x n0).1) (val t)
 |[],h,h1,x,j,D=>by
  obtain⟨ts,u,V,M,Y,O,W⟩:=vV F b h h1 x j D;exact⟨ts,u,M,Y,fun n0 p Q=> .inl (O n0 p Q),fun n0 i q J _=>V q (bj J),fun H2 G2 n0 I L=>⟨W H2 G2 n0 I L,fun t=>⟨val t,[],rfl,trivial,rfl⟩⟩⟩
 |(t,k)::r,h,h1,x,j,D=>by
  unfold p1 at D
  split at D
  ·rename_i y h2 hy
   split at D
   ·rename_i z h3 hz
    cases D;obtain⟨ts,u,M,k1,k2,O⟩:=F4 j F (B t) hy;obtain⟨us,Z,b3,b6,b4,b7,S⟩:=qi F B b r h2 _ z (j.trans u.sub) hz;have T:∀n0,(cK ((t,k)::r) b (y,z) n0).2.1=je k y n0++(cK r b z (n0+ts.length)).2.1:=fun n0=>by
     rw[←M];rfl
    have c:∀n0 p,look .dead p (cK ((t,k)::r) b (y,z) n0).2.1=if look .dead p (je k y n0)= .dead then look .dead p (cK r b z (n0+ts.length)).2.1 else look .dead p (je k y n0):=fun n0 p=>by
     rw[T,fU.je k y n0]
    refine⟨ts++us,u.app Z,fun n0=> ?_,fun n0=> ?_,fun n0 p Q=> ?_,fun n0 i q J hd=> ?_,fun H2 G2 n0 I L=>⟨fun p=> ?_,fun p=> ?_⟩⟩
    ·show(cK r b z (Ea k y n0).2).2.2=_;rw[b3,M,aE];omega
    ·rw[T];exact(fU.je k y n0).app (b6 _)
    ·by_cases E:look .dead p (je k y n0)= .dead
     ·have d:=c n0 p;rw[if_pos E]at d;rw[d]at Q;rcases b4 _ p Q with⟨d1,d2,d3,d4,d5,d6,d7⟩|⟨d1,q,cs,n,d2,d3,d4⟩
      ·refine .inl ⟨d1,by rw[d];exact d2,by rw[d];exact d3,by rw[d];exact d4,?_,fun N=> ?_,fun wr K U hx=>d7 wr K U (d▸hx)⟩
       ·rw[u.sub.back d5];exact d5
       ·rcases List.mem_append.1 N with N |N
        ·exact d5 (u.gone p N)
        ·exact d6 N
      ·refine .inr ⟨by omega,q,cs,n,?_,?_,by rw[d];exact d4⟩
       ·rw[aY (by omega),←d2];congr 1;omega
       ·rw[u.sub.back (by rw[d3];simp)];exact d3
     ·have d:=c n0 p;rw[if_neg E]at d;obtain⟨d1,q,cs,n,d2,d3,d4⟩:=k1 n0 p E;refine .inr ⟨d1,q,cs,n,?_,d3,by rw[d];exact d4⟩;rw[aH (List.getElem?_eq_some_iff.1 d2).1];exact d2
    ·have d:=c n0 (n0+i);rw[hd]at d
     by_cases E:look .dead (n0+i) (je k y n0)= .dead
     ·rw[if_pos E]at d
      by_cases R:i<ts.length
      ·rw[aH R]at J;exact k2 n0 i q J E
      ·rw[aY (by omega)]at J;have:=b7 (n0+ts.length) (i -ts.length) q J (by rw[show n0+ts.length+(i -ts.length)=n0+i by omega];exact d.symm);rw[u.sub.back (by rw[this];simp)];exact this
     ·rw[if_neg E]at d;exact absurd d.symm E
    ·rw[c]
     split
     ·exact(S H2 G2 _ I.right L).1 p
     ·exact(O H2 G2 n0 I.left L).2 p
    ·show AR w base Zp H2 G2 (look ar p ((t,(Ea k y n0).1)::(cK r b z (Ea k y n0).2).1)) (val p);rw[ax]
     split
     ·rename_i he;subst he;exact(O H2 G2 n0 I.left L).1
     ·rw[M];exact(S H2 G2 _ I.right L).2 p
   ·cases D
  ·cases D
theorem yQ(p:Nat):∀n,look .dead p (toks n0 n)=if n0≤p∧p<n0+n then .tok else .dead
 |0=>by rw[if_neg (by omega)];rfl
 |n+1=>by
  show look .dead p ((n0+n,.tok)::toks n0 n)=_;rw[ax,yQ p n]
  by_cases h:n0+n=p
  ·rw[if_pos h,if_pos (by omega)]
  ·rw[if_neg h]
   by_cases b:n0≤p∧p<n0+n
   ·rw[if_pos b,if_pos (by omega)]
   ·rw[if_neg b,if_neg (by omega)]
theorem sd:∀(ts:List (Option Nat)) (i j t:Nat),(ts.filterMap id).Nodup→ts[i]? =some (some t)→ts[j]? =some (some t)→i=j
 |[],_,_,_,_,h,_=>by simp at h
 |none::ts,i,j,t,l,c,d=>by
  cases i with
  |zero=>simp at c
  |succ i=>
   cases j with
   |zero=>simp at d
   |succ j=>
    have:=sd ts i j t (by simpa using l) (by simpa using c) (by simpa using d);omega
 |some u::ts,i,j,t,l,c,d=>by
  simp only[List.filterMap_cons,id,List.nodup_cons]at l;have b:∀k:Nat,ts[k]? =some (some t)→t∈ts.filterMap id:=fun k n=>List.mem_filterMap.2 ⟨some t,bj n,rfl⟩
  cases i with
  |zero=>
   cases j with
   |zero=>rfl
   |succ j=>
    simp only[List.getElem?_cons_zero,Option.some.injEq]at c;subst c;exact absurd (b j (by simpa using d)) l.1
  |succ i=>
   cases j with
   |zero=>
    simp only[List.getElem?_cons_zero,Option.some.injEq]at d;subst d;exact absurd (b i (by simpa using c)) l.1
   |succ j=>
    have:=sd ts i j t l.2 (by simpa using c) (by simpa using d);omega
theorem qj{N:NS}{x:N.den}(S:SR w0 Z0 Zp X s g a w)(I:dec N s=some x):
  ∃D,SR w0 Z0 Zp X (enc N x) D a w∧∀p,D.al p→p<(enc N x).next:=by
 unfold dec at I
 split at I
 ·cases I
 split at I
 ·rename_i y h1 hy
  cases I;obtain⟨l,c1,c3,c6,c4,c7,c5⟩:=qi S.hr.ob (val:=fun t=>a.tmps.getD t undef) S.env N.obs N.slots s.heap h1 x bP.refl hy;obtain⟨n0,O⟩:∃n0,n0=N.next:=⟨_,rfl⟩;obtain⟨D,n⟩:∃D:G,D=⟨fun p=>(p<n0∧g.al p)∨(n0≤p∧p<n0+l.length),g.Z,fun p=>if p<n0 then g.hm p else((l[p -n0]?).bind id).bind g.hm,fun p=>match(l[p -n0]?).bind id with |some o=>g.lo o |none=>0,g.pm⟩:=⟨_,rfl⟩;obtain⟨E,hE⟩:∃E,E=(cK N.slots N.obs x n0).2.1:=⟨_,rfl⟩;have Y:(enc N x).heap=E++toks n0 l.length:=by
   show _++toks N.next ((cK N.slots N.obs x N.next).2.2 -N.next)=_;rw[c3,hE,O,Nat.add_sub_cancel_left]
  have J:∀p,look .dead p (enc N x).heap=if look .dead p E= .dead then(if n0≤p∧p<n0+l.length then .tok else .dead)else look .dead p E:=fun p=>by
   rw[Y,←yQ,hE];exact c6 n0 p _
  have hnext:(enc N x).next=n0+l.length:=by
   show(cK N.slots N.obs x N.next).2.2=_;rw[c3,O]
  have T:D.Z=g.Z:=by rw[n]
  have E0:D.pm=g.pm:=by rw[n]
  have Kl:∀p,p<n0→D.hm p=g.hm p:=fun p B=>by rw[n];exact if_pos B
  have OO:∀p,look .dead p E≠.dead→Dm s.heap s.heap n0 l E p∨(n0≤p∧∃q cs U,l[p -n0]? =some (some q)∧look .dead q s.heap= .cells cs∧look .dead p E= .cells U):=by
   intro p B;rw[hE]at B ⊢;rw[O]at B ⊢;exact c4 N.next p B
  have M:Hand g D n0 l:=by
   refine⟨fun i t R=> ?_⟩;have hlt:i<l.length:=(List.getElem?_eq_some_iff.1 R).1;refine⟨by rw[n];exact .inr (by omega),?_,fun o r=> ?_⟩
   ·rw[n];show(if n0+i<n0 then g.hm (n0+i)else((l[n0+i -n0]?).bind id).bind g.hm)=_;rw[if_neg (by omega),Nat.add_sub_cancel_left,R];rfl
   ·rw[n];show(match(l[n0+i -n0]?).bind id with |some o=>g.lo o |none=>0)=_;rw[Nat.add_sub_cancel_left,R,r];rfl
  have L:∀p,look .dead p (enc N x).heap≠.dead→(p<n0∧look .dead p s.heap≠.dead∧(look .dead p s.heap).to (look .dead p (enc N x).heap)∧(look .dead p (enc N x).heap).open? =(look .dead p s.heap).open? ∧look .dead p (enc N x).heap≠.tok∧some p∉l)∨
    (n0≤p∧p<n0+l.length∧∀q,l[p -n0]? =some (some q)→look .dead q s.heap≠.dead∧((look .dead p (enc N x).heap).open? =true→(look .dead q s.heap).open? =true)∧(look .dead p (enc N x).heap= .tok→look .dead q s.heap= .tok)):=by
   intro p B;have j:=J p
   by_cases I:look .dead p E= .dead
   ·rw[if_pos I]at j
    by_cases hr:n0≤p∧p<n0+l.length
    ·rw[if_pos hr]at j;refine .inr ⟨hr.1,hr.2,fun q hq=> ?_⟩;have:=c7 n0 (p -n0) q hq (by rw[Nat.add_sub_cancel' hr.1,←hE];exact I);refine⟨by rw[this];simp,fun r=> ?_,fun _=>this⟩;rw[j]at r;cases r
    ·rw[if_neg hr]at j;exact absurd j B
   ·rw[if_neg I]at j;rcases OO p I with⟨d1,d2,d3,d4,d5,d6,_⟩|⟨d1,q,cs,U,d2,d3,d4⟩
    ·exact .inl ⟨d1,d5,by rw[j];exact d2,by rw[j];exact d3,by rw[j];exact d4,d6⟩
    ·have hlt:=(List.getElem?_eq_some_iff.1 d2).1;refine .inr ⟨d1,by omega,fun q' hq'=> ?_⟩;rw[d2]at hq'
     cases hq';refine⟨by rw[d3];simp,fun _=>by rw[d3];rfl,fun ht=> ?_⟩;rw[j,d4]at ht;cases ht
  have KH:Kept g s.heap N.next D (enc N x).heap:=by
   rw[←O];refine⟨fun o r h=> ?_,fun o r=> ?_,fun o r=>Kl o r,T,E0⟩
   ·rw[n];exact .inl ⟨r,h⟩
   ·by_cases j:look .dead o (enc N x).heap= .dead
    ·exact .inl j
    ·rcases L o j with h |h
     ·exact h.2.2.1
     ·omega
  have k:∀p b,look .dead p (enc N x).heap≠.dead→D.hm p=some b→∃o,g.hm o=some b∧look .dead o s.heap≠.dead∧((look .dead p (enc N x).heap).open? =true→(look .dead o s.heap).open? =true)∧(look .dead p (enc N x).heap= .tok→look .dead o s.heap= .tok∧D.lo p=g.lo o)∧
    ((p=o∧some p∉l)∨(n0≤p∧l[p -n0]? =some (some o))):=by
   intro p b B u;rcases L p B with⟨d1,d2,d3,d4,d5,d6⟩|⟨d1,d2,d3⟩
   ·exact⟨p,(Kl p d1)▸u,d2,fun h=>d4▸h,fun h=>absurd h d5,.inl ⟨rfl,d6⟩⟩
   ·have R:l[p -n0]? =some l[p -n0]:=ah (by omega)
    obtain⟨k1,k2,k3⟩:=M.tok (p -n0) l[p -n0] R;rw[Nat.add_sub_cancel' d1]at k2 k3;rw[k2]at u
    cases ht:l[p -n0]with
    |none=>rw[ht]at u;cases u
    |some o=>
     rw[ht]at u R;obtain⟨e1,e2,e3⟩:=d3 o R;exact⟨o,u,e1,e2,fun h=>⟨e3 h,k3 o ht⟩,.inr ⟨d1,R⟩⟩
  have Nh:∀c wr K H',look .dead c (enc N x).heap= .gh wr K H'→look .dead c s.heap= .gh wr K H':=by
   intro c wr K H' hc;have j:=J c
   by_cases I:look .dead c E= .dead
   ·rw[if_pos I,hc]at j
    split at j<;>cases j
   ·rw[if_neg I,hc]at j;rcases OO c I with d |⟨d1,q,cs,U,d2,d3,d4⟩
    ·exact d.gh wr K H' j.symm
    ·rw[d4]at j;cases j
  obtain⟨k1,k2⟩:=c5 (enc N x).heap D n0 M KH;refine⟨D,⟨fun t=> ?_,?_,S.nt,S.defers⟩,fun p B=> ?_⟩
  ·have:=k2 t;rw[O]at this;exact this
  ·refine⟨S.hr.ext,fun o=> ?_,fun o r=> ?_,fun o b j u=> ?_,fun o p b r B u hb'=> ?_,fun o b i r u=> ?_,fun o b i r u J7=> ?_,fun b i h=>S.hr.nU b i (by rw[←T];exact h),fun b i u h=>S.hr.me b i u (by rw[←T];exact h),fun b i h=>by rw[T];exact S.hr.z0 b i h,S.hr.zp,S.hr.gh.Ig Nh E0 (fun c id b i hG=>by rw[T];exact S.hr.gh.dC c id b i hG) (fun c id b o hG j u=> ?_) (fun c id K x hk hc=>gi.move (w':=w) (g':=D) (fun b i u=>⟨T▸u,rfl⟩) (fun c id e he=>E0▸he) (fun _ _=>rfl) K x hk hc)⟩
   ·rw[J]
    split
    ·split<;>trivial
    ·rw[hE];exact k1 o
   ·by_cases j:look .dead o (enc N x).heap= .dead
    ·exact j
    ·exfalso;rcases L o j with⟨d1,d2,_⟩|⟨d1,d2,_⟩
     ·exact r (by rw[n];exact .inl ⟨d1,Classical.byContradiction fun h=>d2 (S.hr.dead o h)⟩)
     ·exact r (by rw[n];exact .inr ⟨d1,d2⟩)
   ·obtain⟨q,h1,V,_⟩:=k o b j u;exact S.hr.home q b V h1
   ·obtain⟨q,h1,V,_,_,Q⟩:=k o b r u;obtain⟨q',MG,Km,_,_,z⟩:=k p b B hb';have:=S.hr.ei q q' b V Km h1 MG;subst this;rcases Q with⟨Q,W⟩|⟨Q,W⟩
    ·rcases z with⟨z,F⟩|⟨z,F⟩
     ·rw[Q,z]
     ·rw[Q]at W;exact absurd (bj F) W
    ·rcases z with⟨z,F⟩|⟨z,F⟩
     ·rw[z]at F;exact absurd (bj W) F
     ·have:=sd l _ _ q c1.nodup W F;omega
   ·rw[T];have j:look .dead o (enc N x).heap≠.dead:=by intro h;rw[h]at r;cases r
    obtain⟨q,h1,V,Q,_⟩:=k o b j u;exact S.hr.dC q b i (Q r) h1
   ·rw[T]at J7;have j:look .dead o (enc N x).heap≠.dead:=by rw[r];simp
    obtain⟨q,h1,V,_,Q,_⟩:=k o b j u;obtain⟨W,h5⟩:=Q r;rw[h5];exact S.hr.oa q b i W h1 J7
   ·obtain⟨q,h1,V,_⟩:=k o b j u;exact S.hr.gh.loc c id b q hG V h1
  ·rw[hnext];rw[n]at B;rcases B with⟨B,_⟩|⟨_,B⟩
   ·omega
   ·exact B
 ·cases I
end
section
variable {P:Program} {w0:W0} {w w':World} {Z0 Zp:aL} {g:G} {X:Cx} {a:Act} {s s':St} {ops:Array Oper} {Q:Exit→Act→World→Prop}
theorem EE{b:List Log}(h:clean b=true){L:Log}(c:L∈b)(p:Nat):(p,true)∉L:=fun d=>by
 unfold clean at h;rw[bg]at h;have:=h L c;rw[bg]at this;have:=this _ d;simp at this
theorem Dn{b:St}{c:List Log}{new:Nat}{l:List Oper}(z:xv X ops.toList new l s []=some (b,c))(y:clean c=true):
  b.next=s.next∧(∀t,(∀o∈l,o.dst≠some t)→look ar t b.env=look ar t s.env)∧∀p,look .dead p b.heap=look .dead p s.heap:=by
 obtain⟨S,k,n,q,r,u⟩:=vS X ops.toList l new _ [] b c z;have h:∀i,i≤l.length→(S i).next=s.next∧(∀t,(∀o∈l,o.dst≠some t)→look ar t (S i).env=look ar t s.env)∧∀p,look .dead p (S i).heap=look .dead p s.heap:=by
  intro i
  induction i with
  |zero=>intro _;rw[n];exact⟨rfl,fun _ _=>rfl,fun _=>rfl⟩
  |succ i B=>
   intro H;obtain⟨D,E,F⟩:=B (by omega);have d:=ep (r i (l[i]'(by omega)) (ah (by omega)));have x:k i∈c:=by
    rw[u];simp only[List.append_nil,List.mem_reverse,List.mem_map,List.mem_range];exact⟨i,by omega,rfl⟩
   exact⟨d.1.trans D,fun t j=>(d.2.1 t (j _ (cf _))).trans (E t j),fun p=>(d.2.2.1 p (EE y x p)).trans (F p)⟩
 have:=h l.length (aq _);rw[q]at this;exact this
theorem sX{t:Nat}{env:Env}:∀{l:List Tmp},t∈l→look ar t (mo l++env)=ar
 |q::l,b=>by
  show look ar t ((q,ar)::(mo l++env))=ar;simp only[look]
  split
  ·rfl
  ·rename_i c;rcases List.mem_cons.1 b with rfl |b
   ·rw[Nat.beq_refl]at c;cases c
   ·exact sX b
theorem qk{t:Nat}{env:Env}:∀{l:List Tmp},t∉l→look ar t (mo l++env)=look ar t env
 |[],_=>rfl
 |q::l,b=>by
  show look ar t ((q,ar)::(mo l++env))=_;simp only[look]
  split
  ·rename_i c;exact absurd (List.mem_cons.2 (.inl (af c).symm)) b
  ·exact qk fun h=>b (bz _ h)
theorem BL{h i:aD}{base:Nat}{env:Env}{t:Nat}{τ:Ty}{x:τ.den}{v:Value}(d:AR w base Zp h g (look ar t env) v)(b:DM env t τ=some x):AR w base Zp i g (tP τ x) v:=by
 unfold DM at b
 split at b
 ·rename_i l k j;rw[j]at d
  split at b
  ·rename_i c;rw[ae]at c;exact AR.list (toBeq c.1) d c.2 b rfl
  ·cases b
 ·cases b
theorem BM{h d:aD}{base:Nat}{env:Env}{val:Nat→Value}(k:∀t,AR w base Zp h g (look ar t env) (val t)){c:Env}(i:∀t,AR w base Zp d g (look ar t c) (val t)):
  ∀(l:List (Nat×Ty)) (x:(eo (l.map Prod.snd)).den),vh env l=some x→∀t,AR w base Zp d g (look ar t (vj l x c)) (val t)
 |[],_,_,t=>i t
 |[(u,τ)],x,b,t=>by
  show AR w base Zp d g (look ar t ((u,tP τ x)::c)) (val t);simp only[look]
  split
  ·rename_i j;have:=af j;subst this;exact BL (k u) b
  ·exact i t
 |(u,τ)::q::r,x,b,t=>by
  unfold vh at b
  split at b
  ·rename_i y n
   split at b
   ·rename_i z o
    cases b;show AR w base Zp d g (look ar t ((u,tP τ y)::vj (q::r) z c)) (val t);simp only[look]
    split
    ·rename_i j;have:=af j;subst this;exact BL (k u) n
    ·exact BM k i (q::r) z o t
   ·cases b
  ·cases b
structure vW (s s2:St) (l:List Tmp):Prop where
 env:∀t,t∉l→look ar t s2.env=look ar t s.env
 heap:∀p,look .dead p s2.heap=look .dead p s.heap
theorem SR.Ip{l:List (Nat×Ty)}{d:List Tmp}{v:(eo (l.map Prod.snd)).den}(b:SR w0 Z0 Zp X s' g a w)(h:vW s s' d)(j:vh s'.env l=some v)(n:Nat):SR w0 Z0 Zp X { env:=vj l v (mo d++s.env),next:=n,heap:=s.heap } g a w:=by
 refine⟨fun t=> ?_,b.hr.same h.heap,b.nt,b.defers⟩;refine BM b.env (fun t=> ?_) l v j t
 by_cases i:t∈d
 ·rw[sX i];exact AR.eU trivial
 ·rw[qk i];have:=b.env t;rw[h.env t i]at this;exact AR.mono (Le.same h.heap) _ _ this
theorem sY{R:Type}(B:tU P X)(hm:P.follows .mixedOrders=true){id:Nat}{c:Bool}{K:St→Option R}{r:R}
  (b:pZ X ops c K s=some r) (z:SR w0 Z0 Zp X s g a w) (i:∀p,g.al p→p<s.next)
  (y:∀s' d w' g',K s'=some r→vW s s' (p0 ops)→s'.next=s.next+ops.toList.length→SR w0 Z0 Zp X s' g' d w'→(∀p,g'.al p→p<s'.next)→Q .normal d w'):
  (Code.region id ops c).wp P Q a w:=by
 unfold pZ at b;simp only at b;rw[i1]at b
 cases h:xv X ops.toList s.next ops.toList { s with next:=s.next+ops.toList.length } []with
 |none=>rw[h]at b;cases b
 |some q=>
  obtain⟨L,M⟩:=q;rw[h]at b;simp only[aj]at b
  split at b
  ·cases b
  ·rename_i j;obtain⟨H,I,J⟩:=Dn h j;have E:lg X ops c (fun s'=>(K s').map fun v=>(v,s')) s=some (r,L):=by
    unfold lg;simp only;rw[i1,h];simp only[aj]
    cases c with
    |false=>simp only at b ⊢;rw[b];rfl
    |true=>
     simp only at b ⊢
     split at b
     ·rename_i n;rw[b];rfl
     ·cases b
   refine pK B hm E z i fun s' d w' g' l u x=> ?_;simp only[Option.map_eq_some_iff,Prod.mk.injEq]at l;obtain⟨N,k,rfl,rfl⟩:=l;refine y s' d w' g' k ⟨fun t F=>I t fun o D n=>F ?_,J⟩ H u x;unfold p0;exact List.mem_filterMap.2 ⟨o,D,n⟩
theorem BN{R:Type}(u:tU P X)(hm:P.follows .mixedOrders=true){id:Nat}{b:Bool}{l:List (Nat×Ty)}{K:(eo (l.map Prod.snd)).den→Option R}{r:R}
  (e:(pZ X ops b (fun s'=>vh s'.env l) s).bind K=some r) (t:SR w0 Z0 Zp X s g a w) (d:∀p,g.al p→p<s.next)
  (q:∀v c w' g',K v=some r→SR w0 Z0 Zp X { env:=vj l v (mo (p0 ops)++s.env),next:=s.next+ops.toList.length,heap:=s.heap } g' c w'→(∀p,g'.al p→p<s.next+ops.toList.length)→Q .normal c w'):
  (Code.region id ops b).wp P Q a w:=by
 obtain⟨v,y,o⟩:=Option.bind_eq_some_iff.1 e;exact sY u hm y t d fun s' c w' g' h i j k n=>q v c w' g' o (k.Ip i h _) fun p x=>j▸n p x
theorem vW.trans{d i j:St}{l m:List Tmp}(h:vW d i l)(k:vW i j m):vW d j (l++m):=
 ⟨fun t b=>(k.env t fun h=>b (cC _ h)).trans (h.env t fun h=>b (bA _ h)),fun p=>(k.heap p).trans (h.heap p)⟩
theorem vW.wide{b d:St}{l m:List Tmp}(h:vW b d l)(k:∀t∈l,t∈m):vW b d m:=⟨fun t i=>h.env t fun h=>i (k t h),h.heap⟩
theorem yR(H:tU P X)(hm:P.follows .mixedOrders=true):∀(c:Code) {R:Type} (K:St→Option R) (r:R) (Q:Exit→Act→World→Prop) (s:St) (g:G) (a:Act) (w:World),
  sR X c K s=some r→SR w0 Z0 Zp X s g a w→(∀p,g.al p→p<s.next)→(∀s' g a w,K s'=some r→vW s s' (gc c)→SR w0 Z0 Zp X s' g a w→(∀p,g.al p→p<s'.next)→Q .normal a w)→c.wp P Q a w:=by
 intro c
 induction c with
 |skip=>intro R K r Q s g a w e d b h;exact wp_skip (h _ _ _ _ e ⟨fun _ _=>rfl,fun _=>rfl⟩ d b)
 |region id ops z=>intro R K r Q s g a w e d b h;exact sY H hm e d b fun s' B w' D k l _ E F=>h s' D B w' k l E F
 |seq x y i j=>
  intro R K r Q s g a w e d b h;refine wp_seq (i _ r _ s g a w e d b fun J g a w q I d b=> ?_);exact j K r _ J g a w q d b fun L g a w q u d b=>h L g a w q (I.trans u) d b
 |cond c x y i j=>
  intro R K r Q s g a w e d b h;unfold sR at e
  split at e
  ·rename_i t o;have n:=bo d.env c;rw[o]at n;have n:a.eval c= .bool t:=n.c
   cases t with
   |true=>exact wp_cond_true n (i K r _ s g a w e d b fun s' g a w k l=>h s' g a w k (l.wide fun t o=>bA _ o))
   |false=>exact wp_cond_false n (j K r _ s g a w e d b fun s' g a w k l=>h s' g a w k (l.wide fun t o=>cC _ o))
  ·cases e
 |_=>intro R K r Q s g a w e d b h;cases e
end
section
variable {P:Program} {w0:W0} {w:World} {Z0 Zp:aL} {g:G} {X:Cx} {a:Act} {s:St}
def Ex.out:Ex→Exit
 |.normal=> .normal
 |.ret=> .ret
 |.exit id=> .exit id
theorem yS{e f:Ex}(h:zy e f=true):e=f:=by
 cases e<;>cases f<;>simp only[zy,Bool.false_eq_true]at h
 case normal.normal=>rfl
 case ret.ret=>rfl
 case exit.exit=>rw[af h]
theorem vX{R:Type}{K:Ex→St→Option R}{r:R}{e:Ex}:∀(l:List (Ex×NS)) (b:ms l),rY l e s=some b→zA l b K=some r→∃(N:NS) (x:N.den),dec N s=some x∧K e (enc N x)=some r
 |[],b,h,_=>by cases h
 |[o],b,h,c=>by
  unfold rY at h
  split at h
  ·rename_i d;rw[←yS d];exact⟨o.2,b,h,c⟩
  ·cases h
 |o::p::l,b,h,c=>by
  unfold rY at h
  split at h
  ·rename_i d
   split at h
   ·rename_i x i
    cases h;rw[←yS d];exact⟨o.2,x,i,c⟩
   ·cases h
  ·split at h
   ·rename_i x i
    cases h;exact vX (p::l) x i c
   ·cases h
theorem vY(hX:tU P X)(hm:P.follows .mixedOrders=true):∀(c:Code) {R:Type} (K:Ex→St→Option R) (r:R) (Q:Exit→Act→World→Prop) (s:St) (g:G) (a:Act) (w:World),
  fp X c K s=some r→SR w0 Z0 Zp X s g a w→(∀p,g.al p→p<s.next)→(∀e s g a w,K e s=some r→SR w0 Z0 Zp X s g a w→(∀p,g.al p→p<s.next)→Q e.out a w)→c.wp P Q a w:=by
 intro c
 induction c with
 |skip=>intro R K r Q s g a w e d b i;exact wp_skip (i _ _ _ _ _ e d b)
 |region id ops Z=>
  intro R K r Q s g a w e d b i;unfold fp at e
  split at e
  ·rename_i N hN
   cases H:lg X ops Z (fun s=>dec N s) s with
   |none=>rw[H]at e;cases e
   |some v=>
    rw[H]at e;have e:K .normal (enc N v)=some r:=e;exact pK hX hm H d b fun B o u D z E J=>by
     obtain⟨L,F,M⟩:=qj E z;exact i .normal _ L o u e F M
  ·split at e
   ·rename_i l hl;exact BN hX hm e d b fun v o u D z E J=>i .normal _ D o u z E J
   ·exact pK hX hm e d b fun B o u D z E J=>i .normal B D o u z E J
 |seq x y U V=>
  intro R K r Q s g a w e d b i;refine wp_seq (U _ r _ s g a w e d b fun e s g a w q d b=> ?_)
  cases e with
  |normal=>exact V _ r _ s g a w q d b i
  |ret=>exact i .ret s g a w q d b
  |exit id=>exact i (.exit id) s g a w q d b
 |cond c x y U V=>
  intro R K r Q s g a w e d b i;unfold fp at e
  split at e
  ·rename_i t ht;have O:=bo d.env c;rw[ht]at O;have O:a.eval c= .bool t:=O.c
   split at e
   ·rename_i N hN
    cases H:eN t (fp X x (nS N) s) (fp X y (nS N) s)with
    |none=>rw[H]at e;cases e
    |some v=>
     rw[H]at e;have e:K .normal (enc N v)=some r:=e;have T:∀(W:Ex) (B:St) (D:G) (o:Act) (u:World),nS N W B=some v→SR w0 Z0 Zp X B D o u→(∀p,D.al p→p<B.next)→Q W.out o u:=by
      intro W B D o u z E J;unfold nS at z
      split at z
      ·obtain⟨L,F,M⟩:=qj E z;exact i .normal _ L o u e F M
      ·cases z
     cases t with
     |true=>exact wp_cond_true O (U _ v _ s g a w H d b T)
     |false=>exact wp_cond_false O (V _ v _ s g a w H d b T)
   ·split at e
    ·rename_i l k hl;obtain⟨v,H,hK⟩:=Option.bind_eq_some_iff.1 e;have T:∀(ds:List Tmp) (B:St) (D:G) (o:Act) (u:World),DN l (s.next+k) B=some v→(∀t∈ds,t∈gc x++gc y)→vW s B ds→SR w0 Z0 Zp X B D o u→(∀p,D.al p→p<B.next)→Q Exit.normal o u:=by
      intro ds B D o u z hds E J F;unfold DN at z
      split at z
      ·rename_i Y;have Y:=cj Y;exact i .normal _ D o u hK (J.Ip (E.wide hds) z _) fun p hp=>aK (F p hp) Y
      ·cases z
     cases t with
     |true=>exact wp_cond_true O (yR hX hm x _ v _ s g a w H d b fun B D o u z E J F=>T _ B D o u z (fun t ht=>bA _ ht) E J F)
     |false=>exact wp_cond_false O (yR hX hm y _ v _ s g a w H d b fun B D o u z E J F=>T _ B D o u z (fun t ht=>cC _ ht) E J F)
    ·cases t with
     |true=>exact wp_cond_true O (U _ r _ s g a w e d b i)
     |false=>exact wp_cond_false O (V _ r _ s g a w e d b i)
  ·cases e
 |block id x ih=>
  intro R K r Q s g a w e d b i;refine wp_block (ih _ r _ s g a w e d b fun e s g a w q d b=> ?_)
  cases e with
  |normal=>exact i .normal s g a w q d b
  |ret=>exact i .ret s g a w q d b
  |exit j=>
   have q:(match aJ j id with
    |true=>K .normal s
    |false=>K (.exit j) s)=some r:=q
   split at q
   ·rename_i T;rw[af T];have:=i .normal s g a w q d b;simpa[Ex.out,Exit.inBlock]using this
   ·rename_i T;have:=i (.exit j) s g a w q d b;have hne:¬ j=id:=by intro h;subst h;simp at T
    simpa[Ex.out,Exit.inBlock,hne]using this
 |loop x ih=>
  intro R K r Q s g a w e d b i;unfold fp at e
  split at e
  ·rename_i S Sr
   split at e
   ·rename_i v H
    cases hl:yx S (fun K s=>fp X x K s) X.fuel v with
    |none=>rw[hl]at e;cases e
    |some I=>
     rw[hl]at e;have e:zA S.outs I K=some r:=e;have key:∀(n:Nat) (v:S.Gv.den) (g:G) (a:Act) (w:World),yx S (fun K s=>fp X x K s) n v=some I→SR w0 Z0 Zp X (enc S.Gv v) g a w→(∀p,g.al p→p<(enc S.Gv v).next)→Code.rounds P x Q n a w:=by
      intro n
      induction n with
      |zero=>intro v g a w h;cases h
      |succ n ihn=>
       intro v g a w h d b;rw[rounds_succ];refine ih _ I _ _ g a w h d b fun W B D o u q OP I7=> ?_;have hout:rY S.outs W B=some I→Q W.out o u:=by
        intro q;obtain⟨N,x,z,E⟩:=vX _ I q e;obtain⟨L,F,M⟩:=qj OP z;exact i W _ L o u E F M
       cases W with
       |normal=>
        have q:(match dec S.Gv B with
         |some v=>yx S (fun K s=>fp X x K s) n v
         |none=>none)=some I:=q
        split at q
        ·rename_i v' Kz;obtain⟨L,F,M⟩:=qj OP Kz;exact ihn v' L o u q F M
        ·cases q
       |ret=>exact hout q
       |exit j=>exact hout q
     obtain⟨L,F,M⟩:=qj d H;exact wp_loop_rounds X.fuel (key X.fuel v L a w hl F M)
   ·cases e
  ·cases e
 |exit id=>intro R K r Q s g a w e d b i;exact wp_exit (i (.exit id) _ _ _ _ e d b)
 |ret=>intro R K r Q s g a w e d b i;exact wp_ret (i .ret _ _ _ _ e d b)
 |scope x ih=>
  intro R K r Q s g a w e d b i;refine wp_scope_straight (ih K r _ s g a w e d b fun e s g a w q d b=> ?_);have:=i e s g a w q d b
  cases e<;>exact this
 |label l=>intro R K r Q s g a w e d b i;exact wp_label (i .normal _ _ _ _ e d b)
 |_=>intro R K r Q s g a w e d b i;cases e
end
section
variable {P:Program} {w0:W0} {w:World} {Z0 Zp:aL} {g:G} {X:Cx} {a:Act} {s:St} {h:aD}
def F6:List Value→Value
 |[v]=>v
 |vs=> .tuple vs.toArray
def ql(tmps:Array Value):ResultVar→Sem Value
 |.tmp t=>pure (tmps.getD t undef)
 |.cell a t=>do loadVar t (←asAddr (tmps.getD a undef))
theorem j4(fn:Func)(tmps:Array Value)(vs:List Value)(h:(fn.results.toList.mapM (ql tmps)).run P w= .ok vs w):
  (results fn tmps).run P w= .ok (F6 vs) w:=by
 have c:results fn tmps=(fn.results.mapM (ql tmps) >>= fun vs=>pure (if h:vs.size=1 then vs[0]else .tuple vs)):=rfl;have b:(fn.results.mapM (ql tmps)).run P w= .ok vs.toArray w:=by
  rw[Array.mapM_eq_mapM_toList,map_eq_pure_bind,Sem.run_bind,h];rfl
 rw[c,Sem.run_bind,b];simp only[Result.andThen_ok,Sem.run_pure]
 match vs with
 |[]=>rfl
 |[v]=>rfl
 |u::v::vs=>rfl
theorem BO{R:Type}{r:R}{τ:Ty}{z:A}{v:Value}{k:τ.den→aD→Option R}(D:HR w0 Z0 Zp h g w)(E:AR w w0.heap.size Zp h g z v)(e:hU.valK s τ z h k=some r):
  ∃x b g1,k x b=some r∧HR w0 Z0 Zp b g1 w∧Le Zp h g w b g1 w∧Fz h g b g1∧iM w g1.Z ay τ x v:=by
 unfold hU.valK at e
 split at e
 ·rename_i σ c x k
  split at e
  ·rename_i K H T
   split at e
   ·rename_i I S F
    cases y:IA I x with
    |none=>rw[y]at e;cases e
    |some q=>
     rw[y]at e;obtain⟨g1,J,j,f1,U⟩:=zF D E.c T S F y;exact⟨q.1,_,g1,e,J,j,f1,PR.aX (.sl σ) _ _ (by simpa[Ty.aX]using F) U⟩
   ·cases e
  ·cases e
 ·rename_i O n _
  split at e
  ·rename_i i;rw[ae]at i;rw[HM.run_eq]at e;obtain⟨Y,p,b,Q⟩:=VR.list E
   cases t:(di true n fun n=> .ret (.v O n)).eval s.next h []with
   |none=>rw[t]at e;cases e
   |some q=>
    rw[t]at e;obtain⟨o,B,N,W,M,L,l,u,d⟩:=cd _ _ h g _ _ _ D p t;have:=cm M;subst this;have e:(match τ.bp o with
     |some x=>k x B
     |none=>none)=some r:=e
    split at e
    ·rename_i x V;exact⟨x,B,N,e,L,l,u,iM.aX i.2 (iM.list (toBeq i.1) b Q (ci i.2 d V))⟩
    ·cases e
  ·cases e
 ·cases e
theorem yT{t:TypeId}{v u:Value}(h:(Instr.loadAt t v).run P w= .ok u w):Sem.run P (do loadVar t (←asAddr v)) w= .ok u w:=by
 unfold Instr.loadAt at h;rw[Sem.run_bind]at h ⊢;unfold Instr.sureAddr at h
 split at h
 ·exact h
 ·exfalso;have:Sem.run P (stuck "an address expected (no nilCheck in front?)":Sem Addr) w= .halt (.stuck "an address expected (no nilCheck in front?)") w:=rfl;rw[this]at h
  cases h
theorem BP{R:Type}{r:R}(B:pR P X.tt){τ:Ty}{o:ResultVar}{k:τ.den→aD→Option R}(l:HR w0 Z0 Zp h g w)(c:∀t,AR w w0.heap.size Zp h g (look ar t s.env) (a.tmps.getD t undef))(e:hU.resK X s τ o h k=some r):
  ∃v x i g1,(ql a.tmps o).run P w= .ok v w∧k x i=some r∧HR w0 Z0 Zp i g1 w∧Le Zp h g w i g1 w∧Fz h g i g1∧iM w g1.Z ay τ x v:=by
 unfold hU.resK at e
 split at e
 ·rename_i t;obtain⟨x,i,g1,j⟩:=BO l (c t) e;exact⟨_,x,i,g1,rfl,j⟩
 ·rename_i b t
  split at e
  ·rename_i d D;have T:=B _ (kK D);rw[HM.run_eq]at e
   cases n:(u4 d (look ar b s.env)).eval s.next h []with
   |none=>rw[n]at e;cases e
   |some q=>
    obtain⟨F,i,E⟩:=q;rw[n]at e;obtain⟨rfl,u,j,p⟩:=r2 l T (c b) n;obtain⟨x,y,g1,z⟩:=BO l p e;exact⟨u,x,y,g1,yT j,z⟩
  ·cases e
theorem sZ{R:Type}{r:R}(q:pR P X.tt):∀(rs:List Ty) (d:List ResultVar) (h:aD) (g:G) (k:(eo rs).den→aD→Option R),HR w0 Z0 Zp h g w→(∀t,AR w w0.heap.size Zp h g (look ar t s.env) (a.tmps.getD t undef))→hU X s rs d h k=some r→
  ∃vs x i g1,(d.mapM (ql a.tmps)).run P w= .ok vs w∧k x i=some r∧HR w0 Z0 Zp i g1 w∧Le Zp h g w i g1 w∧iN w g1.Z ay rs x vs
 |[],[],h,g,k,c,b,e=>⟨[],(),h,g,rfl,e,c,Le.refl _ _ _ _,rfl⟩
 |[],_::_,h,g,k,c,b,e=>by cases e
 |[τ],[],h,g,k,c,b,e=>by cases e
 |[τ],[K],h,g,k,c,b,e=>by
  obtain⟨v,x,i,g1,l,n,o,j,D,p⟩:=BP q c b e;exact⟨[v],x,i,g1,by simp[l],n,o,j,v,rfl,p⟩
 |[τ],_::_::_,h,g,k,c,b,e=>by cases e
 |τ::σ::rs,[],h,g,k,c,b,e=>by cases e
 |τ::σ::rs,K::d,h,g,k,c,b,e=>by
  obtain⟨v,x,i,g1,l,n,o,j,D,p⟩:=BP q c b e;obtain⟨vs,y,E,B,F,H,I,u,J⟩:=sZ q (σ::rs) d i g1 _ o (fun t=>AR.mono j _ _ (b t)) n;exact⟨v::vs,(x,y),E,B,by simp[Sem.run_bind,l,F],H,I,j.trans u,v,vs,rfl,iM.mono u.z (fun _ _ h=>h.elim) p,J⟩
theorem mf.Hf{Z p:aL}(rs:List Ty)(x:(eo rs).den)(vs:List Value)(h:iN w Z p rs x vs):mf w Z p rs x (F6 vs):=by
 match rs,x,h with
 |[],x,h=>have h:vs=[]:=h;subst h;exact⟨[],rfl,rfl⟩
 |[τ],x,⟨v,e,d⟩=>subst e;exact d
 |[τ,σ],x,⟨v,i,e,d,u,j,l⟩=>subst j;subst e;exact⟨[v,u],rfl,v,[u],rfl,d,u,rfl,l⟩
 |τ::σ::ρ::rs,x,⟨v,i,e,d,u,b,j,l⟩=>subst j;subst e;exact⟨v::u::b,rfl,v,_,rfl,d,u,b,rfl,l⟩
theorem BQ:∀(ps:List Ty) (x:(eo ps).den) (vs:List Value) (n:Nat),iN w g.Z Zp ps x vs→∀t,∃v,AR w w0.heap.size Zp h g (look ar t (et n (lc ps x))) v∧(t<n∨n+vs.length≤t∨vs[t -n]? =some v)∧(t<n∨n+vs.length≤t→look ar t (et n (lc ps x))=ar)
 |[],x,vs,n,b,t=>by
  have b:vs=[]:=b;subst b;exact⟨undef,⟨_,[],rfl,trivial,rfl⟩,by simp;omega,fun _=>rfl⟩
 |[τ],x,vs,n,⟨v,e,b⟩,t=>by
  subst e;show ∃j,AR w w0.heap.size Zp h g (look ar t [(n,tP τ x)]) j∧_∧(_→look ar t [(n,tP τ x)]=ar);rw[ax]
  by_cases d:n=t
  ·subst d;rw[if_pos rfl];exact⟨v,b.toVR,by simp,fun h=>by simp at h;omega⟩
  ·rw[if_neg d];exact⟨undef,⟨_,[],rfl,trivial,rfl⟩,by simp;omega,fun _=>rfl⟩
 |τ::σ::ps,x,vs,n,⟨v,i,e,b,o⟩,t=>by
  subst e;show ∃j,AR w w0.heap.size Zp h g (look ar t ((n,tP τ x.1)::et (n+1) (lc (σ::ps) x.2))) j∧_∧(_→look ar t ((n,tP τ x.1)::et (n+1) (lc (σ::ps) x.2))=ar);rw[ax]
  by_cases d:n=t
  ·subst d;rw[if_pos rfl];exact⟨v,b.toVR,by simp,fun h=>by simp at h;omega⟩
  ·rw[if_neg d];obtain⟨u,k,c,l⟩:=BQ (σ::ps) x.2 i (n+1) o t;refine⟨u,k,?_,fun h=>l (by simp at h ⊢;omega)⟩;rcases c with c |c |c
   ·exact .inl (by omega)
   ·exact .inr (.inl (by simp;omega))
   ·by_cases p:t<n+1
    ·exact .inl (by omega)
    ·refine .inr (.inr ?_);rw[show t -n=(t -(n+1))+1 by omega];simpa using c
theorem Jl{Z:aL}{e0:Ty}(B:0<e0.size){x:List e0.den}{v:Value}(i:iM w Z Zp (.sl e0) x v)(o:g.Z=Z):
  AR w w0.heap.size Zp h g (.v false [.sl e0 x .nn]) v∨(x=[]∧AR w w0.heap.size Zp h g (.v false [.sl e0 [] .nl]) v):=by
 have i:PR w Z Zp (.sl e0) x [v]:=i;have d:=i;obtain⟨c,p,k,q,F,r,t⟩:=i
 cases q
 cases c with
 |some b=>exact .inl (AR.eU ⟨by rw[o];exact d,⟨_,_,_,rfl⟩⟩)
 |none=>
  have j:k=[]:=by
   cases k with
   |nil=>rfl
   |cons u k=>
    obtain⟨b,E,z,_⟩:=t (by simp)
    cases z
  subst j;have D:x=[]:=by
   have:=bm.length (PR.length e0) _ _ r
   cases x with
   |nil=>rfl
   |cons y l=>
    have n:0<aa (y::l)*e0.size:=Nat.mul_pos (Nat.succ_pos _) B;rw[←this]at n;exact absurd n (by simp)
  subst D;exact .inr ⟨rfl,AR.eU ⟨by rw[o];exact d,⟨_,_,rfl⟩⟩⟩
def vZ(w:World):W0:=⟨w,fun _=>False,fun _ _=>none,fun _=>none,fun _=>True⟩
def wa(Z:aL)(l:List (Nat×GK)):G:=⟨fun o=>o∈l.map (·.1),Z,fun _=>none,fun _=>0,fun _ _=>none⟩
theorem mG(p:Nat):∀l:List (Nat×GK),look .dead p (fl l)= .dead∨(p∈l.map (·.1)∧∃K,(p,K)∈l∧look .dead p (fl l)= .gh true K [])
 |[]=> .inl rfl
 |(c,K)::r=>by
  show look .dead p ((c,.gh true K [])::fl r)= .dead∨(p∈((c,K)::r).map (·.1)∧∃b,(p,b)∈(c,K)::r∧look .dead p ((c,.gh true K [])::fl r)= .gh true b []);rw[ax]
  split
  ·rename_i k;subst k;exact .inr ⟨by simp,K,by simp,rfl⟩
  ·rcases mG p r with h |⟨d,b,i,j⟩
   ·exact .inl h
   ·exact .inr ⟨by simp only[aQ,List.mem_cons];exact .inr d,b,by simp[i],j⟩
theorem HR.start(w:World)(Z Zp:aL)(L:∀b i,Z b i→b<w.heap.size)(D:∀b i,Zp b i→b<w.heap.size)(l:List (Nat×GK))(E:l.all (fun k=>k.2.ok)=true):HR (vZ w) Z Zp (fl l) (wa Z l) w:=by
 have d:∀c wr K H,look .dead c (fl l)= .gh wr K H→wr=true∧H=[]∧K.ok=true:=by
  intro c wr K H u;rcases mG c l with h |⟨j,I,r,y⟩
  ·rw[h]at u;cases u
  ·rw[y]at u;cases u;rw[bg]at E;exact⟨rfl,rfl,E _ r⟩
 have t:∀c id b,¬ GL (fl l) (wa Z l) c id b:=fun c id b ⟨wr,K,H,x,e,j,r,y,O⟩=>by cases y
 refine⟨⟨rfl,rfl,rfl,aq _,fun _ _ _=>rfl⟩,fun o=> ?_,fun o J=> ?_,fun o b _ hb=>(by cases hb),fun o p b _ _ hb _=>(by cases hb),fun o b i _ hb=>(by cases hb),fun o b i _ hb=>(by cases hb),L,fun b i _ h=> .inl h,fun b i h=>h,fun b i h=>⟨D b i h,fun h=>h⟩,
  ⟨fun c wr K H id x j r=> ?_,fun _ _ _ _ _ _ _=>rfl,fun c id b h=>absurd h (t c id b),fun c K H id x e _ _ h=>(by cases h),fun c id N M b h=>absurd h (t c id b),fun c id b i h=>absurd h (t c id b),fun c id b o h=>absurd h (t c id b),fun c wr V H id e _ h=>(by cases h),fun c id e h=>h,fun c K H h=> ?_,fun c id b i h=>absurd h (t c id b),fun c wr K H h=>(d c wr K H h).2.2,fun _ _ _ _=>trivial,fun c id e h=>(by cases h)⟩⟩
 ·rcases mG o l with h |⟨_,I,_,h⟩
  ·rw[h];trivial
  ·rw[h];rfl
 ·rcases mG o l with h |⟨j,_⟩
  ·exact h
  ·exact absurd j J
 ·rw[(d c wr K H j).2.1]at r;simp at r
 ·have:=(d c false K H h).1;cases this
theorem fa{f:FuncId}{fn:Func}{e0 eT:Ty}{F:List e0.den→Option (List eT.den)}(hm:P.follows .mixedOrders=true)(hX:tU P X)(hf:P.funcs[f]? =some fn)(hn:(fn.name== "runtime.NumGoroutine")=false)(M:fn.body.isNone=false)(O:eT.aX=true)(hs:0<e0.size)
  (hF:∀x l,F x=some l→gd X fn eT [.v false [.sl e0 x .nn]]=some l∧(x=[]→gd X fn eT [.v false [.sl e0 [] .nl]]=some l)):
  gu P f ⟨[.sl e0],eT,F⟩:=by
 refine⟨⟨fn,hf,hn,M⟩,O,fun w0 Z Zp x r args hz Hg ha e1=> ?_⟩;obtain⟨k,B⟩:∃k:G,k=wa Z []:=⟨_,rfl⟩;have hZ:k.Z=Z:=by rw[B];rfl
 obtain⟨v,rfl,hv⟩:=ha;obtain⟨I,V,e⟩:∃I,AR w0 w0.heap.size Zp [] k I v∧gd X fn eT [I]=some r:=by
  rcases Jl (w0:=vZ w0) (h:=[]) hs hv hZ with H |⟨H,n⟩
  ·exact⟨_,H,(hF x r e1).1⟩
  ·exact⟨_,n,(hF x r e1).2 H⟩
 unfold gd at e
 split at e
 ·rename_i c t W Q E;refine calls_of_wp hf W ?_;have Q:X.nt≤fn.ntmps:=by simpa[Nat.ble_eq]using Q
  have hR:HR (vZ w0) Z Zp [] k w0:=by rw[B];exact HR.start w0 Z Zp hz Hg [] rfl
  have N:∀t,AR w0 w0.heap.size Zp [] k (look ar t (et 0 [I])) (([v].toArray++Array.replicate (fn.ntmps - [v].toArray.size) undef).getD t undef):=by
   intro t;show AR w0 w0.heap.size Zp [] k (look ar t [(0,I)]) _;rw[ax]
   by_cases S:0=t
   ·subst S;rw[if_pos rfl];have:([v].toArray++Array.replicate (fn.ntmps - [v].toArray.size) undef).getD 0 undef=v:=by
     rw[aN,Array.getElem?_append_left (by simp)];simp
    rw[this];exact V
   ·rw[if_neg S];exact⟨_,[],rfl,trivial,rfl⟩
  refine vY hX hm c _ r _ _ k _ w0 e ⟨N,hR,?_,rfl⟩ (fun p R=>by rw[B]at R;exact(by simp[wa]at R)) fun ex s g a w j q zB=> ?_
  ·simp;omega
  ·have u:(match look ar t s.env with
     |.v false [c]=>(A9 eT c s.heap).map (·.1)
     |_=>none)=some r→a.defers=[]∧∃v,(results fn a.tmps).run P w= .ok v w∧∃v' ob,Ending.returned v= .returned v'∧w0.Extends w∧PR w (FG Z w0 w ob (r.length*eT.size)) ay (.sl eT) r [v']∧FH w0 w eT.size r.length ob v':=by
    intro j;have y:(fn.results.toList.mapM (ql a.tmps)).run P w= .ok [a.tmps.getD t undef] w:=by
     rw[E];simp[ql]
    have d:=q.env t
    split at j
    ·rename_i c W;rw[W]at d;have d:=d.c;unfold A9 at j
     split at j
     ·cases j;have d:a.tmps.getD t undef= .slice none 0 0:=d;refine⟨q.defers,_,j4 fn a.tmps _ y,_,none,rfl,q.hr.ext.world (fun _ h=>h),?_,.inl ⟨rfl,d,rfl⟩⟩;show PR w _ _ (.sl eT) [] [a.tmps.getD t undef];rw[d];exact⟨none,0,[],rfl,aq _,rfl,fun h=>absurd rfl h⟩
     ·rename_i e' l' o _
      split at j
      ·rename_i z
       split at j
       ·rename_i l hl
        cases j;obtain⟨rfl,rfl⟩:=eH hl;obtain⟨R,S⟩:=d;have hT:=S.2 z;refine⟨q.defers,_,j4 fn a.tmps _ y,_,g.hm o,rfl,q.hr.ext.world (fun _ h=>h),?_,?_⟩
        ·refine PR.aX (.sl e') _ _ (by simpa[Ty.aX]using O) (PR.mono (Z:=g.Z) (fun b i M=>⟨?_,rfl⟩) (bc.refl _ _) _ _ _ R)
         by_cases Y:b<w0.heap.size
         ·exact .inl ((q.hr.me b i Y M).resolve_right (fun h=>h))
         ·refine .inr ⟨by omega,q.hr.nU b i M,fun D=> ?_⟩;have H:=q.hr.oa o b i z D M;rcases hT with⟨n,_⟩|⟨b',J,K,L,n,_,_,_,_,_,_,h9⟩
          ·rw[n]at D;cases D
          ·rw[h9]at H;exact H
        ·rcases hT with⟨n,T,U⟩|⟨b',J,K,L,n,T,U,h5,h6,h7,h8,h9⟩
         ·exact .inl ⟨n,T,U⟩
         ·exact .inr ⟨b',J,K,L,n,T,U,h5,h6,h7,h8⟩
       ·cases j
      ·cases j
     ·cases j
    ·cases j
   cases ex with
   |normal=>exact u j
   |ret=>exact u j
   |exit id=>cases j
 ·cases e
theorem fb{f:FuncId}{fn:Func}{ps rs:List Ty}(hm:P.follows .mixedOrders=true)(O:tU P X)(Q:P.funcs[f]? =some fn)(hn:(fn.name== "runtime.NumGoroutine")=false)(F:fn.body.isNone=false)(K:rs.all Ty.aX=true):
  aw P f ⟨ps,rs,au X fn ps rs⟩:=by
 refine⟨⟨fn,Q,hn,F⟩,K,fun w0 Z Zp x r d hz L ha e=> ?_⟩;replace e:au X fn ps rs x=some r:=e;unfold au at e
 split at e
 ·cases e
 ·cases e
 ·rename_i c hc l;refine calls_of_wp Q hc ?_;rw[ae]at l;obtain⟨l,j⟩:=l;have l:X.nt≤fn.ntmps:=by simpa[Nat.ble_eq]using l
  unfold Bb at j;rw[ae]at j;have j:=j.2;have I:X.loc.all (fun k=>k.2.ok)=true:=by
   rw[bg]at j ⊢;intro k n;have:=j k n;rw[ae]at this;exact this.2
  have J:∀p,p∈X.loc.map (·.1)→p<X.nc:=by
   intro p H;obtain⟨k,n,rfl⟩:=List.mem_map.1 H;rw[bg]at j;have:=j k n;rw[ae]at this;simpa[b9]using this.1
  obtain⟨q,z⟩:∃q:G,q=wa Z X.loc:=⟨_,rfl⟩;have Y:q.Z=Z:=by rw[z];rfl
  have W:HR (vZ w0) Z Zp (fl X.loc) q w0:=by rw[z];exact HR.start w0 Z Zp hz L X.loc I
  have D:∀t,AR w0 w0.heap.size Zp (fl X.loc) q (look ar t (et 0 (lc ps x))) ((d.toArray++Array.replicate (fn.ntmps -d.toArray.size) undef).getD t undef):=by
   intro t;obtain⟨v,N,u,V⟩:=BQ (w:=w0) (w0:=vZ w0) (Zp:=Zp) (g:=q) (h:=fl X.loc) ps x d 0 (by rw[Y];exact ha) t
   by_cases ht:0+d.length≤t
   ·rw[V (.inr ht)];exact⟨_,[],rfl,trivial,rfl⟩
   ·have u:d[t]? =some v:=by
     rcases u with u |u |u
     ·omega
     ·omega
     ·exact u
    have B:t<d.length:=by omega
    have:(d.toArray++Array.replicate (fn.ntmps -d.toArray.size) undef).getD t undef=v:=by
     rw[aN,Array.getElem?_append_left (by simpa using B)];simp[u]
    rw[this];exact N
  refine vY O hm c _ r _ _ q _ w0 e ⟨D,W,?_,rfl⟩ (fun p H=>by rw[z]at H;exact J p H) fun U s g a w n E zB=> ?_
  ·simp;omega
  ·have o:hU X s rs fn.results.toList s.heap (fun r _=>some r)=some r→a.defers=[]∧∃v,(results fn a.tmps).run P w= .ok v w∧∃S,Ending.returned v= .returned S∧w0.Extends w∧mf w (lm Z w0 w) ay rs r S:=by
    intro n;obtain⟨T,y,N,g1,k1,k2,R,k4,k5⟩:=sZ O.tt rs _ _ _ _ E.hr E.env n
    cases k2;refine⟨E.defers,_,j4 fn a.tmps T k1,_,rfl,E.hr.ext.world (fun _ h=>h),?_⟩;have M:bc w w g1.Z (lm Z w0 w):=fun b i F=>⟨by
     by_cases B:b<w0.heap.size
     ·exact .inl ((R.me b i B F).resolve_right (fun h=>h))
     ·exact .inr ⟨by omega,R.nU b i F⟩,rfl⟩
    exact mf.map (p:=fun _=>true) (fun τ x v _ hh=>iM.mono M (bc.refl _ _) hh) _ _ _ (by simp) (mf.Hf rs r T k5)
   cases U with
   |normal=>exact o n
   |ret=>exact o n
   |exit id=>cases n
end
section
variable {P:Program} {w0:W0} {w:World} {Z0 Zp:aL} {g:G} {X:Cx} {a:Act} {s:St} {h h':aD}
theorem HR.only(R:HR w0 Z0 Zp h g w)(u:∀o,look .dead o h'=look .dead o h∨look .dead o h'= .dead):HR w0 Z0 Zp h' g w:=by
 have back:∀o,look .dead o h'≠.dead→look .dead o h'=look .dead o h:=fun o d=>(u o).resolve_right d;have r:∀o,look .dead o h'≠.dead→look .dead o h≠.dead:=fun o d=>back o d▸d;have L:Le Zp h g w h' g w:=⟨fun _ h=>h,bc.refl _ _,bc.refl _ _,fun o _=>by
  rcases u o with j |j
  ·rw[j];exact Ob.to.refl _
  ·exact .inl j,fun _ _ _=>rfl,fun _ _ _=>⟨rfl,fun _ _=>rfl⟩,fun _ _ _ h=>h⟩
 refine⟨R.ext,fun o=> ?_,fun o d=> ?_,fun o b l hb=>R.home o b (r o l) hb,fun o p b l D hb y=>R.ei o p b (r o l) (r p D) hb y,fun o b i d hb=>R.dC o b i (back o (fun l=>by rw[l]at d;cases d)▸d) hb,fun o b i d hb=>R.oa o b i (back o (fun l=>by rw[l]at d;cases d)▸d) hb,R.nU,R.me,R.z0,R.zp,
  R.gh.Ig (fun c wr K H t=>(back c (by rw[t];simp))▸t) rfl R.gh.dC (fun c id b o E l=>R.gh.loc c id b o E (r o l)) (fun c id K x I t=>gi.move (w':=w) (g':=g) (fun _ _ h=>⟨h,rfl⟩) (fun _ _ _ h=>h) (fun _ _=>rfl) K x I t)⟩
 ·rcases u o with j |j
  ·rw[j];exact p2.mono L (.inr rfl) (fun _ _ _=>rfl) (R.ob o)
  ·rw[j];trivial
 ·rcases u o with j |j
  ·rw[j];exact R.dead o d
  ·exact j
theorem yU{R:Type}{r:R}{V:VT}{D:A}{v:Value}{k:V.den→aD→Option R}(I:HR w0 Z0 Zp h g w)(J:AR w w0.heap.size Zp h g D v)(e:fT.valK s V D h k=some r):
  ∃x d g1,k x d=some r∧HR w0 Z0 Zp d g1 w∧Le Zp h g w d g1 w∧AR w w0.heap.size Zp d g1 (kJ V x) v:=by
 unfold fT.valK at e
 split at e
 ·rename_i σ c x k
  split at e
  ·rename_i K H W
   split at e
   ·rename_i M T L
    cases B:IA M x with
    |none=>rw[B]at e;cases e
    |some q=>
     rw[B]at e;obtain⟨g1,N,j,f1,Y⟩:=zF I J.c W T L B;exact⟨q.1,_,g1,e,N,j,AR.eU ⟨PR.aX (.sl σ) _ _ (by simpa[Ty.aX]using L) Y,trivial⟩⟩
   ·cases e
  ·cases e
 ·rename_i F n _
  split at e
  ·rename_i t;rw[ae]at t;rw[HM.run_eq]at e;obtain⟨vs,u,d,S⟩:=VR.list J
   cases y:(di true n fun n=> .ret (.v F n)).eval s.next h []with
   |none=>rw[y]at e;cases e
   |some q=>
    rw[y]at e;obtain⟨o,p,E,L3,Q,O,l,U,i⟩:=cd _ _ h g _ _ _ I u y;have:=cm Q;subst this;have e:(match V.bp o with
     |some x=>k x p
     |none=>none)=some r:=e
    split at e
    ·rename_i x Z;refine⟨x,p,E,e,O,l,?_⟩;have b:=VT.eX t.2 i Z;have z:=toBeq t.1;show VR w w0.heap.size Zp p E V.isAgg (V.cells x) v;rw[←z]
     cases F with
     |true=>exact⟨vs,d rfl,b⟩
     |false=>rw[S rfl]at b;exact b
    ·cases e
  ·cases e
 ·cases e
theorem yV{R:Type}{r:R}(B:pR P X.tt){V:VT}{o:ResultVar}{k:V.den→aD→Option R}(l:HR w0 Z0 Zp h g w)(c:∀t,AR w w0.heap.size Zp h g (look ar t s.env) (a.tmps.getD t undef))(e:fT.resK X s V o h k=some r):
  ∃v x i g1,(ql a.tmps o).run P w= .ok v w∧k x i=some r∧HR w0 Z0 Zp i g1 w∧Le Zp h g w i g1 w∧AR w w0.heap.size Zp i g1 (kJ V x) v:=by
 unfold fT.resK at e
 split at e
 ·rename_i t;obtain⟨x,i,g1,j⟩:=yU l (c t) e;exact⟨_,x,i,g1,rfl,j⟩
 ·rename_i b t
  split at e
  ·rename_i d D;have T:=B _ (kK D);rw[HM.run_eq]at e
   cases n:(u4 d (look ar b s.env)).eval s.next h []with
   |none=>rw[n]at e;cases e
   |some q=>
    obtain⟨F,i,E⟩:=q;rw[n]at e;obtain⟨rfl,u,j,p⟩:=r2 l T (c b) n;obtain⟨x,y,g1,z⟩:=yU l p e;exact⟨u,x,y,g1,yT j,z⟩
  ·cases e
theorem qm{R:Type}{r:R}(q:pR P X.tt):∀(rs:List VT) (d:List ResultVar) (h:aD) (g:G) (k:(iz rs).den→aD→Option R),HR w0 Z0 Zp h g w→(∀t,AR w w0.heap.size Zp h g (look ar t s.env) (a.tmps.getD t undef))→fT X s rs d h k=some r→
  ∃vs x i g1,(d.mapM (ql a.tmps)).run P w= .ok vs w∧k x i=some r∧HR w0 Z0 Zp i g1 w∧Le Zp h g w i g1 w∧kr w w0.heap.size Zp i g1 rs x vs
 |[],[],h,g,k,c,b,e=>⟨[],(),h,g,rfl,e,c,Le.refl _ _ _ _,rfl⟩
 |[],_::_,h,g,k,c,b,e=>by cases e
 |[V],[],h,g,k,c,b,e=>by cases e
 |[V],[I],h,g,k,c,b,e=>by
  obtain⟨v,x,i,g1,l,n,o,j,p⟩:=yV q c b e;exact⟨[v],x,i,g1,by simp[l],n,o,j,v,rfl,p⟩
 |[V],_::_::_,h,g,k,c,b,e=>by cases e
 |V::U::rs,[],h,g,k,c,b,e=>by cases e
 |V::U::rs,I::d,h,g,k,c,b,e=>by
  obtain⟨v,x,i,g1,l,n,o,j,p⟩:=yV q c b e;obtain⟨vs,y,B,z,D,E,F,u,H⟩:=qm q (U::rs) d i g1 _ o (fun t=>AR.mono j _ _ (b t)) n;exact⟨v::vs,(x,y),B,z,by simp[Sem.run_bind,l,D],E,F,j.trans u,v,vs,rfl,AR.mono u _ _ p,H⟩
theorem yW{base:Nat}:∀(rs:List VT) (x:(iz rs).den) (vs:List Value),kr w base Zp h g rs x vs→bm (fun(p:Bool×List C) d=>∃u,d=[u]∧VR w base Zp h g p.1 p.2 u) (px rs x) vs
 |[],_,_,i=>i
 |[V],x,_,⟨v,e,c⟩=>⟨[v],[],by simp[e],⟨v,rfl,c⟩,rfl⟩
 |V::U::r,x,_,⟨v,b,e,c,j⟩=>⟨[v],b,by simp[e],⟨v,rfl,c⟩,yW (U::r) x.2 b j⟩
theorem Dp{base:Nat}(rs:List VT)(x:(iz rs).den)(vs:List Value)(b:kr w base Zp h g rs x vs):AR w base Zp h g (jZ rs x) (F6 vs):=by
 match rs,x,b with
 |[],x,b=>have b:vs=[]:=b;subst b;exact⟨[],rfl,rfl⟩
 |[V],x,⟨v,e,k⟩=>subst e;exact k
 |V::U::r,x,b=>
  have l:=yW _ _ _ b;obtain⟨v,d,e,k,j⟩:=b;have:∃u c,d=u::c:=by
   cases r with
   |nil=>obtain⟨u,i,_⟩:=j;exact⟨u,[],i⟩
   |cons _ _=>obtain⟨u,c,i,_⟩:=j;exact⟨u,c,i⟩
  obtain⟨u,c,rfl⟩:=this;subst e;exact⟨v::u::c,rfl,l⟩
theorem yX:∀(ps:List VT) (x:(iz ps).den) (vs:List Value) (n:Nat),kr w w0.heap.size Zp h g ps x vs→∀t,∃v,AR w w0.heap.size Zp h g (look ar t (et n (jd ps x))) v∧(t<n∨n+vs.length≤t∨vs[t -n]? =some v)∧(t<n∨n+vs.length≤t→look ar t (et n (jd ps x))=ar)
 |[],x,vs,n,b,t=>by
  have b:vs=[]:=b;subst b;exact⟨undef,⟨_,[],rfl,trivial,rfl⟩,by simp;omega,fun _=>rfl⟩
 |[V],x,vs,n,⟨v,e,b⟩,t=>by
  subst e;show ∃j,AR w w0.heap.size Zp h g (look ar t [(n,kJ V x)]) j∧_∧(_→look ar t [(n,kJ V x)]=ar);rw[ax]
  by_cases d:n=t
  ·subst d;rw[if_pos rfl];exact⟨v,b,by simp,fun h=>by simp at h;omega⟩
  ·rw[if_neg d];exact⟨undef,⟨_,[],rfl,trivial,rfl⟩,by simp;omega,fun _=>rfl⟩
 |V::U::ps,x,vs,n,⟨v,i,e,b,o⟩,t=>by
  subst e;show ∃j,AR w w0.heap.size Zp h g (look ar t ((n,kJ V x.1)::et (n+1) (jd (U::ps) x.2))) j∧_∧(_→look ar t ((n,kJ V x.1)::et (n+1) (jd (U::ps) x.2))=ar);rw[ax]
  by_cases d:n=t
  ·subst d;rw[if_pos rfl];exact⟨v,b,by simp,fun h=>by simp at h;omega⟩
  ·rw[if_neg d];obtain⟨u,k,c,l⟩:=yX (U::ps) x.2 i (n+1) o t;refine⟨u,k,?_,fun h=>l (by simp at h ⊢;omega)⟩;rcases c with c |c |c
   ·exact .inl (by omega)
   ·exact .inr (.inl (by simp;omega))
   ·by_cases p:t<n+1
    ·exact .inl (by omega)
    ·refine .inr (.inr ?_);rw[show t -n=(t -(n+1))+1 by omega];simpa using c
theorem s9:∀(l:List (Nat×GK)) (y:cJ l),vl h l=some y→∀p j,cA true l y p=some j→look .dead p h=j
 |[],_,_,p,j,k=>by cases k
 |(c,K)::r,y,i,p,j,k=>by
  unfold vl at i
  split at i
  ·rename_i n H t
   split at i
   ·rename_i x z o u
    cases i;obtain⟨q,rfl⟩:=cB o;subst q;have b:(if c=p then some (Ob.gh true n H)else cA true r z p)=some j:=k;clear k
    by_cases d:c=p
    ·rw[if_pos d]at b;subst d
     cases b;exact t
    ·rw[if_neg d]at b;exact s9 r z u p j b
   ·cases i
  ·cases i
theorem se{pm d:Nat→Nat→Option (Nat×Nat×Nat×Nat)}{l:List Nat}(n:∀c id e,c∉l→pm c id=some e→d c id=some e):∀(q:List (Nat×Nat)) (a:List Nat) (vs:List Value),(q.all fun p=> !(l.contains p.1))=true→iL pm q a vs→iL d q a vs
 |[],[],_,_,h=>h
 |p::q,i::a,_,j,⟨e,b,o,k,r⟩=>by
  simp only[List.all_cons,ae]at j;exact⟨e,b,o,⟨n _ _ _ (by simpa using j.1) k.1,k.2⟩,se n q a b j.2 r⟩
 |[],_::_,_,_,h=>h.elim
 |_::_,[],_,_,h=>h.elim
theorem Ty.F7{base base':Nat}{g':G}(t:∀b i,g.Z b i→g'.Z b i):∀(τ:Ty) (x:τ.den) (vs:List Value),bG w base Zp h g (τ.cells x) vs→bG w base' Zp h' g' (τ.cells x) vs
 |.bool,_,_,⟨v,d,e,p,r⟩=>⟨v,d,e,p,r⟩
 |.int _,_,_,⟨v,d,e,p,r⟩=>⟨v,d,e,p,r⟩
 |.str,_,_,⟨v,d,e,p,r⟩=>⟨v,d,e,p,r⟩
 |.sl σ,l,_,⟨v,d,e,p,r⟩=>⟨v,d,e,⟨PR.mono (fun b i hb=>⟨t b i hb,rfl⟩) (bc.refl _ _) (.sl σ) l [v] p.1,trivial⟩,r⟩
 |.pair a b,x,vs,E=>by
  obtain⟨I,rs,e,p,r⟩:=bG.split (a.cells x.1) (b.cells x.2) vs E;subst e;exact bG.append _ _ _ _ (Ty.F7 t a _ _ p) (Ty.F7 t b _ _ r)
 |.unit,_,_,E=>E
 |.ref σ,x,_,⟨v,d,e,⟨b,H,I,p,r,D⟩,K⟩=>⟨v,d,e,⟨b,H,I,p,PR.mono (fun b i hb=>⟨t b i hb,rfl⟩) (bc.refl _ _) σ x I r,fun j u J=>⟨(D j u J).1,(D j u J).2.imp (t _ _) id⟩⟩,K⟩
 |.fn _,_,_,⟨v,d,e,⟨y,p,r⟩,D⟩=>⟨v,d,e,⟨y,p,r⟩,D⟩
 |.cl f σ,x,_,⟨v,d,e,p,r⟩=>⟨v,d,e,PR.mono (fun b i hb=>⟨t b i hb,rfl⟩) (bc.refl _ _) (.cl f σ) x [v] p,r⟩
theorem VT.n1{base base':Nat}{g':G}{l:List Nat}(E:∀b i,g.Z b i→g'.Z b i)(y:∀c id e,c∉l→g.pm c id=some e→g'.pm c id=some e):∀(V:VT) (x:V.den) (vs:List Value),V.tR l=true→bG w base Zp h g (V.cells x) vs→bG w base' Zp h' g' (V.cells x) vs
 |.data τ,x,vs,_,p=>Ty.F7 E τ x vs p
 |.gp c H,none,vs,_,p=>p
 |.gp c H,some id,vs,j,⟨v,d,e,⟨q,r,t⟩,u⟩=>⟨v,d,e,⟨q,y _ _ _ (by simpa[VT.tR]using j) r,t⟩,u⟩
 |.gs c,none,vs,_,p=>p
 |.gs c,some (id,a,n),vs,j,⟨v,d,e,⟨b,k,D,J,o,r,t⟩,u⟩=>⟨v,d,e,⟨b,k,D,J,o,y _ _ _ (by simpa[VT.tR]using j) r,t⟩,u⟩
 |.gm c,none,vs,_,p=>p
 |.gm c,some id,vs,j,⟨v,d,e,⟨q,r,t⟩,u⟩=>⟨v,d,e,⟨q,y _ _ _ (by simpa[VT.tR]using j) r,t⟩,u⟩
 |.cl _ _ _,none,vs,_,p=>p
 |.cl _ _ _,some q,vs,j,⟨v,d,e,⟨a,b,r,t,u⟩,I⟩=>by
  simp only[VT.tR,ae]at j;exact⟨v,d,e,⟨a,b,r,se y _ _ _ j.1 t,se y _ _ _ j.2 u⟩,I⟩
 |.pair a b,x,vs,j,p=>by
  have j:(a.tR l&&b.tR l)=true:=j;rw[ae]at j;obtain⟨K,rs,e,r,t⟩:=bG.split (a.cells x.1) (b.cells x.2) vs p;subst e;exact bG.append _ _ _ _ (VT.n1 E y a _ _ j.1 r) (VT.n1 E y b _ _ j.2 t)
 |.unit,_,_,_,p=>p
theorem VT.sf{base base':Nat}{g':G}{l:List Nat}(t:∀b i,g.Z b i→g'.Z b i)(r:∀c id e,c∉l→g.pm c id=some e→g'.pm c id=some e){V:VT}{x:V.den}{v:Value}{d:Bool}(p:V.tR l=true)(j:VR w base Zp h g d (V.cells x) v):VR w base' Zp h' g' d (V.cells x) v:=by
 cases d with
 |true=>obtain⟨u,e,y⟩:=j;exact⟨u,e,VT.n1 t r V x u p y⟩
 |false=>exact VT.n1 t r V x [v] p j
theorem F8{base:Nat}{g':G}{l:List Nat}{c id:Nat}(H:∀b i,g.Z b i→g'.Z b i)(o:∀c id e,c∉l→g.pm c id=some e→g'.pm c id=some e)(F:c∉l):∀(K:GK) (x:K.ga),K.tR l=true→gi w base Zp h g c id K x→gi w base Zp h' g' c id K x
 |.st V,x,z,⟨q,b,d,n,D,r,t,u⟩=>⟨q,b,d,n,D,o _ _ _ F r,t,VT.n1 H o V x _ z u⟩
 |.bf V,x,z,⟨q,b,k,d,n,D,r,t,u,B,M,N⟩=>⟨q,b,k,d,n,D,o _ _ _ F r,t,u,B,M,bm.mono (fun y E Q=>VT.n1 H o V y E z Q) _ _ N⟩
 |.mp k V,x,z,⟨q,O,b,E,L,r,t,u,B⟩=>⟨q,O,b,E,L,o _ _ _ F r,t,u,fun j p e J I=>⟨(B j p e J I).1,VT.sf H o z (B j p e J I).2⟩⟩
theorem wb{base base':Nat}{g':G}{l:List Nat}(o:∀b i,g.Z b i→g'.Z b i)(k:∀c id e,c∉l→g.pm c id=some e→g'.pm c id=some e):∀(ps:List VT) (x:(iz ps).den) (vs:List Value),ps.all (VT.tR l)=true→kr w base Zp h g ps x vs→kr w base' Zp h' g' ps x vs
 |[],_,_,_,p=>p
 |[V],x,_,j,⟨v,e,n⟩=>⟨v,e,VT.sf o k (by simpa using j) n⟩
 |V::U::r,x,_,j,⟨v,d,e,n,q⟩=>by
  simp only[List.all_cons,ae]at j;exact⟨v,d,e,VT.sf o k j.1 n,wb o k (U::r) x.2 d (by simp[j.2.1,j.2.2]) q⟩
theorem pL{base base':Nat}{g':G}{l:List Nat}(y:∀b i,g.Z b i→g'.Z b i)(o:∀c id e,c∉l→g.pm c id=some e→g'.pm c id=some e):∀(rs:List VT) (x:(iz rs).den) (vs:List Value),rs.all (VT.tR l)=true→
  bm (fun(p:Bool×List C) j=>∃u,j=[u]∧VR w base Zp h g p.1 p.2 u) (px rs x) vs→bm (fun(p:Bool×List C) j=>∃u,j=[u]∧VR w base' Zp h' g' p.1 p.2 u) (px rs x) vs
 |[],_,_,_,z=>z
 |[V],x,_,k,⟨j,d,e,⟨u,n,t⟩,q⟩=>⟨j,d,e,⟨u,n,VT.sf y o (by simpa using k) t⟩,q⟩
 |V::U::r,x,_,k,⟨j,d,e,⟨u,n,t⟩,q⟩=>by
  simp only[List.all_cons,ae]at k;exact⟨j,d,e,⟨u,n,VT.sf y o k.1 t⟩,pL y o (U::r) x.2 d (by simp[k.2.1,k.2.2]) q⟩
theorem BR{base base':Nat}{g':G}{l:List Nat}(o:∀b i,g.Z b i→g'.Z b i)(k:∀c id e,c∉l→g.pm c id=some e→g'.pm c id=some e)(rs:List VT)(x:(iz rs).den)(v:Value)(d:rs.all (VT.tR l)=true)(j:AR w base Zp h g (jZ rs x) v):AR w base' Zp h' g' (jZ rs x) v:=by
 match rs,x,d,j with
 |[V],x,d,j=>exact VT.sf o k (by simpa using d) j
 |[],x,d,⟨p,e,n⟩=>exact⟨p,e,pL o k _ _ _ d n⟩
 |V::U::r,x,d,⟨p,e,n⟩=>exact⟨p,e,pL o k _ _ _ d n⟩
theorem HR.Iq(R:HR w0 Z0 Zp h g w){E:Nat→Nat→Option (Nat×Nat×Nat×Nat)}{u:Nat→Prop}{l:List Nat}{g':G}(Q:g'.Z=g.Z)(hm:∀o,g'.hm o=none)(O:∀c,c∉l→∀id,g'.pm c id=g.pm c id)
  (hl:∀o,look .dead o h'= .dead∨(o∉l∧look .dead o h'=look .dead o h∧∃wr K H,look .dead o h= .gh wr K H∧K.tR l=true)∨(o∈l∧∃K,look .dead o h'= .gh true K []∧K.ok=true∧u o∧∀id,g'.pm o id=none))
  (U:∀c,c∉l→w0.ws c→u c) (S:∀o,¬ g'.al o→look .dead o h'= .dead) (N:∀c id e,E c id=some e→g'.pm c id=some e) (M:∀c id e,g'.pm c id=some e→E c id=some e∨u c):
  HR { w0 with pm:=E,ws:=u } Z0 Zp h' g' w:=by
 have gh:∀c wr K H,look .dead c h'= .gh wr K H→(c∉l∧look .dead c h= .gh wr K H∧K.tR l=true)∨(c∈l∧wr=true∧H=[]∧K.ok=true∧u c∧∀id,g'.pm c id=none):=by
  intro c wr K H D;rcases hl c with d |⟨d,j,wr',K',H',y,J⟩|⟨d,K',j,y,J,h5⟩
  ·rw[d]at D;cases D
  ·rw[j,y]at D;cases D;exact .inl ⟨d,y,J⟩
  ·rw[j]at D;cases D;exact .inr ⟨d,rfl,rfl,y,J,h5⟩
 have L:∀c id b,GL h' g' c id b→c∉l∧GL h g c id b:=by
  rintro c id b ⟨wr,K,H,x,e,d,j,y,J⟩;rcases gh c wr K H d with⟨t,r,_⟩|⟨_,_,I,_⟩
  ·exact⟨t,wr,K,H,x,e,r,j,by rw[←O c t];exact y,J⟩
  ·subst I;simp at j
 have hz:∀b i,g.Z b i→g'.Z b i:=fun b i hb=>by rw[Q];exact hb
 have T:∀c id e,c∉l→g.pm c id=some e→g'.pm c id=some e:=fun c id e D he=>by rw[O c D];exact he
 refine⟨⟨R.ext.os,R.ext.tape,R.ext.output,R.ext.size,R.ext.block⟩,fun o=> ?_,S,fun o b _ hb=> ?_,fun o p b _ _ hb _=> ?_,fun o b i _ hb=> ?_,fun o b i _ hb=> ?_,fun b i hb=>R.nU b i (Q▸hb),fun b i d hb=>R.me b i d (Q▸hb),fun b i hb=>hz b i (R.z0 b i hb),R.zp,
  ⟨fun c wr K H id x d j=> ?_,fun c wr K H id d j=> ?_,fun c id b hg=>R.gh.lt c id b (L _ _ _ hg).2,fun c K H id x e d j y=> ?_,fun c id c' W b d j=>R.gh.ei c id c' W b (L _ _ _ d).2 (L _ _ _ j).2,fun c id b i d j=>R.gh.dC c id b i (L _ _ _ d).2 (Q▸j),fun c id b o _ _ hb=> ?_,fun c wr V H id e d j=> ?_,N,fun c K H d=> ?_,fun c id b i d j=>R.gh.Ie c id b i (L _ _ _ d).2 j,fun c wr K H d=> ?_,fun c K H d=> ?_,M⟩⟩
 ·rcases hl o with d |⟨_,j,wr,K,H,y,_⟩|⟨_,K,j,_⟩
  ·rw[d];trivial
  ·rw[j,y];exact hm o
  ·rw[j];exact hm o
 ·rw[hm]at hb;cases hb
 ·rw[hm]at hb;cases hb
 ·rw[hm]at hb;cases hb
 ·rw[hm]at hb;cases hb
 ·rcases gh c wr K H d with⟨t,r,I⟩|⟨_,_,I,_⟩
  ·exact F8 hz T t K x I (R.gh.ga c wr K H id x r j)
  ·subst I;simp at j
 ·rcases gh c wr K H d with⟨t,r,_⟩|⟨_,_,_,_,_,Y⟩
  ·rw[O c t];exact R.gh.fresh c wr K H id r j
  ·exact Y id
 ·rcases gh c true K H d with⟨t,r,_⟩|⟨_,_,I,_⟩
  ·exact R.gh.own c K H id x e r j (by rw[←O c t];exact y)
  ·subst I;simp at j
 ·rw[hm]at hb;cases hb
 ·rcases gh c wr (.bf V) H d with⟨t,r,_⟩|⟨_,_,_,_,_,Y⟩
  ·exact R.gh.Gp c wr V H id e r (by rw[←O c t];exact j)
  ·rw[Y]at j;cases j
 ·rcases gh c false K H d with⟨_,r,_⟩|⟨_,r,_⟩
  ·exact R.gh.ro c K H r
  ·cases r
 ·rcases gh c wr K H d with⟨_,r,_⟩|⟨_,_,_,q4,_⟩
  ·exact R.gh.Ff c wr K H r
  ·exact q4
 ·rcases gh c true K H d with⟨t,r,_⟩|⟨_,_,_,_,q5,_⟩
  ·exact U c t (R.gh.GD c K H r)
  ·exact q5
theorem am{f:FuncId}{fn:Func}{ps rs:List VT}{ws os:List (Nat×GK)}(hm:P.follows .mixedOrders=true)(hX:tU P X)(hf:P.funcs[f]? =some fn)(hn:(fn.name== "runtime.NumGoroutine")=false)(hb:fn.body.isNone=false)(hok:rs.all VT.ok=true):
  be P f ⟨ps,rs,ws,os,aO X fn ps rs ws os⟩:=by
 refine⟨⟨fn,hf,hn,hb⟩,hok,fun w0 Z0 Zp W x hs ho r u j Y Ni Nj e=> ?_⟩;replace e:aO X fn ps rs ws os x hs ho=some (r,u):=e;unfold aO at e
 split at e
 ·rename_i c hc hnt L;refine calls_of_wp hf hc ?_;have hnt:X.nt≤fn.ntmps:=by simpa[Nat.ble_eq]using hnt
  rw[ae,ae]at L;obtain⟨⟨L,I⟩,hlf⟩:=L;unfold Bb at L I;unfold DQ at hlf;rw[ae]at L I;rw[ae,ae]at hlf;obtain⟨⟨KI,OQ⟩,Nk⟩:=hlf;rw[bg]at Nk;have I1:∀p,p∈(ws++os).map (·.1)→p<X.nc:=by
   intro p O;obtain⟨k,hk,rfl⟩:=List.mem_map.1 O;have D:=L.2;rw[bg]at D;have:=D k hk;rw[ae]at this;simpa[b9]using this.1
  have KJ:∀p,p∈X.loc.map (·.1)→p<X.nc:=by
   intro p O;obtain⟨k,hk,rfl⟩:=List.mem_map.1 O;have D:=I.2;rw[bg]at D;have:=D k hk;rw[ae]at this;simpa[b9]using this.1
  obtain⟨l,I6⟩:∃l,l=X.loc.map (·.1):=⟨_,rfl⟩;rw[←I6]at KI OQ Nk KJ;have n:∀p K,(p,K)∈ws++os→p∉l∧K.tR l=true:=fun p K O=>by
   have:=Nk (p,K) O;rw[ae]at this;exact⟨by simpa using this.2,this.1⟩
  have R:∀(wr:Bool) (k:List (Nat×GK)) (y:cJ k) (o:Nat) (U:Ob),cA wr k y o=some U→∃K H,(o,K)∈k∧U= .gh wr K H:=by
   intro wr k
   induction k with
   |nil=>intro y o U hh;cases hh
   |cons q k ih=>
    obtain⟨cc,K⟩:=q;intro y o U hh;unfold cA at hh
    split at hh
    ·rename_i Kr;subst Kr;cases hh;exact⟨K,y.1,by simp,rfl⟩
    ·obtain⟨K',H,E,D⟩:=ih y.2 o U hh;exact⟨K',H,by simp[E],D⟩
  obtain⟨E,OR⟩:∃E,E=bq true ws hs++(bq false os ho++fl X.loc):=⟨_,rfl⟩;have S:∀o,look .dead o E= .dead∨(o∉l∧look .dead o E=look .dead o (bq true ws hs++bq false os ho)∧∃wr K H,look .dead o (bq true ws hs++bq false os ho)= .gh wr K H∧K.tR l=true)∨(o∈l∧∃K,look .dead o E= .gh true K []∧K.ok=true):=by
   intro o;have e2:look .dead o (bq true ws hs++bq false os ho)=(cA true ws hs o).getD ((cA false os ho o).getD .dead):=by
    rw[fC];congr 1;have:=fC false o [] os ho;rw[List.append_nil]at this;exact this
   rw[OR,e2,fC,fC]
   cases T:cA true ws hs o with
   |some U=>
    obtain⟨K,H,Q,rfl⟩:=R _ _ _ _ _ T;exact .inr (.inl ⟨(n _ _ (bA _ Q)).1,rfl,true,K,H,rfl,(n _ _ (bA _ Q)).2⟩)
   |none=>
    cases Nl:cA false os ho o with
    |some U=>
     obtain⟨K,H,Q,rfl⟩:=R _ _ _ _ _ Nl;exact .inr (.inl ⟨(n _ _ (cC _ Q)).1,rfl,false,K,H,rfl,(n _ _ (cC _ Q)).2⟩)
    |none=>
     rcases mG o X.loc with D |⟨D,K,h3,h4⟩
     ·exact .inl D
     ·refine .inr (.inr ⟨I6▸D,K,h4,?_⟩);have:=I.2;rw[bg]at this;have:=this _ h3;rw[ae]at this;exact this.2
  obtain⟨V,F⟩:∃V:G,V={ W with al:=fun o=>W.al o∨o∈l,hm:=fun _=>none,pm:=fun c id=>if c∈l then none else W.pm c id }:=⟨_,rfl⟩;have Mp:∀c,c∉l→∀id,V.pm c id=W.pm c id:=fun c d id=>by rw[F];exact if_neg d
  have OS:∀c,c∈l→∀id,V.pm c id=none:=fun c d id=>by rw[F];exact if_pos d
  obtain⟨w1,N⟩:∃w1:W0,w1={ w0 with pm:=fun c id=>if c∈l then none else w0.pm c id,ws:=fun c=>w0.ws c∨c∈l }:=⟨_,rfl⟩;have hR:HR w1 Z0 Zp E V w0.toWorld:=by
   rw[N];refine Y.Iq (l:=l) (by rw[F]) (fun o=>by rw[F]) Mp (fun o=> ?_) (fun c _ Qq=> .inl Qq) (fun o M=> ?_) (fun c id e B=> ?_) (fun c id e B=> ?_)
   ·rcases S o with q |q |⟨Q,K,q2,q3⟩
    ·exact .inl q
    ·exact .inr (.inl q)
    ·exact .inr (.inr ⟨Q,K,q2,q3,.inr Q,OS o Q⟩)
   ·rw[F]at M;rcases S o with q |⟨_,q,_⟩|⟨q,_⟩
    ·exact q
    ·rw[q];exact Y.dead o (fun hh=>M (.inl hh))
    ·exact absurd (.inr q) M
   ·by_cases d:c∈l
    ·simp[d]at B
    ·simp only[d,if_false]at B;rw[Mp c d];exact Y.gh.old c id e B
   ·by_cases d:c∈l
    ·rw[OS c d]at B;cases B
    ·rw[Mp c d]at B;rcases Y.gh.new c id e B with q |q
     ·exact .inl (by simp only[d,if_false];exact q)
     ·exact .inr (.inl q)
  have Qr:w1.toWorld=w0.toWorld:=by rw[N]
  have ha:kr w0.toWorld w0.heap.size Zp E V ps x j:=wb (l:=l) (fun b i hb=>by rw[F];exact hb) (fun c id e d B=>by rw[Mp c d];exact B) ps x j KI Nj;have Nm:w1.heap.size=w0.heap.size:=by rw[N]
  rw[←OR]at e;have Nn:∀t,AR w0.toWorld w1.heap.size Zp E V (look ar t (et 0 (jd ps x))) ((j.toArray++Array.replicate (fn.ntmps -j.toArray.size) undef).getD t undef):=by
   intro t;rw[Nm];obtain⟨v,E,D,h3⟩:=yX (w:=w0.toWorld) (w0:=w0) (Zp:=Zp) (g:=V) (h:=E) ps x j 0 ha t
   by_cases ht:0+j.length≤t
   ·rw[h3 (.inr ht)];exact⟨_,[],rfl,trivial,rfl⟩
   ·have D:j[t]? =some v:=by
     rcases D with D |D |D
     ·omega
     ·omega
     ·exact D
    have hlt:t<j.length:=by omega
    have:(j.toArray++Array.replicate (fn.ntmps -j.toArray.size) undef).getD t undef=v:=by
     rw[aN,Array.getElem?_append_left (by simpa using hlt)];simp[D]
    rw[this];exact E
  refine vY hX hm c _ (r,u) _ _ V _ w0.toWorld e ⟨Nn,hR,?_,rfl⟩ (fun p O=> ?_) fun ex s g a w hk hS zB=> ?_
  ·simp;omega
  ·rw[F]at O;rcases O with O |O
   ·exact I1 p (Ni p O)
   ·exact KJ p O
  ·have hres:(fT X s rs fn.results.toList s.heap fun r h=>match vl h ws with
     |some y=>some (r,y)
     |none=>none)=some (r,u)→a.defers=[]∧∃v,(results fn a.tmps).run P w= .ok v w∧∃v' g',Ending.returned v= .returned v'∧HR w0 Z0 Zp (bq true ws u) g' w∧AR w w0.heap.size Zp (bq true ws u) g' (jZ rs r) v':=by
    intro hk;obtain⟨vs,y,E,g1,k1,k2,k3,k4,k5⟩:=qm hX.tt rs _ _ _ _ hS.hr hS.env hk
    split at k2
    ·rename_i z hz
     cases k2;have hlk:∀p,look .dead p (bq true ws u)=look .dead p E∨look .dead p (bq true ws u)= .dead:=fun p=>by
      have:=fC true p [] ws u;rw[List.append_nil]at this;rw[this]
      cases T:cA true ws u p with
      |none=>exact .inr rfl
      |some U=>exact .inl (s9 ws u hz p U T).symm
     have Z:=k3.only hlk;obtain⟨g2,J⟩:∃g2:G,g2={ g1 with hm:=fun _=>none,pm:=fun c id=>if c∈l then w0.pm c id else g1.pm c id }:=⟨_,rfl⟩;have Ik:∀c,c∉l→∀id,g2.pm c id=g1.pm c id:=fun c d id=>by rw[J];exact if_neg d
     have OT:∀c,c∈l→∀id,g2.pm c id=w0.pm c id:=fun c d id=>by rw[J];exact if_pos d
     have zK:HR { w1 with pm:=w0.pm,ws:=w0.ws } Z0 Zp (bq true ws u) g2 w:=by
      have hwp:∀c,c∉l→∀id,w1.pm c id=w0.pm c id:=fun c d id=>by rw[N];exact if_neg d
      have OU:∀c,c∉l→w1.ws c→w0.ws c:=fun c d hc=>by rw[N]at hc;exact hc.resolve_right d
      refine Z.Iq (l:=l) (by rw[J]) (fun o=>by rw[J]) Ik (fun o=> ?_) OU (fun o M=>Z.dead o (by rw[J]at M;exact M)) (fun c id e B=> ?_) (fun c id e B=> ?_)
      ·have:=fC true o [] ws u;rw[List.append_nil]at this;rw[this]
       cases T:cA true ws u o with
       |none=>exact .inl rfl
       |some U=>
        obtain⟨K,H,Q,rfl⟩:=R _ _ _ _ _ T;exact .inr (.inl ⟨(n _ _ (bA _ Q)).1,rfl,true,K,H,rfl,(n _ _ (bA _ Q)).2⟩)
      ·by_cases d:c∈l
       ·rw[OT c d];exact B
       ·rw[Ik c d];exact Z.gh.old c id e (by rw[hwp c d];exact B)
      ·by_cases d:c∈l
       ·rw[OT c d]at B;exact .inl B
       ·rw[Ik c d]at B;rcases Z.gh.new c id e B with q |q
        ·exact .inl (by rw[←hwp c d];exact q)
        ·exact .inr (OU c d q)
     rw[N]at zK;refine⟨hS.defers,_,j4 fn a.tmps vs k1,_,g2,rfl,zK,?_⟩;have:=Dp rs r vs k5;exact BR (l:=l) (g:=g1) (fun b i hb=>by rw[J];exact hb) (fun c id e d B=>by rw[Ik c d];exact B) rs r _ OQ this
    ·cases k2
   cases ex with
   |normal=>exact hres hk
   |ret=>exact hres hk
   |exit id=>cases hk
 ·cases e
end
open Go Go.ChangeShapes Go.WideShapes Go.ChangeAt Go.RowKit
def Dq:(τ:Ty)→τ.den→Prop
 |.int k,n=>k.min≤(show Int from n)∧(show Int from n)≤k.max
 |.sl e,l=>∀x:e.den,x∈(show List e.den from l)→Dq e x
 |.pair a b,x=>Dq a x.1∧Dq b x.2
 |.ref a,x=>Dq a x
 |_,_=>True
def eO:(τ:Ty)→τ.den→Nat
 |.bool,_=>1
 |.int _,_=>1
 |.str,s=>aa s+1
 |.sl e,l=>1+((l:List e.den).map (eO e)).sum
 |.pair a b,x=>eO a x.1+eO b x.2
 |.unit,_=>0
 |.ref a,x=>eO a x
 |.fn _,_=>0
 |.cl _ _,_=>0
def partsOf:Nat→Ty→Option (List Ty)
 |0,_=>some []
 |1,τ=>some [τ]
 |k+2,.pair a b=>(partsOf (k+1) b).map (a::·)
 |_+2,_=>none
def Hh:Nat→Ty→Option (List Ty)
 |1,.pair a _=>some [a]
 |k,τ=>partsOf k τ
def wc(P:Program)(f:Ty→TypeId→Bool):Nat→List Field→List Ty→Bool
 |_,[],[]=>true
 |off,a::b,τ::τs=>aJ a.offset off&&aJ (P.cellsOf a.type) τ.size&&f τ a.type&&wc P f (off+τ.size) b τs
 |_,_,_=>false
def rZ(a b:Ty):Bool:=match decEq a b with
 |.isTrue _=>true
 |.isFalse _=>false
theorem j5{a b:Ty}(h:rZ a b=true):a=b:=by
 unfold rZ at h
 split at h
 ·assumption
 ·cases h
def zQ(P:Program):Nat→Ty→TypeId→Bool
 |0,_,_=>false
 |n+1,τ,t=>match P.underlying t with
  |some .bool=>rZ τ .bool
  |some (.int k)=>rZ τ (.int k)
  |some .string=>rZ τ .str
  |some (.slice e)=>match τ with
   |.sl σ=>aJ (P.cellsOf e) σ.size&&Nat.blt 0 σ.size&&zQ P n σ e
   |_=>false
  |some (.struct a)=>aJ (P.cellsOf t) τ.size&&(match Hh a.size τ with
   |some l=>rZ (Kb l) τ&&wc P (zQ P n) 0 a.toList l
   |none=>false)
  |_=>false
structure KK {H:Type} (bk:DataW H→Nat):Prop where
 lit:∀l,1≤bk (.lit l)
 str:∀s,s.length+1≤bk (.lit (.string s))
 nil:1≤bk .nil
 slice:∀es sp,1+(es.map bk).sum≤bk (.slice es sp)
 agg:∀ps,(ps.map bk).sum≤bk (.agg ps)
section
variable {H:Type} {enc:TypeId×Value→H} {P:Program} {w:World} {Zp:aL} {sp:Nat→Bool} {bk:DataW H→Nat}
theorem EF{a:Addr}{n:Nat}{cs:List Value}(h:w.cells? 0 a n=some cs):cs.length=n∧∀j,j<n→w.cell? (a.add j)=cs[j]? :=by
 unfold World.cells? at h;rw[if_pos (Nat.zero_le _)]at h;exact⟨by simpa using mapM_some_length h,fun j b=>mapM_some_get h j j (by simp[b])⟩
theorem EG{a:Addr}{v:Value}(h:w.cell? a=some v):a.spot=none∧a.block<w.heap.size:=by
 refine⟨?_,World.block_lt_of_cell? w a h⟩;unfold World.cell? at h
 split at h
 ·split at h
  ·cases h
  ·rename_i b;simpa using b
 ·cases h
theorem DX{f:Ty→TypeId→Bool}{n:Nat}{cs:List Value}(D:∀τ t cs d ps,f τ t=true→DataW.trod enc P w 0 sp true n t cs=some (d,ps)→∃x:τ.den,PR w (uX w) Zp τ x cs∧Dq τ x∧eO τ x≤bk d):
  ∀(b:List Field) (l:List Ty) (off:Nat) (a:List (DataW H×List MemPlace)),wc P f off b l=true→a.length=b.length→cs.length=off+(eo l).size→
   (∀(i:Nat) (fd:Field),b[i]? =some fd→DataW.trod enc P w 0 sp true n fd.type ((cs.drop fd.offset).take (P.cellsOf fd.type))=a[i]?)→
   ∃x:(eo l).den,PR w (uX w) Zp (eo l) x (cs.drop off)∧Dq (eo l) x∧eO (eo l) x≤((a.map (·.1)).map bk).sum
 |[],[],off,a,_,c,j,_=>⟨(),by
   have:cs.length=off:=by simpa[eo,Ty.size]using j
   show cs.drop off=[];simp[this],trivial,Nat.zero_le _⟩
 |[],_::_,_,_,h,_,_,_=>by cases h
 |_::_,[],_,_,h,_,_,_=>by cases h
 |fd::b,[τ],off,a,h,c,j,p=>by
  simp only[wc,ae]at h;obtain⟨⟨⟨r,u⟩,z⟩,B⟩:=h
  cases b with
  |cons _ _=>cases B
  |nil=>
   match a,c with
   |[x0],_=>
    have g:=p 0 fd rfl;rw[af r,af u]at g;obtain⟨x,o,q,E⟩:=D τ fd.type _ x0.1 x0.2 z (by rw[g];rfl);have k:(cs.drop off).length=τ.size:=by rw[bV,j];show off+τ.size -off=τ.size;omega
    rw[←k,List.take_length]at o;exact⟨x,o,q,by show eO τ x≤_;simpa using E⟩
 |fd::b,τ::σ::l,off,a,h,c,j,p=>by
  simp only[wc,ae]at h;obtain⟨⟨⟨r,u⟩,z⟩,B⟩:=h
  match a,c with
  |x0::a,c=>
   have g:=p 0 fd rfl;rw[af r,af u]at g;obtain⟨x,o,q,E⟩:=D τ fd.type _ x0.1 x0.2 z (by rw[g];rfl);obtain⟨y,F,I,K⟩:=DX D b (σ::l) (off+τ.size) a B (by simpa using c) (by rw[j];show off+(τ.size+(eo (σ::l)).size)=_;omega) (fun i fd J=>p (i+1) fd J);refine⟨(x,y),⟨_,_,?_,o,F⟩,⟨q,I⟩,?_⟩
   ·rw[←List.drop_drop,List.take_append_drop]
   ·show eO τ x+eO (eo (σ::l)) y≤_;simp only[aQ,List.sum_cons];omega
theorem Ir{n:Nat}{σ:Ty}{e:TypeId}{a:Addr}(Q:0<σ.size)(B:P.cellsOf e=σ.size)(D:∀cs d ps,DataW.trod enc P w 0 sp true n e cs=some (d,ps)→∃x:σ.den,PR w (uX w) Zp σ x cs∧Dq σ x∧eO σ x≤bk d):
  ∀(b:List (DataW H×List MemPlace)) (k:Nat),(∀i,i<b.length→(w.cells? 0 (a.add ((k+i)*P.cellsOf e)) (P.cellsOf e)).bind (DataW.trod enc P w 0 sp true n e)=b[i]?)→
   ∃(l:List σ.den) (o:List Value),l.length=b.length∧bm (PR w (uX w) Zp σ) l o∧(∀x,x∈l→Dq σ x)∧(l.map (eO σ)).sum≤((b.map (·.1)).map bk).sum∧∀j u,o[j]? =some u→w.cell? (a.add (k*σ.size+j))=some u
 |[],k,_=>⟨[],[],rfl,rfl,fun _ h=>(by cases h),aq _,fun j u h=>(by simp at h)⟩
 |x0::r,k,h=>by
  have y:=h 0 (by simp);simp only[b8,List.getElem?_cons_zero,Option.bind_eq_some_iff]at y;obtain⟨cs,M,N⟩:=y;obtain⟨x,E,F,R⟩:=D cs x0.1 x0.2 N;obtain⟨g,c⟩:=EF M;obtain⟨l,o,I,J,K,S,L⟩:=Ir Q B D r (k+1) (fun i O=>by have:=h (i+1) (by simpa using O);rw[show k+1+i=k+(i+1)by omega];exact this);refine⟨x::l,cs++o,by simp[I],⟨cs,o,rfl,E,J⟩,?_,?_,?_⟩
  ·intro z t;rcases List.mem_cons.1 t with rfl |t
   ·exact F
   ·exact K z t
  ·simp only[aQ,List.sum_cons];omega
  ·intro j u p;rw[B]at g c
   by_cases q:j<cs.length
   ·rw[aH q]at p;have:=c j (by omega);rw[←p,←this,Addr.add_add]
   ·rw[aY (by omega)]at p;have:=L _ u p;rw[←this,g,Nat.succ_mul];congr 2;omega
theorem zR(B:KK bk):∀(fuel n:Nat) (τ:Ty) (t:TypeId) (cs:List Value) (d:DataW H) (ps:List MemPlace),zQ P n τ t=true→DataW.trod enc P w 0 sp true fuel t cs=some (d,ps)→
  ∃x:τ.den,PR w (uX w) Zp τ x cs∧Dq τ x∧eO τ x≤bk d
 |fuel,0,_,_,_,_,_,h,_=>by cases h
 |fuel,n+1,τ,t,cs,d,ps,h,J=>by
  unfold zQ at h
  split at h
  ·rename_i D;obtain⟨b,rfl,g⟩:=DataW.trod_bool D J
   cases g;have:=j5 h;subst this;exact⟨b,rfl,trivial,B.lit _⟩
  ·rename_i k D;obtain⟨m,rfl,g,X⟩:=DataW.trod_int D J
   cases g;have:=j5 h;subst this;simp only[Lit.wf,ae,decide_eq_true_eq]at X;exact⟨m,rfl,X,B.lit _⟩
  ·rename_i D;obtain⟨s,rfl,g,_⟩:=DataW.trod_string D J
   cases g;have:=j5 h;subst this;refine⟨s.data.toList,?_,trivial,B.str _⟩;show[Value.string s]=[.string ⟨s.data.toList.toArray⟩];simp
  ·rename_i e D
   split at h
   ·rename_i σ;simp only[ae]at h;obtain⟨⟨q,z⟩,M⟩:=h;have q:=af q;have z:0<σ.size:=by simpa[b9]using z
    rcases DataW.trod_slice D J with⟨rfl,g⟩|⟨a,len,L,p,K,m,rfl,rfl,g,_,hlc,_,hel,y,_⟩
    ·cases g;exact⟨[],⟨none,0,[],rfl,aq _,rfl,fun h=>absurd rfl h⟩,fun x g=>(by cases g),B.nil⟩
    ·cases g;obtain⟨l,S,b1,Z,b3,b4,T⟩:=Ir (Zp:=Zp) (bk:=bk) (a:=a) z q (fun cs d ps h=>zR B m n σ e cs d ps M h) p 0 (fun i W=>by rw[bv];exact y i (by omega));refine⟨l,?_,b3,?_⟩
     ·refine⟨some a,L,S,?_,by omega,Z,fun O=> ?_⟩
      ·rw[show len=aa l by omega]
      ·cases S with
       |nil=>exact absurd rfl O
       |cons u S=>
        have U:=T 0 u rfl;rw[Nat.zero_mul,b8]at U;have c:=EG U;simp only[Addr.add,if_true]at c;refine⟨a.block,a.off,?_,fun j u hj=> ?_⟩
        ·obtain⟨b,o,s⟩:=a;simp only at c;rw[c.1]
        ·have q:=T j u hj;rw[Nat.zero_mul,bv]at q;have M:a.add j=⟨a.block,a.off+j,none⟩:=by
          obtain⟨b,o,s⟩:=a;simp only at c;rw[c.1];unfold Addr.add
          split
          ·rename_i h;subst h;rfl
          ·rfl
         rw[M]at q;exact⟨q,c.2⟩
     ·have:=B.slice (p.map (·.1)) (K.map (·.1));show 1+(l.map (eO σ)).sum≤_;omega
   ·cases h
  ·rename_i fs D;simp only[ae]at h;obtain⟨q,z⟩:=h;have q:=af q
   split at z
   ·rename_i l hl;simp only[ae]at z;have V:=j5 z.1;obtain⟨Y,m,rfl,g,N,R,y⟩:=DataW.trod_struct D J
    cases g;have Q:(eo l).size=τ.size:=by
     rw[←V]
     match l with
     |[]=>rfl
     |[a]=>simp[Kb,eo,Ty.size]
     |_::_::_=>rfl
    obtain⟨x,E,I,F⟩:=DX (Zp:=Zp) (bk:=bk) (cs:=cs) (f:=zQ P n) (fun τ t cs d ps h h'=>zR B m n τ t cs d ps h h') fs.toList l 0 Y z.2 (by simpa using R) (by rw[N,q,Q];omega) (fun i fd W=>y i fd (by simpa using W));have hb:=B.agg (Y.map (·.1));subst V;rw[List.drop_zero]at E
    match l,x,E,I,F with
    |[],x,E,I,F=>exact⟨(),E,trivial,Nat.zero_le _⟩
    |[a],x,E,I,F=>exact⟨(x,()),⟨cs,[],by simp,E,rfl⟩,⟨I,trivial⟩,by show eO a x+0≤_;have F:eO a x≤_:=F;omega⟩
    |a::b::r,x,E,I,F=>exact⟨x,E,I,Nat.le_trans F hb⟩
   ·cases z
  ·cases h
 termination_by _ n=>n
theorem BS{n:Nat}{τ:Ty}{t:TypeId}(h:zQ P n τ t=true):(τ.isAgg=true→∃g,P.underlying t=some (.struct g))∧(τ.isAgg=false→∀base v,Value.okWide P w .any base t v→v.cells= #[v]):=by
 cases n with
 |zero=>cases h
 |succ n=>
  unfold zQ at h
  split at h
  ·rename_i a;have:=j5 h;subst this;exact⟨fun h=>(by cases h),fun _ base v c=>by
    cases v<;>first |rfl |simp[Value.okWide,a,Cell.okWide,Cell.ok]at c⟩
  ·rename_i k a;have:=j5 h;subst this;exact⟨fun h=>(by cases h),fun _ base v c=>by
    cases v<;>first |rfl |simp[Value.okWide,a,Cell.okWide,Cell.ok]at c⟩
  ·rename_i a;have:=j5 h;subst this;exact⟨fun h=>(by cases h),fun _ base v c=>by
    cases v<;>first |rfl |simp[Value.okWide,a,Cell.okWide,Cell.ok]at c⟩
  ·rename_i e a
   split at h
   ·exact⟨fun h=>(by cases h),fun _ base v c=>by
     cases v<;>first |rfl |simp[Value.okWide,a,Cell.okWide,Cell.ok]at c⟩
   ·cases h
  ·rename_i g a;refine⟨fun _=>⟨g,a⟩,fun b=> ?_⟩;simp only[ae]at h;obtain⟨_,d⟩:=h
   split at d
   ·rename_i l _;simp only[ae]at d;have i:=j5 d.1;rw[←i]at b
    match l,b with
    |[],b=>cases b
    |[_],b=>cases b
    |_::_::_,b=>cases b
   ·cases d
  ·cases h
def yY(P:Program)(n:Nat):List Ty→List TypeId→Bool
 |[],[]=>true
 |τ::τs,t::a=>zQ P n τ t&&yY P n τs a
 |_,_=>false
theorem ta(B:KK bk){n base:Nat}{τ:Ty}{t:TypeId}{v:Value}{d:DataW H}{ps:List MemPlace}(h:zQ P n τ t=true)(g:DataW.Trod enc P w 0 sp true t v d ps)(a:Value.okWide P w .any base t v):
  ∃x:τ.den,iM w (uX w) Zp τ x v∧Dq τ x∧eO τ x≤bk d:=by
 obtain⟨b,g⟩:=g;obtain⟨x,c,k,l⟩:=zR (Zp:=Zp) B b n τ t _ d ps h g;refine⟨x,?_,k,l⟩;unfold iM
 cases i:τ.isAgg with
 |true=>
  obtain⟨p,o⟩:=(BS (w:=w) h).1 i;unfold Value.okWide at a;rw[o]at a;obtain⟨j,rfl,_,_⟩:=a;exact⟨j.toList,by simp,c⟩
 |false=>
  have:=(BS (w:=w) h).2 i base v a;rw[this]at c;exact c
theorem qn(B:KK bk){n base:Nat}:∀(τs:List Ty) (ts:List TypeId) (vs:List Value) (c:List (DataW H)) (ps:List MemPlace),yY P n τs ts=true→DataW.TrodAll enc P w 0 sp true ts vs c ps→
  (∀(j:Nat) t v,ts[j]? =some t→vs[j]? =some v→Value.okWide P w .any base t v)→∃x:(eo τs).den,iN w (uX w) Zp τs x vs∧Dq (eo τs) x∧eO (eo τs) x≤(c.map bk).sum
 |[],[],vs,c,ps,_,i,_=>by
  obtain⟨rfl,rfl,_⟩:=trodAll_nil i;exact⟨(),rfl,trivial,aq _⟩
 |[],_::_,_,_,_,h,_,_=>by cases h
 |_::_,[],_,_,_,h,_,_=>by cases h
 |[τ],t::ts,vs,c,ps,h,i,a=>by
  simp only[yY,ae]at h;obtain⟨o,r⟩:=h
  cases ts with
  |cons _ _=>cases r
  |nil=>
   obtain⟨v,b,d,g,p,q,rfl,rfl,_,u,z⟩:=trodAll_cons i;obtain⟨rfl,rfl,_⟩:=trodAll_nil z;obtain⟨x,k,l,D⟩:=ta (Zp:=Zp) B o u (a 0 t v rfl rfl);exact⟨x,⟨v,rfl,k⟩,l,by show eO τ x≤_;simpa using D⟩
 |τ::σ::τs,t::ts,vs,c,ps,h,i,a=>by
  simp only[yY,ae]at h;obtain⟨o,r⟩:=h;obtain⟨v,b,d,g,p,q,rfl,rfl,_,u,z⟩:=trodAll_cons i;obtain⟨x,k,l,D⟩:=ta (Zp:=Zp) B o u (a 0 t v rfl rfl);obtain⟨y,E,F,J⟩:=qn B (σ::τs) ts b g q (by simpa[yY]using r) z (fun j t v h I=>a (j+1) t v h I);refine⟨(x,y),⟨v,b,rfl,k,E⟩,⟨l,F⟩,?_⟩;show eO τ x+eO (eo (σ::τs)) y≤_;simp only[aQ,List.sum_cons];omega
theorem oy(u:laidOutB P=true){W l:World}(b:W.Extends l){h:Nat→Bool}:∀(ts:List TypeId) (vs:List Value) (i:List (DataW H)) (ps:List MemPlace),(ts.all fun t=>P.readableRec t&&decide (t<P.types.size))=true→
  DataW.TrodAll enc P W 0 (fun _=>true) true ts vs i ps→(∀p∈ps,p.block<W.heap.size)→(∀p∈ps,h p.block=true)→DataW.TrodAll enc P l 0 h true ts vs i ps
 |[],vs,i,ps,_,o,_,_=>by
  obtain⟨rfl,rfl,rfl⟩:=trodAll_nil o;rfl
 |t::ts,vs,i,ps,j,o,c,g=>by
  obtain⟨v,r,d,n,p,q,rfl,rfl,rfl,y,z⟩:=trodAll_cons o;simp only[List.all_cons,ae,decide_eq_true_eq]at j;have B:Below W.heap.size W l:=⟨b.os,b.tape,b.output,b.size,fun k D=>b.block k D⟩;exact⟨p,q,WideElems.Trod_stays u j.1.1 j.1.2 y (fun x a=>B.same (c x (bA _ a))) (fun x a=>g x (bA _ a)),
   oy u b ts r n q j.2 z (fun x a=>c x (cC _ a)) (fun x a=>g x (cC _ a)),rfl⟩
theorem F9{W c:World}(a:W.Extends c)(b:MemPlace→Prop):W.keptBut c b:=by
 refine⟨a.os,a.output,fun i d=> ?_⟩;rw[a.block i d]
 cases W.heap[i]? with
 |none=>trivial
 |some o=>cases o<;>simp
theorem Ga{f:Func}{s:ChangeSpec}{W l:World}{c:Array Value}{h gs:List (DataW H)}{g:List MemPlace}{tb:TypeId}(N:laidOutB P=true)(Q:(f.params.toList.all fun t=>P.readableRec t&&decide (t<P.types.size))=true)
  (i:f.resultTypes= #[tb]) (u:P.underlying tb=some .bool) (K:s.vars=[]) (F:(s.fn H (h++gs)).results=[.lit (.bool true)]∧(s.fn H (h++gs)).args=h∧(s.fn H (h++gs)).vars=[])
  (B:DataW.Whole enc P f.params.toList s.vars false W c.toList h gs g) (E:W.Extends l):
  s.post enc P f false true false false W c (.bool true) l:=by
 have j:=B.lt;have D:=B;obtain⟨d,S,L,y,rfl,R,T⟩:=B;rw[K]at y;have z:gs=[]∧S=[]:=by
  cases gs with
  |nil=>exact⟨rfl,y⟩
  |cons _ _=>exact y.elim
 obtain⟨rfl,rfl⟩:=z;have o:∀p∈d++[],(fun b=>decide (b<W.heap.size)) p.block=true:=fun p a=>by simpa using j p a
 have r:∀(b:Nat) (sp:Nat→Bool) (J:Bool),DataW.TrodAll enc P l b sp J f.resultTypes.toList ((Value.bool true).resultList f.resultTypes.size) (s.fn H (h++[])).results []:=fun b sp J=>by
  rw[i,F.1];exact trodAll_mk1 (shut_bool u true)
 have n:∀sp:Nat→Bool,(∀p∈d++[],sp p.block=true)→DataW.TrodAll enc P l 0 sp true f.params.toList c.toList (s.fn H (h++[])).args d:=fun sp I=>by
  rw[F.2.1];exact oy N E _ _ _ _ Q L (fun p a=>j p (bA _ a)) (fun p a=>I p (bA _ a))
 have x:∀sp:Nat→Bool,DataW.TrodVars enc P l sp s.vars (s.fn H (h++[])).vars []:=fun sp=>by
  rw[F.2.2,K];rfl
 have O:d++[]=d++([]:List MemPlace):=rfl;refine⟨h,[],d++[],[],d,[],D,r _ _ _,n _ o,x _,World.keptBut_mono (fun p a=>⟨a,?_⟩) (F9 E (·∈d++[])),fun _=> ?_⟩
 ·exact Or.inr (by simpa using a)
 ·refine⟨ok_one i rfl (okWide_bool_mk u true),_,_,([]++d)++[],⟨[]++d,[],trodAll_append (n _ (fun _ _=>rfl)) (r _ _ _),x _,rfl,?_,?_⟩,?_⟩
  ·intro b k a;have q:MemPlace.cell b k∈d++[]:=by simpa using a
   rw[E.frozen ⟨b,k,none⟩ (j _ q)];exact R b k q
  ·intro M;cases M
  ·intro p a _;simpa using a
theorem EH{f:FuncId}{fn:Func}{τs:List Ty}{E:Nat→(eo τs).den→Option Bool}(S:∀n,aw P f ⟨τs,[.bool],E n⟩){n base N:Nat}{tb:TypeId}(B:KK bk)(O:laidOutB P=true)(r:yY P n τs fn.params.toList=true)
  (R:(fn.params.toList.all fun t=>P.readableRec t&&decide (t<P.types.size))=true) (k:fn.resultTypes= #[tb]) (q:P.underlying tb=some .bool) {s:ChangeSpec} (U:s.vars=[])
  {W:World} {a:Array Value} {d gs:List (DataW H)} {c:List MemPlace} (T:(s.fn H (d++gs)).results=[.lit (.bool true)]∧(s.fn H (d++gs)).args=d∧(s.fn H (d++gs)).vars=[])
  (l:∀(j:Nat) t v,fn.params[j]? =some t→a[j]? =some v→Value.okWide P W .any base t v)
  (y:DataW.Whole enc P fn.params.toList s.vars false W a.toList d gs c) (L:(d.map bk).sum≤N)
  (pure:∀x:(eo τs).den,Dq (eo τs) x→eO (eo τs) x≤N→∃n,E n x=some true):
  Calls P f a W fun e o=>∃v,e= .returned v∧s.post enc P fn false true false false W a v o:=by
 obtain⟨V,X,K,_,_,_,_⟩:=id y;obtain⟨x,F,I,J⟩:=qn (Zp:=ay) (base:=base) B τs _ _ _ _ r K (fun j t v h D=>l j t v (by simpa using h) (by simpa using D));obtain⟨m,Q⟩:=pure x I (Nat.le_trans J L);have z:=(S m).calls W (uX W) ay x true a.toList (fun b i h=>h) (fun b i h=>h.elim) F Q;rw[Array.toArray_toList]at z;refine z.mono fun e o ⟨v,M,g,p⟩=>⟨v,M,?_⟩;have u:v= .bool true:=by
  have:PR o (lm (uX W) W o) ay .bool true [v]:=p;simp only[PR]at this;injection this
 subst u;exact Ga O R k q U T y g
end
section
variable {P:Program}
theorem cn.z{t:TypeId}{d:TD}{τ:Ty}(a:(P.underlying t).map jb=some d.desc)(b:D6 d.desc=d.agg)(g:(P.info? t).map (fun i=>(i.size,i.bytes))=some (d.size,d.bytes))(h:Fg d=true)(j:d.zero=true)(l:d.ty=some τ)
 (p:(P.info? t).map (fun i=>i.zero.map fun z=>(z.cells.toList,xp z))=some (some (τ.dJ,d.agg))) (r:d.eq=[]∨yz P t d.eq=true):cn P t d:=⟨a,b,g,h,r,by rw[j,l];exact p⟩
theorem cn.n{t:TypeId}{d:TD}(a:(P.underlying t).map jb=some d.desc)(b:D6 d.desc=d.agg)(g:(P.info? t).map (fun i=>(i.size,i.bytes))=some (d.size,d.bytes))(h:Fg d=true)(j:d.zero=false)(l:d.eq=[]∨yz P t d.eq=true):cn P t d:=⟨a,b,g,h,l,by rw[j];trivial⟩
theorem t0:pR P []:=fun _ h=>by cases h
theorem tc{t:TypeId}{d:TD}{l:List (TypeId×TD)}(h:cn P t d)(k:pR P l):pR P ((t,d)::l):=fun p a=>by
 rcases List.mem_cons.1 a with rfl |a
 ·exact h
 ·exact k p a
theorem v0:xq P []:=fun _ h=>by cases h
theorem vc{t:TypeId}{d:VT}{l:List (TypeId×VT)}(h:r0 P t d)(k:xq P l):xq P ((t,d)::l):=fun p a=>by
 rcases List.mem_cons.1 a with rfl |a
 ·exact h
 ·exact k p a
theorem wd{α:Type}{R:FuncId→α→Prop}{g:FuncId}{D:α}{l:List (FuncId×α)}(h:R g D)(k:∀f E,ba f l=some E→R f E):∀f E,ba f ((g,D)::l)=some E→R f E:=fun f E a=>by
 simp only[ba]at a
 split at a
 ·rename_i b
  cases a;rw[←af b];exact h
 ·exact k f E a
theorem c0:∀f E,ba f ([]:List (FuncId×Entry))=some E→aw P f E:=fun _ _ h=>by cases h
theorem cc{g:FuncId}{D:Entry}{l:List (FuncId×Entry)}(h:aw P g D)(k:∀f E,ba f l=some E→aw P f E):∀f E,ba f ((g,D)::l)=some E→aw P f E:=wd h k
theorem o0:∀f E,ba f ([]:List (FuncId×jc))=some E→gu P f E:=fun _ _ h=>by cases h
theorem oc{g:FuncId}{D:jc}{l:List (FuncId×jc)}(h:gu P g D)(k:∀f E,ba f l=some E→gu P f E):∀f E,ba f ((g,D)::l)=some E→gu P f E:=wd h k
theorem s0:∀f E,ba f ([]:List (FuncId×bl))=some E→be P f E:=fun _ _ h=>by cases h
theorem sc{g:FuncId}{D:bl}{l:List (FuncId×bl)}(h:be P g D)(k:∀f E,ba f l=some E→be P f E):∀f E,ba f ((g,D)::l)=some E→be P f E:=wd h k
theorem BT{f:FuncId}{fn:Func}{ps rs:List Ty}(c:P.funcs[f]? =some fn)(d:(fn.name== "runtime.NumGoroutine")=false)(b:fn.body.isNone=false)(a:rs.all Ty.aX=true):aw P f ⟨ps,rs,fun _=>none⟩:=⟨⟨fn,c,d,b⟩,a,fun _ _ _ _ _ _ _ _ _ h=>by cases h⟩
end
end Go.Am
