import Derived.Test.YtllhngpojglipaaGreatDoorA3
import Derived.LoopN
import Derived.Laws.Sem
import Derived.Calls
import Derived.Scope
import Derived.ProofKit
import Derived.JoinedCond
import Derived.WideKeyArgs
import Derived.ChangeArms
set_option linter.unusedVariables false
set_option linter.unusedSimpArgs false
open Array renaming getD_eq_getD_getElem?→bH,getElem?_eq_getElem→bR,getElem?_toList→cC
open Bool renaming and_eq_true→ak,false_eq_true→cn,or_eq_true→aD
open List renaming all_eq_true→dY,append_assoc→bo,append_nil→cG,drop_zero→dy,getElem?_append_left→aP,getElem?_append_right→bc,getElem?_cons_zero→eK,getElem?_eq_getElem→ai,getElem?_eq_none→bd,getElem?_take→db,getElem_mem→am,length_append→ah,length_cons→bg,length_drop→dE,length_nil→dr,length_take→aC,length→af,map_append→eu,map_congr_left→ft,map_cons→cb,mem_append_left→aS,mem_append_right→bp,mem_cons_of_mem→aG,mem_of_getElem?→eb,size_toArray→dZ,sum_cons→cO,take_append_drop→bM,take_length→ch
open Nat renaming add_assoc→eZ,add_sub_cancel_left→eL,beq→bT,blt_eq→eV,eq_of_beq_eq_true→aA,le_of_ble_eq_true→eD,le_refl→az,le_trans→ei,lt_of_lt_of_le→ca,mul_le_mul_right→cv,zero_add→dJ
open Option renaming bind_some→aa
open Go.World renaming cell?_of_block→bW
namespace Go.Am
open Go
section
variable {P:Program} {w0:W0} {w w':World} {Z0 Zp:cD} {h h':bm} {g:G} {new next base:Nat} {r:A} {L L':Log} {X:Cx}
theorem aor{p:Nat}:∀(l:List (Nat×GK)) (x y:gF l) (K:GK) (H:List (Option K.xp)) (a:GK) (b:List (Option a.xp)),io true l x p=some (.gh true K H)→io true l y p=some (.gh true a b)→K=a
 |[],_,_,_,_,_,_,h,_=>by cases h
 |(c,i)::r,x,y,K,H,a,b,j,k=>by
  have d:(if c=p then some (Ob.gh true i x.1)else io true r x.2 p)=some (.gh true K H):=j;have e:(if c=p then some (Ob.gh true i y.1)else io true r y.2 p)=some (.gh true a b):=k;clear j k
  by_cases n:c=p
  ·rw[if_pos n]at d e
   cases d;cases e;rfl
  ·rw[if_neg n]at d e;exact aor r x.2 y.2 K H a b d e
def VAq(w:World)(h:bm)(g:G)(V:VT)(x:V.den)(v:Value):Prop:=
 ∀(base:Nat) (a:cD) (h':bm) (d:G),(∀b i,g.Z b i→d.Z b i)→(∀c id e,g.pm c id=some e→d.pm c id=some e)→(∀b i,Yn h g w b i→a b i)→AR w base a h' d (Eh V x) v
def Uu(w:World)(h:bm)(g:G):(ps:List VT)→(BB ps).den→List Value→Prop
 |[],_,b=>b=[]
 |[V],x,b=>∃v,b=[v]∧VAq w h g V x v
 |V::U::r,x,b=>∃v a,b=v::a∧VAq w h g V x.1 v∧Uu w h g (U::r) x.2 a
theorem Uu.out{Uk:cD}{g':G}{I:bm}(y:∀b i,g.Z b i→g'.Z b i)(D:∀c id e,g.pm c id=some e→g'.pm c id=some e)(E:∀b i,Yn h g w b i→Uk b i):∀(ps:List VT) (x:(BB ps).den) (vs:List Value),Uu w h g ps x vs→OW w base Uk I g' ps x vs
 |[],_,_,hh=>hh
 |[_],_,_,⟨v,e,H⟩=>⟨v,e,H _ _ _ _ y D E⟩
 |_::U::r,x,_,⟨v,j,e,H,hr⟩=>⟨v,j,e,H _ _ _ _ y D E,Uu.out y D E (U::r) x.2 j hr⟩
theorem agD(R:HR w0 Z0 Zp h g w){V:VT}{a:A}{v:Value}(E:AR w w0.heap.size Zp h g a v){k:V.den→HM}{j:A×bm×Log}(e:(aoe true V a k).eval next h L=some j):
  ∃x c g1 L1,(k x).eval next c L1=some j∧HR w0 Z0 Zp c g1 w∧Le Zp h g w c g1 w∧Fz h g c g1∧VAq w c g1 V x v:=by
 by_cases F:∃τ,V= .data τ
 ·obtain⟨τ,rfl⟩:=F;have e:(aoW true τ a k).eval next h L=some j:=e
  obtain⟨x,c,g1,L1,e,M,q,f1,o⟩:=abK true R E e;refine⟨x,c,g1,L1,e,M,q,f1,fun base Uk h' g' D H I=> ?_⟩;have o:xQ w g1.Z (Yn c g1 w) τ x v:=o;exact xQ.toVR (xQ.mono (fun b i l=>⟨D b i l,rfl⟩) (fun b i l=>⟨I b i l,rfl⟩) o)
 unfold aoe at e
 split at e
 ·exact absurd ⟨_,rfl⟩ F
 ·rename_i S W _
  split at e
  ·rename_i p;rw[ak]at p;obtain⟨J,u,c,T⟩:=VR.list E;obtain⟨O,U,Q,K,e,N,t,y,n⟩:=eX _ _ h g _ _ _ R u e
   split at e
   ·rename_i x o;have B:=VT.rM p.2 n o;refine⟨x,U,Q,K,e,N,t,y,fun base Uk h' g' D H I=> ?_⟩;have d:=VT.wH (w':=w) (base':=base) (Uk:=Uk) (h':=h') (g':=g') (fun b i l=>⟨D b i l,rfl⟩) H V x J p.2 B;have z:=toBeq p.1;show VR w base Uk h' g' V.isAgg (V.cells x) v;rw[←z]
    cases S with
    |true=>exact⟨J,c rfl,d⟩
    |false=>rw[T rfl]at d;exact d
   ·exact(aj e).elim
  ·exact(aj e).elim
 ·exact(aj e).elim
theorem VAq.mono{y:bm}{g1:G}(L:Le Zp h g w y g1 w)(f:Fz h g y g1){V:VT}{x:V.den}{v:Value}(J:VAq w h g V x v):VAq w y g1 V x v:=fun base j h' E M I K=>
 J base j h' E (fun b i D=>M b i (L.z b i D).1) (fun c id e H=>I c id e (L.pm c id e H)) (fun b i D=>K b i (aqH f b i D).1)
theorem abN:∀(ps:List VT) (as:List A) (vs:List Value) (h:bm) (g:G) (L:Log) (k:(BB ps).den→HM) (c:A×bm×Log),HR w0 Z0 Zp h g w→
  dR (fun b z=>∃u,z=[u]∧AR w w0.heap.size Zp h g b u) as vs→(amw true ps as k).eval next h L=some c→
  ∃x j g1 L1,(k x).eval next j L1=some c∧HR w0 Z0 Zp j g1 w∧Le Zp h g w j g1 w∧Fz h g j g1∧Uu w j g1 ps x vs
 |[],as,vs,h,g,L,k,c,R,q,e=>by
  cases as with
  |nil=>exact⟨(),h,g,L,e,R,Le.refl _ _ _ _,Fz.refl _ _,q⟩
  |cons _ _=>exact(aj e).elim
 |[V],as,vs,h,g,L,k,c,R,q,e=>by
  cases as with
  |nil=>exact(aj e).elim
  |cons a as=>
   cases as with
   |cons _ _=>exact(aj e).elim
   |nil=>
    obtain⟨z,d,D,⟨u,E,p⟩,t⟩:=q;simp only[dR]at t;subst t;subst E;obtain⟨x,j,g1,L1,F,B,i,l,H⟩:=agD R p e;exact⟨x,j,g1,L1,F,B,i,l,u,by simpa using D,H⟩
 |V::U::ps,as,vs,h,g,L,k,c,R,q,e=>by
  cases as with
  |nil=>exact(aj e).elim
  |cons a as=>
   obtain⟨z,d,D,⟨u,E,p⟩,t⟩:=q;subst E;obtain⟨x,j,g1,L1,F,B,i,l,H⟩:=agD R p e;obtain⟨y,N,M,I,K,J,n,o,O⟩:=abN (U::ps) as d j g1 L1 _ c B (dR.mono (fun b z ⟨u,e,p⟩=>⟨u,e,AR.mono i _ _ p⟩) _ _ t) F;exact⟨(x,y),N,M,I,K,J,i.trans n,l.trans o,u,d,by simpa using D,VAq.mono n o H,O⟩
theorem Jp{w1:World}{base':Nat}{Uk:cD}{o:bm}{g1:G}(j:dG w w1 g.Z g1.Z)(k:∀c id e,g.pm c id=some e→g1.pm c id=some e):∀(rs:List VT) (x:(BB rs).den) (vs:List Value),rs.all VT.ok=true→
  dR (fun(p:Bool×List C) b=>∃u,b=[u]∧VR w base Zp h g p.1 p.2 u) (abi rs x) vs→dR (fun(p:Bool×List C) b=>∃u,b=[u]∧VR w1 base' Uk o g1 p.1 p.2 u) (abi rs x) vs
 |[],_,_,_,q=>q
 |[V],x,_,d,⟨b,a,e,⟨u,i,n⟩,l⟩=>⟨b,a,e,⟨u,i,VT.aa0 j k (by simpa using d) n⟩,l⟩
 |V::U::r,x,_,d,⟨b,a,e,⟨u,i,n⟩,l⟩=>by
  simp only[List.all_cons,ak]at d;exact⟨b,a,e,⟨u,i,VT.aa0 j k d.1 n⟩,Jp j k (U::r) x.2 a (by simpa using d.2) l⟩
theorem Qn{w1:World}{base':Nat}{Uk:cD}{k:bm}{g1:G}(b:dG w w1 g.Z g1.Z)(d:∀c id e,g.pm c id=some e→g1.pm c id=some e)(rs:List VT)(x:(BB rs).den)(v:Value)(a:rs.all VT.ok=true)(hh:AR w base Zp h g (L0 rs x) v):AR w1 base' Uk k g1 (L0 rs x) v:=by
 match rs,x,a,hh with
 |[V],x,a,hh=>exact VT.aa0 b d (by simpa using a) hh
 |[],x,a,⟨j,e,i⟩=>exact⟨j,e,Jp b d _ _ _ a i⟩
 |V::U::r,x,a,⟨j,e,i⟩=>exact⟨j,e,Jp b d _ _ _ a i⟩
theorem HR.avr(R:HR w0 Z0 Zp h g w){c k cap sz S:Nat}{K:GK}{H:List (Option K.xp)}{x:K.xp}(Q:look .dead c h= .gh true K H)(E:∀b:Nat,b<w.heap.size→w'.heap[b]? =w.heap[b]?)(hnb:w.heap.size≤S)(O:S<w'.heap.size)(he:w0.Extends w')(hsz:∀V,K= .bf V→sz=V.size){g':G}(hg:g'={ g with pm:=Ul g.pm c H.length (S,k,cap,sz) })
  (hx:Le Zp h g w ((c,.gh true K (Go.Am.eE H x))::h) g' w'→uI w' w0.heap.size Zp ((c,.gh true K (Go.Am.eE H x))::h) g' c H.length K x):
  HR w0 Z0 Zp ((c,.gh true K (Go.Am.eE H x))::h) g' w'∧Le Zp h g w ((c,.gh true K (Go.Am.eE H x))::h) g' w':=by
 subst hg;have Y:=R.gh.fresh c true K H H.length Q (az _);have hne:∀J D e,g.pm J D=some e→¬ (J=c∧D=H.length):=fun J D e I ⟨M,T⟩=>by subst M;subst T;rw[Y]at I;cases I
 refine R.ajX Q g.Z (Ul g.pm c H.length (S,k,cap,sz)) (fun _ _ h=>h) (fun _ _ h=> .inl h) (fun J D e h=>by rw[uJ _ _ (hne _ _ _ h)];exact h) (fun J D e h=> ?_) (by simp[Go.Am.eE]) (by simp[Go.Am.eE]) (fun i z hi y=> ?_) (fun i N j I M _=>R.gh.kS _ _ _ _ I M) (fun i N e' x' I M T h4=> ?_) (fun N U _=>E N U)
  (fun N i y=>bW (E N (R.Mw _ _ y))) (by omega) he fun L i z y=> ?_
 ·by_cases I:J=c∧D=H.length
  ·obtain⟨rfl,rfl⟩:=I;rw[rK]at h
   cases h;exact .inr ⟨rfl,rfl,by simp[Go.Am.eE],.inl ⟨hnb,O⟩,hsz⟩
  ·rw[uJ _ _ I]at h;exact .inl h
 ·simp only[Go.Am.eE]at y;rw[aP hi]at y;exact⟨z,y⟩
 ·rw[rK]at M
  cases M;have:=R.gh.lt _ _ _ I;simp only at T;omega
 ·simp only[Go.Am.eE]at y;rcases Nat.lt_or_ge i H.length with hi |hi
  ·rw[aP hi]at y;exact uI.mono L (fun e' W=>E _ (R.gh.lt c i _ ⟨true,K,H,z,e',Q,y,W,rfl⟩)) _ _ (R.gh.xp c true K H i z Q y)
  ·rw[bc hi]at y;have:i=H.length:=by
    rcases Nat.lt_or_ge (i -H.length) 1 with h |h
    ·omega
    ·rw[bd (by simpa using h)]at y;cases y
   subst this;simp at y;subst y;exact hx L
theorem apc{Z:cD}{e:Ty}(R:e.flat=true)(c:0<e.size){l:List e.den}{v:Value}{W:Option Nat}(U:PR w' Z jC (.sl e) l [v])(T:aqG w w' e.size (af l) W v)(z:af l≠0):
  ∃b cap cur e0,v= .slice (some ⟨b,0,none⟩) (af l) cap∧w'.heap[b]? =some (.cells cur e0 (0,0))∧af l≤cap∧cap≤maxLen∧cur.size=cap*e.size∧w.heap.size≤b∧
   ∀(base:Nat) (Uk:cD) (h':bm) (g':G),dR (fun y q=>dM w' base Uk h' g' (e.cells y) q) l (cur.toList.take (af l*e.size)):=by
 obtain⟨base,cap,a,o,e2,E,K⟩:=U;rcases T with⟨_,_,n⟩|⟨b',D,cur,e0,_,n,F,H,N,I,O⟩
 ·exact(z n).elim
 ·rw[n]at o;simp only[List.cons.injEq,Value.slice.injEq,and_true]at o;obtain⟨p,_,rfl⟩:=o;have d:=dR.length (PR.k e) l a E;have i:a≠[]:=by
   intro M;rw[M]at d;have:0<af l*e.size:=Nat.mul_pos (by omega) c;simp at d;omega
  obtain⟨b,Y,t,Q⟩:=K i;rw[←p]at t;simp only[Option.some.injEq,Addr.mk.injEq,and_true]at t;obtain⟨rfl,rfl⟩:=t;have S:af l*e.size≤cur.size:=by rw[I];exact cv _ H
  have B:cur.toList.take (af l*e.size)=a:=by
   apply List.ext_getElem?;intro j;rcases Nat.lt_or_ge j a.length with x |x
   ·obtain⟨u,J⟩:∃u,a[j]? =some u:=⟨a[j],ai x⟩
    have:=(Q j u J).1;rw[db,if_pos (by omega),J,cC];simpa[World.cell?,F]using this
   ·rw[bd x,bd (by rw[aC];omega)]
  refine⟨_,_,cur,e0,n,F,H,N,I,O,fun base Uk h' g'=> ?_⟩;rw[B];exact dR.mono (fun y q V=>dM.ar2 e y q (PR.flat _ _ _ R V)) _ _ E
theorem apd(hS:∀f E,cW f X.calls=some E→aq P f E)(hO:∀f E,cW f X.owns=some E→as6 P f E)(hT:∀f E,cW f X.stats=some E→pS P f E)(R:HR w0 Z0 Zp h g w)(hn:¬ g.al new){f:FuncId}{as:List A}{vs:List Value}
  (l:dR (fun b es=>∃u,es=[u]∧AR w w0.heap.size Zp h g b u) as vs) (e:(ajU X new f as).eval next h L=some (r,h',L')):
  (∃fn,P.funcs[f]? =some fn∧(fn.name== "runtime.NumGoroutine")=false∧fn.body.isNone=false)∧Calls P f vs.toArray w fun e w'=>∃v g',e= .returned v∧HR w0 Z0 Zp h' g' w'∧Le Zp h g w h' g' w'∧AR w' w0.heap.size Zp h' g' r v∧∀o,g'.al o→g.al o∨o=new:=by
 unfold ajU at e
 split at e
 ·rename_i E hE;have S:=hO f E hE;refine⟨S.fn,?_⟩
  split at e
  ·obtain⟨x,O,g1,L1,e,J,t,n,hx⟩:=L9 _ _ _ _ h g L _ _ R l e;obtain⟨a,j,e⟩:=bG e;have e:=dS e
   cases gH e;have hz1:∀b i,(if(!E.e.flat)=true then g1.Z else All w) b i→b<w.heap.size:=by
    intro b i B
    split at B
    ·exact J.Mw b i B
    ·exact B
   have d:=S.calls w _ (All w) x a _ hz1 (fun b i B=>B) hx j;refine d.mono fun e w' ⟨v,ob,z,k,M,D⟩=> ?_;obtain⟨U,I,hT2⟩:=J.asZ k (by rw[n.al];exact hn) D;refine⟨v,_,z,U,t.trans I,?_,fun o F=> ?_⟩
   ·have hnr:(Ty.sl E.e).cE=true:=by simpa[Ty.cE]using S.nr
    refine AR.qF ⟨PR.cE (Zp:=jC) (.sl E.e) _ _ hnr ?_,.inr rfl,fun _=>hT2⟩
    cases hf:E.e.flat with
    |true=>exact aqL hf M D (fun b i O h2 h3=> .inr ⟨O,h2,fun _=>h3⟩)
    |false=>
     simp only[hf,Bool.not_false,if_true]at M;exact M
   ·rcases F with F |F
    ·exact .inl (n.al▸F)
    ·exact .inr F
  ·rename_i c hc
   split at e
   ·rename_i W;rw[ak]at W;have T:0<E.e.size:=by simpa[eV]using W.2
    obtain⟨x,O,g1,L1,e2,J,t,n,hx⟩:=L9 _ _ _ _ h g L _ _ R l e;obtain⟨a,j,e3⟩:=bG e2;have e4:=cA e3
    split at e4
    ·rename_i K H hoc
     split at e4
     ·rename_i H' hH;obtain⟨hK,hHH⟩:=jP hH;subst hK
      cases hHH;obtain⟨q,hq,e5⟩:=bG e4;have e6:=dS e5
      cases gH e6;have d:=S.calls w _ (All w) x a _ (fun b i B=>B) (fun b i B=>B) hx j;refine d.mono fun e w' ⟨v,ob,z,k,M,D⟩=> ?_;have hne:af a≠0:=by
       intro h0;have:a=[]:=List.length_eq_zero_iff.1 h0;subst this;simp[gad]at hq
      have hqe:q=(eE (α:=List E.e.den) H a,some (af H,0,af a)):=by
       match a,hq with
       |y::m,hq=>simp only[gad,Option.some.injEq]at hq;exact hq.symm
      subst hqe;obtain⟨b,N,cur,e0,hv,hb,h4,h5,h6,h7,h8⟩:=apc W.1 T M D hne;have azM:=(Array.getElem?_eq_some_iff.1 hb).1;obtain⟨g',Y⟩:∃g':G,g'={ g1 with pm:=Ul g1.pm c (af H) (b,0,N,E.e.size) }:=⟨_,rfl⟩;have hpm:g'.pm c (af H)=some (b,0,N,E.e.size):=by rw[Y];exact rK _ _ _ _
      obtain⟨U,I⟩:=J.avr (K:=.bf (.data E.e)) (x:=a) (w':=w') hoc (fun b hb=>k.block b hb) h7 azM (J.ext.trans k) (fun V hV=>by cases hV;rfl) Y
       (fun L=>⟨T,b,0,N,cur,e0,hpm,hb,by rw[h6];simp[VT.size],h4,h5,by rw[dy];exact h8 _ _ _ _⟩)
      exact⟨v,g',z,U,t.trans I,AR.qF ⟨b,0,N,E.e.size,0,hpm,by omega,fun _=>by simp,by rw[hv];simp⟩,fun o F=> .inl (by rw[Y]at F;exact n.al▸F)⟩
     ·exact(aj e4).elim
    ·exact(aj e4).elim
   ·exact(aj e).elim
 ·split at e
  ·rename_i E hE;have S:=hS f E hE;refine⟨S.fn,?_⟩;obtain⟨x,O,g1,L1,e,J,t,n,hx⟩:=L9 _ _ _ _ h g L _ _ R l e;obtain⟨a,j,e⟩:=bG e
   cases gH e;have hz1:∀b i,(if(!E.rs.all Ty.flat)=true then g1.Z else All w) b i→b<w.heap.size:=by
    intro b i B
    split at B
    ·exact J.Mw b i B
    ·exact B
   have d:=S.calls w _ (All w) x a _ hz1 (fun b i B=>B) hx j;refine d.mono fun e w' ⟨v,z,k,M⟩=> ?_;obtain⟨U,I⟩:=J.called k;refine⟨v,_,z,U,t.trans I,?_,fun o F=> .inl (n.al▸F)⟩;refine apb _ _ _ ?_
   cases hfl:E.rs.all Ty.flat with
   |true=>exact OU.map (p:=Ty.flat) (fun τ x v Q hh=>xQ.flat Q hh) _ _ _ hfl M
   |false=>
    simp only[hfl,Bool.not_false,if_true]at M;exact OU.map (p:=Ty.cE) (fun τ x v Q hh=>xQ.cE Q hh) _ _ _ S.nr M
  ·split at e
   ·rename_i E hE;have S:=hT f E hE;refine⟨S.fn,?_⟩;unfold aux at e
    split at e
    ·rename_i hok;rw[eu]at hok;obtain⟨x,O,g1,L1,e,J,t,n,hx⟩:=abN _ _ _ h g L _ _ R l e;obtain⟨y,L2,e,hy⟩:=Ut E.ws _ _ e;obtain⟨yo,L3,e,hyo⟩:=Ut E.os _ _ e;obtain⟨a,j,e⟩:=bG e;obtain⟨L4,e⟩:=WW E.ws a.2 _ _ e
     cases gH e;have hy':∀p K H,io true E.ws y p=some (.gh true K H)→look .dead p O= .gh true K H:=fun p K H Q=>by
      obtain⟨wr',h2,h3⟩:=hy p K H Q;rw[h3 rfl]at h2;exact h2
     have U:=J.avl (ws:=E.ws) (os:=E.os) (y:=y) (yo:=yo) hy' (fun p K H Q=>by obtain⟨wr',h2,_⟩:=hyo p K H Q;exact⟨wr',h2⟩);have d:=S.calls (aqM w O g1 E.ws E.os yo) g1.Z (Yn O g1 w) (akh g1 E.ws E.os) x y yo a.1 a.2 vs U (fun p Q=>Q) (Uu.out (w:=w) (h:=O) (g:=g1) (g':=akh g1 E.ws E.os) (fun _ _ h=>h) (fun _ _ _ h=>h) (fun _ _ h=>h) E.ps x vs hx) j;refine d.mono fun e w' ⟨v,g2,z,R3,M⟩=> ?_;obtain⟨R4,Le4⟩:=J.as0 (abM _ _ hok) hy' R3 (fun p K H K' H'=>aor E.ws y a.2 K H K' H') rfl;exact⟨v,_,z,R4,t.trans Le4,Qn (g:=g2) (g1:={ g1 with Z:=g2.Z,pm:=g2.pm }) (fun _ _ h=>⟨h,rfl⟩) (fun _ _ _ h=>h) E.rs a.1 v S.ok M,fun o F=> .inl (n.al▸F)⟩
    ·exact(aj e).elim
   ·exact(aj e).elim
theorem agE:∀(t:Ty) (x:t.den) (vs:List Value),amv t=true→PR w g.Z Zp t x vs→dR (fun b l=>∃u,l=[u]∧AR w base Zp h g b u) (aqc t x) vs
 |.unit,_,_,_,y=>y
 |.pair (.ref σ) r,x,_,q,⟨z,k,e,⟨b,a,c,n,o,d⟩,p⟩=>⟨z,k,e,⟨_,n,AR.qF ⟨b,a,c,by simp,o,fun j u i=>⟨(d j u i).1,.inr (d j u i).2⟩⟩⟩,agE r x.2 k q p⟩
theorem aqO(S:∀f E,cW f X.calls=some E→aq P f E)(Q:∀f E,cW f X.owns=some E→as6 P f E)(T:∀f E,cW f X.stats=some E→pS P f E)(R:HR w0 Z0 Zp h g w)(U:¬ g.al new){env:Env}{a:Act}(N:∀t,AR w w0.heap.size Zp h g (look aJ t env) (a.tmps.getD t undef)){o:Oper}{c:Call}{H:Operand}(O:o.op= .call c)(M:c.callee= .value H)
  (e:(aop X new (Di env) o.op).eval next h L=some (r,h',L')):
  ∃f j,(execOp a.eval o).run P w= .ok (.enter f j) w∧Calls P f j w fun e w'=>∃v g',e= .returned v∧HR w0 Z0 Zp h' g' w'∧Le Zp h g w h' g' w'∧AR w' w0.heap.size Zp h' g' r v∧∀o,g'.al o→g.al o∨o=new:=by
 rw[O]at e;simp only[aop,M]at e;have D:=dT N H;have B:∀(f:FuncId) (d:Array Value) (n:List A),a.eval H= .func (.func f) #[] d→dR (fun b F=>∃u,F=[u]∧AR w w0.heap.size Zp h g b u) n d.toList→(ajU X new f (c.args.toList.map (Di env)++n)).eval next h L=some (r,h',L')→
   ∃f j,(execOp a.eval o).run P w= .ok (.enter f j) w∧Calls P f j w fun e w'=>∃v g',e= .returned v∧HR w0 Z0 Zp h' g' w'∧Le Zp h g w h' g' w'∧AR w' w0.heap.size Zp h' g' r v∧∀o,g'.al o→g.al o∨o=new:=by
  intro f d n k i e;have p:dR (fun b F=>∃u,F=[u]∧AR w w0.heap.size Zp h g b u) (c.args.toList.map (Di env)++n) (c.args.toList.map a.eval++d.toList):=dR.app _ _ _ _ (aaY N _) i;have I:(c.args.toList.map a.eval++d.toList).toArray=c.args.map a.eval++d:=by
   apply Array.ext';simp
  obtain⟨⟨fn,K,z,q⟩,l⟩:=apd S Q T R U p e;rw[I]at l;refine⟨f,(c.args.map a.eval++d),?_,l⟩;simp only[execOp,O,resolve,M,k,Deferred.ofValue,Sem.run_bind,Sem.run_pure,Result.andThen_ok,invoke];simpa using ah6 K z q (c.args.map a.eval++d)
 split at e
 ·rename_i f V y;rw[y]at D;obtain⟨d,k,i⟩:=D.c;exact B f d _ k (aqK i) e
 ·rename_i f t x y;rw[y]at D;obtain⟨d,k,i⟩:=D.c;simp only[List.cons.injEq,and_true]at k
  split at e
  ·rename_i J;exact B f d _ k (agE t x _ J i) e
  ·exact(aj e).elim
 ·exact(aj e).elim
end
def opE(X:Cx)(new:Nat)(o:Oper)(s:St):Option (St×Log):=
 match(aop X new (Di s.env) o.op).eval s.next s.heap []with
 |some (a,h,L)=>some ({ s with env:=OO s.env o.dst a,heap:=h },L)
 |none=>none
def BM(X:Cx)(c:List Oper)(new:Nat)(o:Oper)(s:St):Option (St×Log):=
 match agt X o.dst with
 |false=>none
 |true=>match o.guard with
  |none=>opE X new o s
  |some (j,a)=>match abo c j with
   |some g=>match look aJ g s.env with
    |.v false [.bool b]=>match b==a with
     |true=>opE X new o { s with env:=(g,.v false [.bool b])::s.env }
     |false=>some ({ s with env:=OO ((g,.v false [.bool b])::s.env) o.dst BH },[])
    |.jN []=>some ({ s with env:=OO s.env o.dst BH },[])
    |_=>none
   |none=>none
def ae5(X:Cx)(a:List Oper):Nat→List Oper→St→List Log→Option (St×List Log)
 |_,[],s,b=>some (s,b)
 |new,o::r,s,b=>match BM X a new o s with
  |some (s,L)=>ae5 X a (new+1) r s (L::b)
  |none=>none
theorem aqP{R:Type}(X:Cx)(new:Nat)(o:Oper)(s:St)(K:St→Log→Option R):opK X new o s K=(opE X new o s).bind fun r=>K r.1 r.2:=by
 unfold opK opE;rw[HM.run_eq]
 cases(aop X new (Di s.env) o.op).eval s.next s.heap []<;>rfl
theorem yx{R:Type}(X:Cx)(a:List Oper)(K:St→List Log→Option R):∀(l:List Oper) (new:Nat) (s:St) (e:List Log),ae0 X a K new l s e=(ae5 X a new l s e).bind fun r=>K r.1 r.2
 |[],_,_,_=>rfl
 |o::r,new,s,e=>by
  unfold ae0 ae5 BM
  cases agt X o.dst with
  |false=>rfl
  |true=>
   simp only
   cases x:o.guard with
   |none=>
    simp only;rw[aqP]
    cases opE X new o s with
    |none=>rfl
    |some q=>exact yx X a K r _ _ _
   |some u=>
    obtain⟨j,d⟩:=u;simp only
    cases w:abo a j with
    |none=>rfl
    |some g=>
     simp only;generalize look aJ g s.env=q
     split
     ·rename_i b;have h:(true==true)=true:=rfl;have i:(false==false)=true:=rfl;have k:(true==false)=false:=rfl;have n:(false==true)=false:=rfl
      cases d<;>cases b<;>simp only[av,aqP,h,i,k,n]
      ·cases opE X new o { s with env:=(g,.v false [.bool false])::s.env }with
       |none=>rfl
       |some q=>exact yx X a K r _ _ _
      ·exact yx X a K r _ _ _
      ·exact yx X a K r _ _ _
      ·cases opE X new o { s with env:=(g,.v false [.bool true])::s.env }with
       |none=>rfl
       |some q=>exact yx X a K r _ _ _
     ·exact yx X a K r _ _ _
     ·rename_i p t
      split
      ·rename_i c
       split at c
       ·rename_i b;exact absurd rfl (p b)
       ·exact absurd rfl t
       ·cases c
      ·rfl
theorem uM(next:Nat):∀(m:HM) (h:bm) (L:Log) (a:A) (h':bm) (g:Log),m.eval next h L=some (a,h',g)→
  ∃M,g=M++L∧(∀o,(o,true)∉M→look .dead o h'=look .dead o h)∧
   ∀(d:bm) (L2:Log),(∀p∈M,look .dead p.1 d=look .dead p.1 h)→∃q,m.eval next d L2=some (a,q,M++L2)∧
    (∀o,(o,true)∈M→look .dead o q=look .dead o h')∧∀o,(o,true)∉M→look .dead o q=look .dead o d
 |.ret a,h,L,_,_,_,e=>by
  simp[HM.eval]at e;obtain⟨rfl,rfl,rfl⟩:=e;exact⟨[],rfl,fun _ _=>rfl,fun d L2 _=>⟨d,rfl,(fun o F=>by cases F),fun _ _=>rfl⟩⟩
 |.fail,_,_,_,_,_,e=>by simp[HM.eval]at e
 |.get o k,h,L,a,h',g,e=>by
  obtain⟨M,l,d,n⟩:=uM next _ _ _ a h' g (cA e)
  refine⟨M++[(o,false)],by simp[l],fun p c=>d p (fun j=>c (by simp[j])),fun t L2 u=> ?_⟩;have F:look .dead o t=look .dead o h:=u (o,false) (by simp);obtain⟨i,w,z,B⟩:=n t ((o,false)::L2) (fun p c=>u p (by simp[c]));refine⟨i,?_,fun p c=>z p (by simpa using c),fun p c=>B p (by simpa using c)⟩;simp only[HM.eval,F,w,bo,List.singleton_append]
 |.set o x k,h,L,a,h',g,e=>by
  have E:Nat.blt o next=true:=by
   simp only[HM.eval]at e
   split at e
   ·assumption
   ·cases e
  obtain⟨M,l,d,n⟩:=uM next _ _ _ a h' g (dS e)
  refine⟨M++[(o,true)],by simp[l],fun p c=> ?_,fun t L2 u=> ?_⟩
  ·have r:o≠p:=fun D=>c (by simp[D]);rw[d p (fun j=>c (by simp[j])),aW,if_neg r]
  ·obtain⟨i,w,z,B⟩:=n ((o,x)::t) ((o,true)::L2) (fun p c=>by
    rw[aW,aW]
    split
    ·rfl
    ·exact u p (by simp[c]))
   refine⟨i,?_,fun p c=> ?_,fun p c=> ?_⟩
   ·simp only[HM.eval,E,w,bo,List.singleton_append]
   ·by_cases j:(p,true)∈M
    ·exact z p j
    ·have H:p=o:=by simpa[j]using c
     subst H;rw[B p j,d p j,aW,aW,if_pos rfl,if_pos rfl]
   ·have r:o≠p:=fun D=>c (by simp[D]);rw[B p (fun j=>c (by simp[j])),aW,if_neg r]
 |.opt x k,h,L,a,h',g,e=>by
  obtain⟨b,I,e⟩:=bG e;obtain⟨M,l,d,n⟩:=uM next _ _ _ a h' g e
  refine⟨M,l,d,fun t L2 u=> ?_⟩;obtain⟨i,w,z⟩:=n t L2 u;exact⟨i,by simp only[HM.eval,I,aa,w],z⟩
 |.br b x y,h,L,a,h',g,e=>by
  cases b with
  |true=>
   obtain⟨M,l,d,n⟩:=uM next x h L a h' g e
   exact⟨M,l,d,n⟩
  |false=>
   obtain⟨M,l,d,n⟩:=uM next y h L a h' g e
   exact⟨M,l,d,n⟩
def aqQ:Operand→Option Tmp
 |.tmp t=>some t
 |_=>none
theorem apf{a b:Env}{x:Operand}(h:∀t,aqQ x=some t→look aJ t a=look aJ t b):Di a x=Di b x:=by
 cases x with
 |tmp t=>exact h t rfl
 |_=>rfl
theorem apg(X:Cx)(new:Nat){a b:Env}(o:Op)(h:∀x∈o.operands,Di a x=Di b x):aop X new (Di a) o=aop X new (Di b) o:=by
 cases o<;>simp only[Op.operands]at h<;>simp only[aop]
 case move x=>rw[h x (by simp)]
 case assign x=>rw[h x (by simp)]
 case pick c x y=>rw[h c (by simp),h x (by simp),h y (by simp)]
 case box t x=>rw[h x (by simp)]
 case build t parts=>
  have:(parts.toList.map fun(i,x)=>(i,Di a x))=(parts.toList.map fun(i,x)=>(i,Di b x)):=by
   apply ft;rintro⟨i,x⟩ e;simp only[Prod.mk.injEq,true_and];exact h x (by simp;exact⟨i,by simpa using e⟩)
  rw[this]
 case buildSlice t n parts=>
  have:(parts.toList.map fun(i,x)=>(i,Di a x))=(parts.toList.map fun(i,x)=>(i,Di b x)):=by
   apply ft;rintro⟨i,x⟩ e;simp only[Prod.mk.injEq,true_and];exact h x (by simp;exact⟨i,by simpa using e⟩)
  rw[this]
 case load t x=>rw[h x (by simp)]
 case store t x y=>rw[h x (by simp),h y (by simp)]
 case nilCheck x=>rw[h x (by simp)]
 case binOp B t x y E=>rw[h x (by simp),h y (by simp)]
 case unOp B t x=>rw[h x (by simp)]
 case convert s d x=>rw[h x (by simp)]
 case makeFunc fn first g=>
  cases fn<;>simp only;have:g.toList.map (Di a)=g.toList.map (Di b):=ft fun x e=>h x (by simp;exact .inr (by simpa using e));rw[this]
 case makeSlice t l c=>rw[h l (by simp),h c (by simp)]
 case slice t x q p mx=>
  have r:q.map (Di a)=q.map (Di b):=by cases q with |none=>rfl |some y=>simp[h y (by simp)]
  have u:p.map (Di a)=p.map (Di b):=by cases p with |none=>rfl |some y=>simp[h y (by simp)]
  have w:mx.map (Di a)=mx.map (Di b):=by cases mx with |none=>rfl |some y=>simp[h y (by simp)]
  rw[h x (by simp),r,u,w]
 case fieldAddr s x j=>rw[h x (by simp)]
 case field s x j=>rw[h x (by simp)]
 case indexAddr t x i=>rw[h x (by simp),h i (by simp)]
 case index t x i=>rw[h x (by simp),h i (by simp)]
 case makeMap t D=>cases D<;>rfl
 case lookup t x i ok=>rw[h x (by simp),h i (by simp)]
 case mapUpdate t m k x=>rw[h m (by simp),h k (by simp),h x (by simp)]
 case extract x j=>rw[h x (by simp)]
 case call c=>
  have:c.args.toList.map (Di a)=c.args.toList.map (Di b):=ft fun x e=>h x (by simp[Call.operands];exact .inr (by simpa using e));rw[this]
  cases z:c.callee with
  |value f=>simp only;rw[h f (by simp[Call.operands,z])]
  |_=>rfl
theorem aqR{a:List Oper}{o:Oper}{x:Operand}(hx:x∈o.op.operands){t:Tmp}(b:aqQ x=some t):t∈uses a o:=by
 unfold uses;refine List.mem_append.2 (.inl (List.mem_filterMap.2 ⟨x,by simpa using hx,?_⟩))
 cases x<;>simp[aqQ]at b<;>simp[b]
theorem nT{env:Env}{b:Option Tmp}{a:A}{t:Tmp}:look aJ t (OO env b a)=if b=some t then a else look aJ t env:=by
 cases b with
 |none=>simp[OO]
 |some d=>simp only[OO,aW,Option.some.injEq]
theorem uN{env:Env}{g:Tmp}{x:A}(h:look aJ g env=x)(t:Tmp):look aJ t ((g,x)::env)=look aJ t env:=by
 rw[aW]
 split
 ·rename_i a;subst a;exact h.symm
 ·rfl
structure axg (s t:St):Prop where
 next:s.next=t.next
 env:∀x,look aJ x s.env=look aJ x t.env
 heap:∀o,look .dead o s.heap=look .dead o t.heap
theorem mQ{X:Cx}{r:List Oper}{new:Nat}{o:Oper}{s q:St}{L:Log}(e:BM X r new o s=some (q,L)):
  q.next=s.next∧(∀t,o.dst≠some t→look aJ t q.env=look aJ t s.env)∧(∀p,(p,true)∉L→look .dead p q.heap=look .dead p s.heap)∧
  ∀i:St,i.next=s.next→(∀t∈uses r o,look aJ t i.env=look aJ t s.env)→(∀p∈L,look .dead p.1 i.heap=look .dead p.1 s.heap)→
   ∃d,BM X r new o i=some (d,L)∧d.next=s.next∧(∀t,o.dst=some t→look aJ t d.env=look aJ t q.env)∧(∀t,o.dst≠some t→look aJ t d.env=look aJ t i.env)∧
    (∀p,(p,true)∈L→look .dead p d.heap=look .dead p q.heap)∧∀p,(p,true)∉L→look .dead p d.heap=look .dead p i.heap:=by
 have S:∀{s q:St} {L:Log},opE X new o s=some (q,L)→q.next=s.next∧(∀t,o.dst≠some t→look aJ t q.env=look aJ t s.env)∧(∀p,(p,true)∉L→look .dead p q.heap=look .dead p s.heap)∧
   ∀i:St,i.next=s.next→(∀t∈uses r o,look aJ t i.env=look aJ t s.env)→(∀p∈L,look .dead p.1 i.heap=look .dead p.1 s.heap)→
   ∃d,opE X new o i=some (d,L)∧d.next=s.next∧(∀t,o.dst=some t→look aJ t d.env=look aJ t q.env)∧(∀t,o.dst≠some t→look aJ t d.env=look aJ t i.env)∧
    (∀p,(p,true)∈L→look .dead p d.heap=look .dead p q.heap)∧∀p,(p,true)∉L→look .dead p d.heap=look .dead p i.heap:=by
  intro s q L e;unfold opE at e
  split at e
  ·rename_i a h M he
   cases e;obtain⟨M',B,E,K⟩:=uM _ _ _ _ _ _ _ he;simp only[cG]at B;subst B;refine⟨rfl,fun t k=>by simp only[nT,if_neg k],E,fun i W D hL=> ?_⟩;obtain⟨U,N,O,P⟩:=K i.heap [] hL;have R:aop X new (Di i.env) o.op=aop X new (Di s.env) o.op:=apg X new o.op fun x hx=>apf fun t k=>D t (aqR hx k);refine⟨{ i with env:=OO i.env o.dst a,heap:=U },?_,W,fun t k=>by simp only[nT,if_pos k],fun t k=>by simp only[nT,if_neg k],O,P⟩;unfold opE;rw[R,W,N];simp
  ·cases e
 have J:∀{j:Nat} {w:Bool} {g:Tmp},o.guard=some (j,w)→abo r j=some g→g∈uses r o:=by
  intro j w g B E;unfold uses;rw[B];simp[E]
 unfold BM at e
 split at e
 ·cases e
 ·rename_i n
  split at e
  ·rename_i I;obtain⟨B,E,K,N⟩:=S e;refine⟨B,E,K,fun i a b c=> ?_⟩;obtain⟨d,O,P⟩:=N i a b c;exact⟨d,by unfold BM;rw[n,I];exact O,P⟩
  ·rename_i j w I
   split at e
   ·rename_i z y;have u:=J I y
    split at e
    ·rename_i b F
     split at e
     ·rename_i H;obtain⟨B,E,K,N⟩:=S e;refine⟨B,fun t k=>(E t k).trans (uN F t),K,fun i Q D R=> ?_⟩;have l:look aJ z i.env= .v false [.bool b]:=(D z u).trans F;obtain⟨d,O,P,Y,Z,h9,T⟩:=N { i with env:=(z,.v false [.bool b])::i.env } Q (fun t k=>by
       simp only;rw[uN l t,uN F t];exact D t k) R
      refine⟨d,?_,P,Y,fun t k=>(Z t k).trans (uN l t),h9,T⟩;unfold BM;simp only[n,I,y,l,H,O]
     ·rename_i H
      cases e;refine⟨rfl,fun t k=>by simp only[nT,if_neg k];exact uN F t,fun p _=>rfl,fun i Q D R=> ?_⟩;have l:look aJ z i.env= .v false [.bool b]:=(D z u).trans F;refine⟨{ i with env:=OO ((z,.v false [.bool b])::i.env) o.dst BH },?_,Q,fun t k=>by simp only[nT,if_pos k],fun t k=>by simp only[nT,if_neg k];exact uN l t,(fun p V=>by cases V),fun p _=>rfl⟩;unfold BM;simp only[n,I,y,l,H]
    ·rename_i F
     cases e;refine⟨rfl,fun t k=>by simp only[nT,if_neg k],fun p _=>rfl,fun i Q D R=> ?_⟩;have l:look aJ z i.env= .jN []:=(D z u).trans F;refine⟨{ i with env:=OO i.env o.dst BH },?_,Q,fun t k=>by simp only[nT,if_pos k],fun t k=>by simp only[nT,if_neg k],(fun p V=>by cases V),fun p _=>rfl⟩;unfold BM;simp only[n,I,y,l]
    ·cases e
   ·cases e
structure SR (w0:W0) (Z0 Zp:cD) (X:Cx) (s:St) (g:G) (a:Act) (w:World):Prop where
 env:∀t,AR w w0.heap.size Zp s.heap g (look aJ t s.env) (a.tmps.getD t undef)
 hr:HR w0 Z0 Zp s.heap g w
 nt:X.nt≤a.tmps.size
 defers:a.defers=[]
section
variable {P:Program} {w0:W0} {w w':World} {Z0 Zp:cD} {g:G} {X:Cx} {a:Act} {s s':St} {ops:Array Oper} {Q:Exit→Act→World→Prop} {K:Act→World→Prop}
structure Yo (P:Program) (X:Cx):Prop where
 tt:Yk P X.tt
 calls:∀f E,cW f X.calls=some E→aq P f E
 owns:∀f E,cW f X.owns=some E→as6 P f E
 stats:∀f E,cW f X.stats=some E→pS P f E
 Ue:ae1 P X.Ue
theorem aa1{base:Nat}{h:bm}{env:Env}(i:∀t,AR w base Zp h g (look aJ t env) (a.tmps.getD t undef)){b:Option Tmp}{x:A}{v:Value}(hx:AR w base Zp h g x v)(j:∀d,b=some d→d<a.tmps.size):
  ∀t,AR w base Zp h g (look aJ t (OO env b x)) ((a.put b v).tmps.getD t undef):=by
 intro t;rw[nT]
 cases b with
 |none=>simp only[Act.put];rw[if_neg (by simp)];exact i t
 |some d=>
  simp only[Act.put]
  by_cases c:d=t
  ·subst c;rw[if_pos rfl];have e:=j d rfl;have:(a.tmps.setIfInBounds d v).getD d undef=v:=by simp[Array.getD,e]
   rw[this];exact hx
  ·rw[if_neg (by simpa using c)];have:(a.tmps.setIfInBounds d v).getD t undef=a.tmps.getD t undef:=by
    simp only[bH,Array.getElem?_setIfInBounds_ne c]
   rw[this];exact i t
theorem Qo(b:Option Tmp)(v:Value):(a.put b v).tmps.size=a.tmps.size:=by cases b<;>simp[Act.put]
theorem put_defers(b:Option Tmp)(v:Value):(a.put b v).defers=a.defers:=by cases b<;>rfl
theorem aqS(k:Yo P X){new:Nat}{o:Oper}{L:Log}(S:SR w0 Z0 Zp X s g a w)(O:¬ g.al new)(F:agt X o.dst=true)(e:opE X new o s=some (s',L))
  (D:∀J w' g',SR w0 Z0 Zp X s' g' J w'→(∀p,g'.al p→g.al p∨p=new)→K J w'):o.wp P a w K Q:=by
 have l:∀d,o.dst=some d→d<a.tmps.size:=by
  intro d H;rw[H]at F;simp only[agt,eV]at F;exact ca F S.nt
 unfold opE at e
 split at e
 ·rename_i r h T N
  cases e
  by_cases E:ah4 o.op=false
  ·obtain⟨n,v,w',g',u,x,y,z,B,q⟩:=asX (P:=P) k.tt k.Ue S.hr O S.env E N;have b:=aa1 (a:=a) (fun t=>AR.mono z _ _ (S.env t)) B l;have R:SR w0 Z0 Zp X { s with env:=OO s.env o.dst r,heap:=h } g' (a.put o.dst v) w':=⟨b,y,by rw[Qo];exact S.nt,by rw[put_defers];exact S.defers⟩;unfold Oper.wp;rw[u];rcases x with rfl |⟨rfl,rfl⟩
   ·exact D _ _ _ R q
   ·exact D _ _ _ R q
  ·obtain⟨c,f,j,i⟩:∃c f,o.op= .call c∧c.callee= .value f:=by
    cases j:o.op<;>simp[j,ah4]at E;rename_i c
    cases i:c.callee<;>simp[i]at E;exact⟨c,_,rfl,i⟩
   obtain⟨f,M,u,x⟩:=aqO k.calls k.owns k.stats S.hr O S.env j i N;unfold Oper.wp;rw[u];refine x.mono fun e w' ⟨v,g',I,y,z,B,q⟩=> ?_;subst I;have b:=aa1 (a:=a) (fun t=>AR.mono z _ _ (S.env t)) B l;exact D _ _ _ ⟨b,y,by rw[Qo];exact S.nt,by rw[put_defers];exact S.defers⟩ q
 ·cases e
theorem aqT{ops:Array Oper}{j:Nat}{g:Tmp}(h:abo ops.toList j=some g):(ops[j]?).bind (·.dst)=some g:=by
 unfold abo at h;rw[cC]at h
 cases b:ops[j]? with
 |none=>simp[b]at h
 |some o=>simpa[b]using h
theorem amO{xs:Array Value}{t:Nat}{v:Value}(h:xs.getD t undef=v)(c:v≠undef):xs[t]? =some v:=by
 rw[bH]at h
 cases b:xs[t]? with
 |none=>simp[b]at h;exact absurd h.symm c
 |some u=>simp[b]at h;rw[h]
theorem aki(R:Yo P X){new i:Nat}{o:Oper}{L:Log}(U:ops[i]? =some o)(S:SR w0 Z0 Zp X s g a w)(T:¬ g.al new)(e:BM X ops.toList new o s=some (s',L))
  (E:∀O w' g',SR w0 Z0 Zp X s' g' O w'→(∀p,g'.al p→g.al p∨p=new)→K O w'):wpOp P ops Q i K a w:=by
 unfold wpOp;simp only[U];unfold BM at e
 split at e
 ·cases e
 ·rename_i x;have y:∀d,o.dst=some d→d<a.tmps.size:=by
   intro d I;rw[I]at x;simp only[agt,eV]at x;exact ca x S.nt
  split at e
  ·rename_i z;rw[if_pos (by simp[Region.wanted,z])];exact .inl (aqS R S T x e E)
  ·rename_i j B z
   split at e
   ·rename_i D J;have n:=aqT J
    split at e
    ·rename_i b F;have k:=S.env D;rw[F]at k;have k:=k.c;simp only[CR]at k;have M:=amO k (by simp[undef]);have H:yielded ops a.tmps j=some b:=by simp[yielded,n,M]
     have r:SR w0 Z0 Zp X { s with env:=(D,.v false [.bool b])::s.env } g a w:=⟨fun t=>by rw[uN F t];exact S.env t,S.hr,S.nt,S.defers⟩
     split at e
     ·rename_i l;have l:=toBeq l;subst l;rw[if_pos (by simp[Region.wanted,z,H])];exact .inl (aqS R r T x e E)
     ·rename_i l
      cases e;have N:b≠B:=by intro h;subst h;simp at l
      rw[if_neg (by simp[Region.wanted,z,H,N])];refine E _ _ g ⟨?_,S.hr,by rw[Qo];exact S.nt,by rw[put_defers];exact S.defers⟩ (fun p q=> .inl q);exact aa1 r.env AR.skip y
    ·rename_i F
     cases e;have k:=S.env D;rw[F]at k;obtain⟨W,k,q⟩:=k;simp only[dR]at q;subst q;have H:yielded ops a.tmps j=none:=by
      unfold yielded;rw[n];simp only[aa];rw[bH]at k
      cases V:a.tmps[D]? with
      |none=>rfl
      |some u=>simp[V]at k;subst k;rfl
     rw[if_neg (by simp[Region.wanted,z,H])];refine E _ _ g ⟨?_,S.hr,by rw[Qo];exact S.nt,by rw[put_defers];exact S.defers⟩ (fun p q=> .inl q);exact aa1 S.env AR.skip y
    ·cases e
   ·cases e
theorem akj(z:Yo P X):∀(n:Nat) (k new:Nat) (l:List Oper) (s:St) (t:List Log) (s':St) (b:List Log) (g:G) (a:Act) (w:World),l.length=n→(∀j:Nat,l[j]? =ops[k+j]?)→ae5 X ops.toList new l s t=some (s',b)→
  SR w0 Z0 Zp X s g a w→(∀p,g.al p→p<new)→(∀q w' g',SR w0 Z0 Zp X s' g' q w'→(∀p,g'.al p→p<new+n)→Q .normal q w')→wpOps P ops Q (List.range' k n) a w
 |0,k,new,l,s,t,s',b,g,a,w,r,_,e,S,c,u=>by
  have:l=[]:=List.length_eq_zero_iff.1 r;subst this
  cases e;exact u a w g S (by simpa using c)
 |n+1,k,new,l,s,t,s',b,g,a,w,r,d,e,S,c,u=>by
  cases l with
  |nil=>simp at r
  |cons o l=>
   simp only[ae5]at e
   split at e
   ·rename_i I L y;rw[List.range'_succ,wpOps_cons];refine aki z (by have:=d 0;simpa using this.symm) S (fun h=>Nat.lt_irrefl _ (c new h)) y fun q w' g' B i=> ?_;refine akj z n (k+1) (new+1) l I _ s' b g' q w' (by simpa using r) (fun j=>by have:=d (j+1);simpa[eZ,Nat.add_comm 1 j]using this) e B (fun p x=> ?_) (fun D J E F H=>u D J E F (fun p x=>by have:=H p x;omega));rcases i p x with h |h
    ·have:=c p h;omega
    ·omega
   ·cases e
end
theorem agF(acc:Nat→Nat)(i:Nat):∀(l:List Edge) (s:Nat),(l.foldl (fun s e=>if Region.binds .any e then s ||| 2^e.on ||| acc e.on else s) s).testBit i=true→
  s.testBit i=true∨∃e∈l,Region.binds .any e=true∧(e.on=i∨(acc e.on).testBit i=true)
 |[],s,h=> .inl h
 |e::l,s,h=>by
  simp only[List.foldl_cons]at h;rcases agF acc i l _ h with a |⟨d,b,a⟩
  ·split at a
   ·rename_i c;rw[Nat.testBit_or,Nat.testBit_or]at a;simp only[aD]at a;rcases a with(a |a)|a
    ·exact .inl a
    ·rw[Nat.testBit_two_pow]at a;exact .inr ⟨e,by simp,c,.inl (by simpa using a)⟩
    ·exact .inr ⟨e,by simp,c,.inr a⟩
   ·exact .inl a
  ·exact .inr ⟨d,by simp[b],a⟩
def Qp(acc:Nat→Nat)(o:Oper):Nat:=o.after.foldl (fun s e=>if Region.binds .any e then s ||| 2^e.on ||| acc e.on else s) 0
theorem WY:∀(l:List Oper) (acc:Array Nat),
  (l.foldl (fun acc o=>acc.push (Qp (fun k=>acc.getD k 0) o)) acc).size=acc.size+l.length∧
  (∀k,k<acc.size→(l.foldl (fun acc o=>acc.push (Qp (fun k=>acc.getD k 0) o)) acc).getD k 0=acc.getD k 0)∧
  ∀(j:Nat) (o:Oper),l[j]? =some o→∃a:Array Nat,a.size=acc.size+j∧(∀k,k<acc.size+j→a.getD k 0=(l.foldl (fun acc o=>acc.push (Qp (fun k=>acc.getD k 0) o)) acc).getD k 0)∧
   (l.foldl (fun acc o=>acc.push (Qp (fun k=>acc.getD k 0) o)) acc).getD (acc.size+j) 0=Qp (fun k=>a.getD k 0) o
 |[],acc=>⟨rfl,fun _ _=>rfl,fun j o h=>by simp at h⟩
 |o::l,acc=>by
  obtain⟨g,d,i⟩:=WY l (acc.push (Qp (fun k=>acc.getD k 0) o));simp only[List.foldl_cons,bg];simp only[Array.size_push]at g d i;have b:∀k,k<acc.size→(acc.push (Qp (fun k=>acc.getD k 0) o)).getD k 0=acc.getD k 0:=fun k c=>by
   simp only[bH,Array.getElem?_push,if_neg (Nat.ne_of_lt c)]
  refine⟨by rw[g];omega,fun k c=>(d k (by omega)).trans (b k c),fun j t e=> ?_⟩
  cases j with
  |zero=>
   simp at e;subst e;refine⟨acc,rfl,fun k c=>((d k (by omega)).trans (b k (by omega))).symm,?_⟩;rw[Nat.add_zero,d acc.size (by omega)];simp[bH]
  |succ j=>
   obtain⟨a,n,r,p⟩:=i j t (by simpa using e);have q:acc.size+1+j=acc.size+(j+1):=by omega
   rw[q]at n p;exact⟨a,n,fun k c=>r k (by omega),p⟩
theorem aph(ops:Array Oper):Region.before ops=ops.toList.foldl (fun acc o=>acc.push (Qp (fun k=>acc.getD k 0) o)) #[]:=by
 unfold Region.before;rw[←Array.foldl_toList];rfl
def Bef(ops:Array Oper)(i j:Nat):Prop:=((Region.before ops).getD j 0).testBit i=true
theorem akk{ops:Array Oper}{i j:Nat}{o:Oper}(t:ops[j]? =some o)(r:∀e∈o.after.toList,Region.binds .any e=true→e.on<j)(h:Bef ops i j):
  ∃e∈o.after.toList,Region.binds .any e=true∧(e.on=i∨Bef ops i e.on):=by
 unfold Bef at h ⊢;rw[aph]at h ⊢;obtain⟨_,_,n⟩:=WY ops.toList #[];obtain⟨a,p,d,g⟩:=n j o (by simpa using t);simp only[dZ,dr,dJ]at p d g;rw[g]at h;unfold Qp at h;rw[←Array.foldl_toList]at h;rcases agF (fun k=>a.getD k 0) i _ 0 h with c |⟨e,l,b,c⟩
 ·simp at c
 ·refine⟨e,l,b,c.imp id fun q=> ?_⟩;rw[←d e.on (r e l b)];exact q
theorem abO(X:Cx)(ops:List Oper):∀(l:List Oper) (new:Nat) (s:St) (b:List Log) (c:St) (a:List Log),ae5 X ops new l s b=some (c,a)→
  ∃(S:Nat→St) (Lg:Nat→Log),S 0=s∧S l.length=c∧(∀(i:Nat) (o:Oper),l[i]? =some o→BM X ops (new+i) o (S i)=some (S (i+1),Lg i))∧a=((List.range l.length).map Lg).reverse++b
 |[],new,s,b,c,a,e=>by
  cases e;exact⟨fun _=>s,fun _=>[],rfl,rfl,fun i o h=>by simp at h,by simp⟩
 |o::l,new,s,b,c,a,e=>by
  simp only[ae5]at e
  split at e
  ·rename_i t L g;obtain⟨S,Lg,k,n,p,q⟩:=abO X ops l (new+1) t (L::b) c a e;refine⟨fun i=>match i with |0=>s |i+1=>S i,fun i=>match i with |0=>L |i+1=>Lg i,rfl,n,fun i r d=> ?_,?_⟩
   ·cases i with
    |zero=>simp at d;subst d;simp only[Nat.add_zero,k];exact g
    |succ i=>
     have:=p i r (by simpa using d);have j:new+1+i=new+(i+1):=by omega
     rw[j]at this;exact this
   ·rw[q];simp[List.range_succ_eq_map,List.map_map,Function.comp_def]
  ·cases e
theorem agG(p:Nat→Prop):∀j,(∃i,i<j∧p i)→∃i,i<j∧p i∧∀k,k<j→p k→k≤i
 |0,⟨i,g,_⟩=>by omega
 |j+1,⟨i,g,c⟩=>by
  by_cases b:p j
  ·exact⟨j,by omega,b,fun k n _=>by omega⟩
  ·have l:i≠j:=fun h=>b (h▸c);obtain⟨m,o,d,e⟩:=agG p j ⟨i,by omega,c⟩;exact⟨m,by omega,d,fun k n a=>e k (by
    rcases Nat.lt_or_ge k j with h |h
    ·exact h
    ·have:k=j:=by omega
     subst this;exact absurd a b) a⟩
theorem ah7{V:Type}(val:Nat→V)(wr:Nat→Prop)(n:Nat)(e:∀i,i<n→¬ wr i→val (i+1)=val i):∀(d i:Nat),i+d≤n→(∀k,i≤k→k<i+d→¬ wr k)→val (i+d)=val i
 |0,i,_,_=>rfl
 |d+1,i,g,a=>by
  have b:=e (i+d) (by omega) (a (i+d) (by omega) (by omega));have c:=ah7 val wr n e d i (by omega) (fun k b c=>a k b (by omega));rw[show i+(d+1)=i+d+1 by omega,b,c]
theorem aos{V:Type}(val:Nat→V)(d:V)(wr a:Nat→Prop)(n j:Nat)(B:j≤n)(t:∀i,i<n→¬ wr i→val (i+1)=val i)(l:(∀i,a i→¬ wr i)→d=val 0)
  (o:∀i,a i→wr i→(∀k,a k→wr k→k≤i)→d=val (i+1)) (g:∀i,a i→wr i→i<j) (c:∀k,k<j→wr k→a k):d=val j:=by
 by_cases h:∃i,i<j∧(a i∧wr i)
 ·obtain⟨i,z,⟨w,x⟩,r⟩:=agG (fun i=>a i∧wr i) j h;rw[o i w x fun k u b=>r k (g k u b) ⟨u,b⟩];have:=ah7 val wr n t (j -(i+1)) (i+1) (by omega) fun k y p b=>by
   have:=r k (by omega) ⟨c k (by omega) b,b⟩;omega
  rw[show i+1+(j -(i+1))=j by omega]at this;exact this.symm
 ·have q:∀i,i<j→¬ wr i:=fun i e b=>h ⟨i,e,c i e b,b⟩;rw[l fun i e b=>h ⟨i,g i e b,e,b⟩];have:=ah7 val wr n t j 0 (by omega) fun k _ p=>q k (by omega);rw[dJ]at this;exact this.symm
structure Run (X:Cx) (ops:Array Oper) (base:Nat) (S:Nat→St) (Lg:Nat→Log):Prop where
 step:∀(i:Nat) (o:Oper),ops[i]? =some o→BM X ops.toList (base+i) o (S i)=some (S (i+1),Lg i)
 back:∀(j:Nat) (o:Oper),ops[j]? =some o→∀e∈o.after.toList,Region.binds .any e=true→e.on<j
 apart:∀(i j:Nat) (x y:Oper),ops[i]? =some x→ops[j]? =some y→i<j→Bef ops i j∨(rG ops.toList x y=true∧L5 (Lg i) (Lg j)=true)
def Ma(ops:Array Oper)(t:Tmp)(i:Nat):Prop:=∃o,ops[i]? =some o∧o.dst=some t
def Mb(Lg:Nat→Log)(n o i:Nat):Prop:=i<n∧(o,true)∈Lg i
def cX(n:Nat)(listed:Array Bool)(i:Nat):Prop:=i<n∧listed.getD i true=true
structure Inv (ops:Array Oper) (S:Nat→St) (Lg:Nat→Log) (listed:Array Bool) (s:St):Prop where
 size:listed.size=ops.size
 next:s.next=(S 0).next
 avs:∀t,(∀i,cX ops.size listed i→¬ Ma ops t i)→look aJ t s.env=look aJ t (S 0).env
 avt:∀t i,cX ops.size listed i→Ma ops t i→(∀k,cX ops.size listed k→Ma ops t k→k≤i)→look aJ t s.env=look aJ t (S (i+1)).env
 aqU:∀o,(∀i,cX ops.size listed i→¬ Mb Lg ops.size o i)→look .dead o s.heap=look .dead o (S 0).heap
 aqV:∀o i,cX ops.size listed i→Mb Lg ops.size o i→(∀k,cX ops.size listed k→Mb Lg ops.size o k→k≤i)→look .dead o s.heap=look .dead o (S (i+1)).heap
 closed:∀i j,cX ops.size listed j→Bef ops i j→cX ops.size listed i
section
variable {X:Cx} {ops:Array Oper} {base:Nat} {S:Nat→St} {Lg:Nat→Log} {listed:Array Bool} {s:St}
theorem Run.lt(_:Run X ops base S Lg){i:Nat}{o:Oper}(h:ops[i]? =some o):i<ops.size:=(Array.getElem?_eq_some_iff.1 h).1
theorem Run.next(R:Run X ops base S Lg){i:Nat}(hi:i≤ops.size):(S i).next=(S 0).next:=by
 induction i with
 |zero=>rfl
 |succ i j=>
  have:=mQ (R.step i ops[i] (bR (by omega)));exact this.1.trans (j (by omega))
theorem abP{ops:List Oper}{x y:Oper}(h:rG ops x y=true){t:Tmp}(hx:x.dst=some t):t∉uses ops y:=by
 unfold rG at h;rw[hx]at h;simp only[ak,dY]at h;intro a;have:=h.1.1 t a;simp at this
theorem ae6{ops:List Oper}{x y:Oper}(h:rG ops x y=true){t:Tmp}(hx:x.dst=some t):y.dst≠some t:=by
 unfold rG at h;rw[hx]at h;simp only[ak]at h;intro a;have:=h.1.2;rw[a]at this;simp at this
theorem abQ{ops:List Oper}{x y:Oper}(h:rG ops x y=true){t:Tmp}(b:y.dst=some t):t∉uses ops x:=by
 unfold rG at h;rw[b]at h;simp only[ak,dY]at h;intro a;have:=h.2 t a;simp at this
theorem OX{a b:Log}(h:L5 a b=true){o:Nat}{w w':Bool}(c:(o,w)∈a)(d:(o,w')∈b):w=false∧w'=false:=by
 unfold L5 at h;simp only[dY]at h;have:=h _ c _ d;simpa using this
theorem akl(R:Run X ops base S Lg)(I:Inv ops S Lg listed s){j:Nat}{y:Oper}(r:ops[j]? =some y)(n:¬ cX ops.size listed j)
  (g:∀e∈y.after.toList,Region.binds .any e=true→cX ops.size listed e.on):
  (∀t∈uses ops.toList y,look aJ t s.env=look aJ t (S j).env)∧(∀p∈Lg j,look .dead p.1 s.heap=look .dead p.1 (S j).heap):=by
 have K:=R.lt r;have l:∀i,Bef ops i j→cX ops.size listed i:=fun i z=>by
  obtain⟨e,F,u,a⟩:=akk r (R.back j y r) z;rcases a with a |a
  ·exact a▸g e F u
  ·exact I.closed i _ (g e F u) a
 have d:∀i,cX ops.size listed i→¬ Bef ops j i:=fun i b z=>n (I.closed j i b z);refine⟨fun t J=> ?_,fun p H=> ?_⟩
 ·refine aos (fun i=>look aJ t (S i).env) _ (Ma ops t) (cX ops.size listed) ops.size j (by omega) (fun i b c=> ?_) (I.avs t) (I.avt t) (fun i b c=> ?_) (fun k B c=> ?_)
  ·exact(mQ (R.step i ops[i] (bR b))).2.1 t (fun h=>c ⟨_,bR b,h⟩)
  ·obtain⟨x,E,q⟩:=c;rcases Nat.lt_or_ge i j with h |h
   ·exact h
   ·have D:i≠j:=fun h=>n (h▸b);rcases R.apart j i y x r E (by omega)with a |a
    ·exact absurd a (d i b)
    ·exact absurd J (abQ a.1 q)
  ·obtain⟨x,E,q⟩:=c;rcases R.apart k j x y E r B with a |a
   ·exact l k a
   ·exact absurd J (abP a.1 q)
 ·obtain⟨o,w⟩:=p;refine aos (fun i=>look .dead o (S i).heap) _ (Mb Lg ops.size o) (cX ops.size listed) ops.size j (by omega) (fun i b c=> ?_) (I.aqU o) (I.aqV o) (fun i b c=> ?_) (fun k B c=> ?_)
  ·exact(mQ (R.step i ops[i] (bR b))).2.2.1 o (fun h=>c ⟨b,h⟩)
  ·rcases Nat.lt_or_ge i j with h |h
   ·exact h
   ·have D:i≠j:=fun h=>n (h▸b);rcases R.apart j i y _ r (bR c.1) (by omega)with a |a
    ·exact absurd a (d i b)
    ·have:=OX a.2 H c.2
     cases this.2
  ·rcases R.apart k j _ y (bR c.1) r B with a |a
   ·exact l k a
   ·have:=OX a.2 c.2 H
    cases this.1
theorem zC{n j k:Nat}{listed:Array Bool}(c:listed.size=n)(b:j<n):cX n (listed.setIfInBounds j true) k↔cX n listed k∨k=j:=by
 unfold cX;simp only[bH]
 by_cases h:j=k
 ·subst h;have:j<listed.size:=by omega
  simp[this,b]
 ·rw[Array.getElem?_setIfInBounds_ne h];constructor
  ·exact .inl
  ·rintro(a |a)
   ·exact a
   ·exact absurd a.symm h
theorem aqW(R:Run X ops base S Lg)(I:Inv ops S Lg listed s){j:Nat}{y:Oper}(q:ops[j]? =some y)(r:¬ cX ops.size listed j)
  (c:∀e∈y.after.toList,Region.binds .any e=true→cX ops.size listed e.on):
  ∃H,BM X ops.toList (base+j) y s=some (H,Lg j)∧Inv ops S Lg (listed.setIfInBounds j true) H:=by
 have K:=R.lt q;obtain⟨hu,Y⟩:=akl R I q r c;obtain⟨_,l1,l2,l3⟩:=mQ (R.step j y q);obtain⟨H,T,U,V,O,W,P⟩:=l3 s (I.next.trans (R.next (by omega)).symm) hu Y;have g:∀i,cX ops.size listed i→¬ Bef ops j i:=fun i l E=>r (I.closed j i l E);have LS:∀k,cX ops.size (listed.setIfInBounds j true) k↔cX ops.size listed k∨k=j:=fun k=>zC I.size K;have N:∀t k,y.dst=some t→cX ops.size listed k→Ma ops t k→k<j:=by
  intro t k a n ⟨x,F,z⟩;rcases Nat.lt_or_ge k j with h |h
  ·exact h
  ·have L:k≠j:=fun h=>r (h▸n);rcases R.apart j k y x q F (by omega)with d |d
   ·exact absurd d (g k n)
   ·exact absurd z (ae6 d.1 a)
 have M:∀o k,(o,true)∈Lg j→cX ops.size listed k→Mb Lg ops.size o k→k<j:=by
  intro o k Z n p;rcases Nat.lt_or_ge k j with h |h
  ·exact h
  ·have L:k≠j:=fun h=>r (h▸n);rcases R.apart j k y _ q (bR p.1) (by omega)with d |d
   ·exact absurd d (g k n)
   ·have:=OX d.2 Z p.2
    cases this.1
 refine⟨H,T,by simp[I.size],U.trans (R.next (by omega)),fun t B=> ?_,fun t i l p b=> ?_,fun o B=> ?_,fun o i l p b=> ?_,fun i k n E=> ?_⟩
 ·have a:y.dst≠some t:=fun h=>B j ((LS j).2 (.inr rfl)) ⟨y,q,h⟩;rw[O t a];exact I.avs t fun i l=>B i ((LS i).2 (.inl l))
 ·by_cases a:y.dst=some t
  ·have J:j≤i:=b j ((LS j).2 (.inr rfl)) ⟨y,q,a⟩;have:i=j:=by
    rcases(LS i).1 l with h |h
    ·have:=N t i a h p;omega
    ·exact h
   subst this;exact V t a
  ·rw[O t a];have u:cX ops.size listed i:=by
    rcases(LS i).1 l with h |h
    ·exact h
    ·subst h;obtain⟨x,F,z⟩:=p;rw[q]at F;cases F;exact absurd z a
   exact I.avt t i u p fun k n w=>b k ((LS k).2 (.inl n)) w
 ·have a:(o,true)∉Lg j:=fun h=>B j ((LS j).2 (.inr rfl)) ⟨K,h⟩;rw[P o a];exact I.aqU o fun i l=>B i ((LS i).2 (.inl l))
 ·by_cases a:(o,true)∈Lg j
  ·have J:j≤i:=b j ((LS j).2 (.inr rfl)) ⟨K,a⟩;have:i=j:=by
    rcases(LS i).1 l with h |h
    ·have:=M o i a h p;omega
    ·exact h
   subst this;exact W o a
  ·rw[P o a];have u:cX ops.size listed i:=by
    rcases(LS i).1 l with h |h
    ·exact h
    ·subst h;exact absurd p.2 a
   exact I.aqV o i u p fun k n w=>b k ((LS k).2 (.inl n)) w
 ·rcases(LS k).1 n with h |h
  ·exact(LS i).2 (.inl (I.closed i k h E))
  ·subst h;obtain⟨e,Q,D,d⟩:=akk q (R.back k y q) E;rcases d with d |d
   ·exact(LS i).2 (.inl (d▸c e Q D))
   ·exact(LS i).2 (.inl (I.closed i _ (c e Q D) d))
theorem aot(R:Run X ops base S Lg)(I:Inv ops S Lg listed s)(b:∀i,i<ops.size→cX ops.size listed i):axg s (S ops.size):=by
 refine⟨I.next.trans (R.next (az _)).symm,fun t=> ?_,fun o=> ?_⟩
 ·exact aos (fun i=>look aJ t (S i).env) _ (Ma ops t) (cX ops.size listed) ops.size ops.size (az _)
   (fun i a d=>(mQ (R.step i ops[i] (bR a))).2.1 t (fun h=>d ⟨_,bR a,h⟩)) (I.avs t) (I.avt t) (fun i a _=>a.1) (fun k c _=>b k c)
 ·exact aos (fun i=>look .dead o (S i).heap) _ (Mb Lg ops.size o) (cX ops.size listed) ops.size ops.size (az _)
   (fun i a d=>(mQ (R.step i ops[i] (bR a))).2.2.1 o (fun h=>d ⟨a,h⟩)) (I.aqU o) (I.aqV o) (fun i a _=>a.1) (fun k c _=>b k c)
end
section
variable {P:Program} {w0:W0} {w w':World} {Z0 Zp:cD} {g:G} {X:Cx} {a:Act} {s s':St} {ops:Array Oper} {Q:Exit→Act→World→Prop} {S:Nat→St} {Lg:Nat→Log} {listed:Array Bool} {base:Nat}
theorem SR.same(h:SR w0 Z0 Zp X s g a w)(e:axg s s'):SR w0 Z0 Zp X s' g a w:=
 ⟨fun t=>by rw[←e.env t];exact AR.mono (Le.same e.heap) _ _ (h.env t),h.hr.same e.heap,h.nt,h.defers⟩
def unl(n:Nat)(listed:Array Bool):Nat:=(List.range n).countP fun i=> !listed.getD i true
theorem agH{α:Type}{p q:α→Bool}:∀{l:List α},(∀x∈l,q x=true→p x=true)→(∃x∈l,p x=true∧q x=false)→l.countP q<l.countP p
 |[],_,⟨x,d,_⟩=>by cases d
 |y::l,h,⟨x,d,j,k⟩=>by
  have n:l.countP q≤l.countP p:=List.countP_mono_left fun z i=>h z (by simp[i]);rw[List.countP_cons,List.countP_cons]
  by_cases b:x=y
  ·subst b;simp[j,k];omega
  ·have e:x∈l:=by simpa[b]using d
   have r:=agH (p:=p) (q:=q) (fun z i=>h z (by simp[i])) ⟨x,e,j,k⟩;have o:=h y (by simp)
   cases c:q y
   ·cases p y<;>simp<;>omega
   ·rw[o c];simp;exact r
theorem as3(W:Yo P X)(R:Run X ops base S Lg):∀(fuel:Nat) (listed:Array Bool) (s:St) (g:G) (a:Act) (w:World),Inv ops S Lg listed s→SR w0 Z0 Zp X s g a w→
  (∀p,g.al p→p<base+ops.size∧∀i,¬ cX ops.size listed i→i<ops.size→p≠base+i)→unl ops.size listed≤fuel→
  (∀H w' g',SR w0 Z0 Zp X (S ops.size) g' H w'→(∀p,g'.al p→p<base+ops.size)→Q .normal H w')→wpAny P .any ops Q fuel listed a w:=by
 intro fuel
 induction fuel with
 |zero=>
  intro listed s g a w I K d Y J;have b:∀i,i<ops.size→cX ops.size listed i:=fun i c=>⟨c,by
   cases r:listed.getD i true with
   |true=>rfl
   |false=>
    have:0<unl ops.size listed:=List.countP_pos_iff.2 ⟨i,by simpa using c,by simp only[r,Bool.not_false]⟩;omega⟩
  refine⟨?_,J a w g (K.same (aot R I b)) fun p D=>(d p D).1⟩;rw[Region.ready,List.filter_eq_nil_iff];intro i c;have:=(b i (by simpa using c)).2;simp[this]
 |succ fuel ih=>
  intro listed s g a w I K d Y J;refine⟨fun Z=> ?_,fun j O=> ?_⟩
  ·have b:∀i,i<ops.size→cX ops.size listed i:=by
    intro i
    induction i using Nat.strongRecOn with
    |_ i N=>
     intro c;refine⟨c,?_⟩
     cases r:listed.getD i true with
     |true=>rfl
     |false=>
      exfalso;have o:i∈Region.ready .any ops listed:=by
       rw[mem_ready];refine⟨r,ops[i],bR c,fun e u z=> ?_⟩;have t:=R.back i ops[i] (bR c) e (by simpa using u) z;have L:=(N e.on t (by omega)).2;have:e.on<listed.size:=by rw[I.size];omega
       simpa[bH,this]using L
      rw[Z]at o
      cases o
   exact J a w g (K.same (aot R I b)) fun p D=>(d p D).1
  ·rw[mem_ready]at O;obtain⟨n,y,F,q⟩:=O;have l:=R.lt F;have E:¬ cX ops.size listed j:=fun h=>by have:=h.2;rw[n]at this;cases this
   obtain⟨s',V,U⟩:=aqW R I F E fun e u z=>⟨by have:=R.back j y F e u z;omega,by
    have L:=q e (by simpa using u) z;have t:e.on<listed.size:=by have:=R.back j y F e u z;rw[I.size];omega
    simpa[bH,t]using L⟩
   refine aki W F K (fun h=>(d _ h).2 j E l rfl) V fun H w' g' M x=> ?_;refine ih _ s' g' H w' U M (fun p D=> ?_) ?_ J
   ·rcases x p D with h |h
    ·exact⟨(d p h).1,fun i c B=>(d p h).2 i (fun r=>c ((zC I.size l).2 (.inl r))) B⟩
    ·subst h;exact⟨by omega,fun i c B u=>c ((zC I.size l).2 (.inr (by omega)))⟩
   ·have:unl ops.size (listed.setIfInBounds j true)<unl ops.size listed:=by
     refine agH (fun i c T=> ?_) ⟨j,by simpa using l,by simp only[n,Bool.not_false],?_⟩
     ·cases r:listed.getD i true with
      |false=>rfl
      |true=>
       exfalso;have:=((zC (k:=i) I.size l).2 (.inl ⟨by simpa using c,r⟩)).2;rw[this]at T
       cases T
     ·have:=((zC (k:=j) I.size l).2 (.inr rfl)).2;rw[this];rfl
    omega
theorem Le.drew:Le Zp s.heap g w s.heap g w.drew:=
 ⟨fun _ h=>h,fun _ _ h=>⟨h,rfl⟩,fun _ _ h=>⟨h,rfl⟩,fun _ _=>Ob.to.refl _,fun _ _ _=>rfl,fun _ _ _=>⟨rfl,fun _ _=>rfl⟩,fun _ _ _ h=>h⟩
theorem SR.drew(h:SR w0 Z0 Zp X s g a w):SR w0 Z0 Zp X s g a w.drew:=by
 have hr:=h.hr;exact⟨fun t=>AR.mono Le.drew _ _ (h.env t),⟨hr.ext.drew,fun o=>Qf.mono Le.drew (.inr rfl) (fun _ _ _=>rfl) (hr.ob o),hr.dead,hr.home,hr.nA,hr.kS,hr.Mv,hr.Mw,hr.Ji,hr.z0,hr.zp,
  hr.gh.keep Le.drew (fun _ _ _ _ h=>h) rfl (fun _ _ _ _=>rfl) (az _) hr.gh.kS hr.gh.loc⟩,h.nt,h.defers⟩
theorem SR.reserve(h:SR w0 Z0 Zp X s g a w)(n:Nat):SR w0 Z0 Zp X { s with next:=n } g a w:=⟨h.env,h.hr,h.nt,h.defers⟩
theorem OY{R:Type}(hX:Yo P X)(hm:P.follows .mixedOrders=true){id:Nat}{b:Bool}{K:St→Option R}{r:R}(e:FT X ops b K s=some r)(hS:SR w0 Z0 Zp X s g a w)(u:∀p,g.al p→p<s.next)
  (hQ:∀s' B w' g',K s'=some r→SR w0 Z0 Zp X s' g' B w'→(∀p,g'.al p→p<s'.next)→Q .normal B w'):(Code.region id ops b).wp P Q a w:=by
 unfold FT at e;simp only at e;rw[yx]at e
 cases D:ae5 X ops.toList s.next ops.toList { s with next:=s.next+ops.toList.length } []with
 |none=>rw[D]at e;cases e
 |some q=>
  obtain⟨H,O⟩:=q;rw[D]at e;simp only[aa]at e;obtain⟨S,Lg,Y,Z,h2,h3⟩:=abO X ops.toList ops.toList s.next _ [] H O D;have k:H.next=s.next+ops.size:=by
   have h4:∀i,i≤ops.toList.length→(S i).next=s.next+ops.size:=by
    intro i
    induction i with
    |zero=>intro _;rw[Y];simp
    |succ i ih=>
     intro M;have:=mQ (h2 i (ops.toList[i]'(by omega)) (ai (by omega)));rw[this.1];exact ih (by omega)
   rw[←Z];exact h4 _ (az _)
  cases b with
  |false=>
   refine wp_region ?_;rw[List.range_eq_range'];refine akj hX ops.size 0 s.next ops.toList _ [] H O g a w (by simp) (fun j=>by simp) D (hS.reserve _) u fun B w' g' n c=> ?_;exact hQ H B w' g' e n (fun p F=>by rw[k];exact c p F)
  |true=>
   simp only at e
   split at e
   ·rename_i J;have L:O.reverse=(List.range ops.size).map Lg:=by
     rw[h3];simp
    rw[L]at J;unfold amA at J;simp only[dY]at J;have d:∀(j:Nat) (o:Oper),ops[j]? =some o→ops.toList[j]? =some o∧((List.range ops.size).map Lg)[j]? =some (Lg j)∧j<ops.size:=fun j o E=>by
     have N:j<ops.size:=(Array.getElem?_eq_some_iff.1 E).1;exact⟨by simpa using E,by simp[N],N⟩
    have Rn:Run X ops s.next S Lg:=by
     refine⟨fun i o E=>h2 i o (by simpa using E),fun j o E e D hb=> ?_,fun i j x y hx hy W=> ?_⟩
     ·obtain⟨g1,T,U⟩:=d j o E;have:=J j (by simpa using U);rw[g1,T]at this;simp only[ak]at this;have l:=this.1;rw[Array.all_eq_true_iff_forall_mem]at l;have I:=l e (by simpa using D);rw[hb]at I;simp[eV]at I;exact I
     ·obtain⟨g1,T,U⟩:=d j y hy;obtain⟨k1,k2,k3⟩:=d i x hx;have:=J j (by simpa using U);rw[g1,T]at this;simp only[ak,dY]at this;have l:=this.2 i (by simpa using W);rw[k1,k2]at l;simp only[aD,ak]at l;rcases l with l |l
      ·exact .inl l
      ·exact .inr l
    refine wp_region_any hm ?_;have V:SR w0 Z0 Zp X (S 0) g a w.drew:=by rw[Y];exact(hS.reserve _).drew
    have z:∀i,¬ cX ops.size (Array.replicate ops.size false) i:=fun i h=>by
     have I:=h.2;simp[bH,h.1]at I
    refine as3 hX Rn ops.size _ (S 0) g a w.drew ⟨by simp,rfl,fun _ _=>rfl,fun t i M=>absurd M (z i),fun _ _=>rfl,fun o i M=>absurd M (z i),fun i j N=>absurd N (z j)⟩ V
     (fun p F=>⟨by have:=u p F;omega,fun i _ _ h=>by have:=u p F;omega⟩) ?_ fun B w' g' n c=> ?_
    ·exact ei List.countP_le_length (by simp)
    ·have:S ops.size=H:=by rw[←Z];simp
     rw[this]at n;exact hQ H B w' g' e n (fun p F=>by rw[k];exact c p F)
   ·cases e
end
section
variable {P:Program} {w0:W0} {w:World} {Z0 Zp:cD} {g G2:G} {X:Cx} {a:Act} {s s':St} {H H2 h h1:bm} {base next n0:Nat}
structure Hand (g:G) (G2:G) (n0:Nat) (ts:List (Option Nat)):Prop where
 tok:∀(i:Nat) (t:Option Nat),ts[i]? =some t→G2.al (n0+i)∧G2.hm (n0+i)=t.bind g.hm∧∀o,t=some o→G2.lo (n0+i)=g.lo o
structure Kept (g:G) (H:bm) (next:Nat) (G2:G) (H2:bm):Prop where
 al:∀o,o<next→g.al o→G2.al o
 ob:∀o,o<next→(look .dead o H).to (look .dead o H2)
 hm:∀o,o<next→G2.hm o=g.hm o
 z:G2.Z=g.Z
 pm:G2.pm=g.pm
theorem Hand.left{ts us:List (Option Nat)}(h:Hand g G2 n0 (ts++us)):Hand g G2 n0 ts:=
 ⟨fun i t hi=>h.tok i t (by rw[aP (List.getElem?_eq_some_iff.1 hi).1];exact hi)⟩
theorem Hand.right{ts us:List (Option Nat)}(h:Hand g G2 n0 (ts++us)):Hand g G2 (n0+ts.length) us:=
 ⟨fun i t hi=>by
  have:=h.tok (ts.length+i) t (by rw[bc (by omega)];simpa using hi);rw[eZ];exact this⟩
def dV(h h1:bm):Prop:=∀o,look .dead o h1=look .dead o h∨look .dead o h1= .dead
theorem dV.refl:dV h h:=fun _=> .inl rfl
theorem dV.trans{y:bm}(a:dV h h1)(b:dV h1 y):dV h y:=fun o=>by
 rcases b o with i |i
 ·rcases a o with j |j
  ·exact .inl (i.trans j)
  ·exact .inr (i.trans j)
 ·exact .inr i
theorem dV.dead{h1:bm}(a:dV h h1){o:Nat}(hd:look .dead o h= .dead):look .dead o h1= .dead:=by
 rcases a o with i |i
 ·exact i.trans hd
 ·exact i
theorem dV.back{h1:bm}(a:dV h h1){o:Nat}(hd:look .dead o h1≠.dead):look .dead o h=look .dead o h1:=by
 rcases a o with i |i
 ·exact i.symm
 ·exact absurd i hd
theorem dV.amP(o:Nat):dV h ((o,.dead)::h):=fun p=>by
 rw[aW]
 split
 ·exact .inr rfl
 ·exact .inl rfl
structure fR (h h1:bm) (ts:List (Option Nat)):Prop where
 was:∀o,some o∈ts→look .dead o h≠.dead
 gone:∀o,some o∈ts→look .dead o h1= .dead
 sub:dV h h1
 nodup:(ts.filterMap id).Nodup
theorem fR.nil:fR h h []:=⟨fun _ h=>by simp at h,fun _ h=>by simp at h,dV.refl,by simp⟩
theorem fR.one{o:Nat}(j:look .dead o h≠.dead):fR h ((o,.dead)::h) [some o]:=
 ⟨fun p i=>by simp at i;subst i;exact j,fun p i=>by simp at i;subst i;rw[aW,if_pos rfl],dV.amP o,by simp⟩
theorem fR.app{D:bm}{ts us:List (Option Nat)}(a:fR h h1 ts)(b:fR h1 D us):fR h D (ts++us):=by
 refine⟨fun o i=> ?_,fun o i=> ?_,a.sub.trans b.sub,?_⟩
 ·rcases List.mem_append.1 i with i |i
  ·exact a.was o i
  ·have:=b.was o i;rw[←a.sub.back this]at this;exact this
 ·rcases List.mem_append.1 i with i |i
  ·exact b.sub.dead (a.gone o i)
  ·exact b.gone o i
 ·rw[List.filterMap_append,List.nodup_append];refine⟨a.nodup,b.nodup,fun x E y I j=> ?_⟩;subst j;exact b.was x (by simpa using I) (a.gone x (by simpa using E))
theorem CR.kept(K:Kept g H next G2 H2){c:C}(L:Ui next c=true){v:Value}(M:CR w base Zp H g c v):CR w base Zp H2 G2 c v:=by
 cases c<;>simp only[Ui,cn]at L
 case vec o=>
  have i:o<next:=by simpa[eV]using L
  obtain⟨h1,y,E⟩:=M;exact⟨K.al o i h1,y,fun e n O=>by
   obtain⟨b,I,J⟩:=E e n ((K.ob o i).row O);exact⟨b,(K.hm o i).trans I,J⟩⟩
 case ptr o V=>
  have i:o<next:=by simpa[eV]using L
  obtain⟨h1,y,E⟩:=M;exact⟨K.al o i h1,y,fun O=>by
   obtain⟨b,I,J⟩:=E ((K.ob o i).alive O);exact⟨b,(K.hm o i).trans I,J⟩⟩
 case clos f j=>
  obtain⟨N,h1,y⟩:=M;refine⟨N,h1,?_⟩;have:∀(j:List Nat) (vs:List Value),(∀o∈j,o<next)→dR (fun o es=>g.al o∧∃u,es=[u]∧MU u∧(look .dead o H≠.dead→∃b,g.hm o=some b∧u= .pointer (some ⟨b,0,none⟩))) j vs→
    dR (fun o es=>G2.al o∧∃u,es=[u]∧MU u∧(look .dead o H2≠.dead→∃b,G2.hm o=some b∧u= .pointer (some ⟨b,0,none⟩))) j vs:=by
   intro j
   induction j with
   |nil=>intro vs _ h;exact h
   |cons o j U=>
    intro vs Q ⟨es,D,e,⟨h1,u,y,E,I⟩,J⟩;have i:=Q o (by simp);exact⟨es,D,e,⟨K.al o i h1,u,y,E,fun O=>by
     obtain⟨b,R,S⟩:=I ((K.ob o i).alive O);exact⟨b,(K.hm o i).trans R,S⟩⟩,U D (fun p T=>Q p (by simp[T])) J⟩
  exact this j _ (fun o i=>by
   simp only[dY]at L;simpa[eV]using L o i) y
 case nilfn=>exact M
 case nilp=>exact M
 case mp o=>
  have i:o<next:=by simpa[Ui,eV]using L
  obtain⟨h1,y,E⟩:=M;exact⟨K.al o i h1,y,fun hd=>by
   obtain⟨b,I,J⟩:=E ((K.ob o i).alive hd);exact⟨b,(K.hm o i).trans I,J⟩⟩
theorem akm{c d:C}(h:aok c d=true):c=d:=by
 cases c<;>cases d<;>simp only[aok,cn,ak]at h
 case vec.vec=>rw[aA h]
 case ptr.ptr=>rw[aA h.1,aA h.2]
 case clos.clos=>rw[aA h.1,eq_of_beq h.2]
 case nilfn.nilfn=>rfl
 case nilp.nilp=>rfl
 case mp.mp=>rw[aA h]
theorem amQ{a:A}(h:ahR next a=true):∃c,a= .v false [c]∧Ui next c=true:=by
 unfold ahR at h
 split at h
 ·exact⟨_,rfl,h⟩
 ·cases h
theorem aqX{a b:A}(h:aol a b=true):a=b:=by
 unfold aol at h
 split at h
 ·rw[akm h]
 ·cases h
def ll(h:bm)(ts:List (Option Nat)):Prop:=∀o,some o∈ts→look .dead o h= .tok
theorem ll.nil:ll h []:=fun _ h=>by simp at h
theorem ll.app{ts us:List (Option Nat)}(a:ll h ts)(b:ll h1 us)(d:dV h h1):ll h (ts++us):=fun o i=>by
 rcases List.mem_append.1 i with i |i
 ·exact a o i
 ·have:=b o i;rw[d.back (by rw[this];simp)];exact this
theorem akn(j:dV H h){e:Ty}{c:C}{l:List e.den}{v:Value}(z:CR w base Zp H g c v)(i:ajV e c h=some (l,h1)):
  ∃t:Option Nat,fR h h1 [t]∧ll h [t]∧∀H2 G2 n0,Hand g G2 n0 [t]→G2.Z=g.Z→CR w base Zp H2 G2 (.sl e l (.own n0)) v:=by
 unfold ajV at i
 split at i
 ·cases i;simp only[CR]at z;subst z;refine⟨none,⟨fun o h=>by simp at h,fun o h=>by simp at h,dV.refl,by simp⟩,fun o h=>by simp at h,fun H2 G2 n0 B I=> ?_⟩;obtain⟨Q,y,_⟩:=B.tok 0 none rfl;exact⟨⟨none,0,[],rfl,az _,rfl,fun h=>absurd rfl h⟩,Q,fun _=> .inl ⟨y,rfl,rfl⟩⟩
 ·rename_i V W o
  split at i
  ·rename_i d
   split at i
   ·rename_i Y D;obtain⟨T,E⟩:=nS D;subst T;subst E
    cases i;refine⟨some o,fR.one (by rw[d];simp),fun p k=>by simp at k;subst k;exact d,fun H2 G2 n0 B I=> ?_⟩;obtain⟨y,F,R⟩:=B.tok 0 (some o) rfl;obtain⟨k,S,U⟩:=z;refine⟨?_,y,fun _=> ?_⟩
    ·rw[I];exact k
    ·rcases U ((j.back (by rw[d];simp)).trans d)with⟨n,q,r⟩|⟨b,u,x,O,n,q,r,J,K,L,M,N⟩
     ·exact .inl ⟨by rw[←Nat.add_zero n0,F];exact n,q,r⟩
     ·exact .inr ⟨b,u,x,O,by rw[←Nat.add_zero n0,F];exact n,q,r,J,K,L,M,by rw[←Nat.add_zero n0,R o rfl];exact N⟩
   ·cases i
  ·cases i
 ·cases i
theorem AR.list{agg:Bool}{cs:List C}{v:Value}{τ:Ty}{x:τ.den}(E:agg=τ.isAgg)(hh:AR w base Zp H g (.v agg cs) v)(i:τ.cE=true)(hx:τ.dC cs=some x)(hz:G2.Z=g.Z):AR w base Zp H2 G2 (.v τ.isAgg (τ.cells x)) v:=by
 obtain⟨vs,h1,y,D⟩:=VR.list hh;have j:=ez i h1 hx;rw[←hz]at j;have:=dM.ar2 (base:=base) (h:=H2) (g:=G2) τ x vs j;rw[←E]
 cases agg with
 |true=>exact⟨vs,y rfl,this⟩
 |false=>rw[D rfl]at this;exact this
theorem aqY(l:dV H h){k:CK}{c:C}{x:k.den}{v:Value}(n:CR w base Zp H g c v)(b:auY next k c h=some (x,h1)):
  ∃ts:List (Option Nat),fR h h1 ts∧ll h ts∧(∀n0,(au0 k x n0).2=n0+ts.length)∧∀H2 G2 n0,Hand g G2 n0 ts→Kept g H next G2 H2→dM w base Zp H2 G2 (au0 k x n0).1 [v]:=by
 unfold auY at b
 split at b
 ·rename_i τ
  split at b
  ·rename_i i;simp only[ak]at i
   split at b
   ·rename_i y D
    cases b;refine⟨[],fR.nil,ll.nil,fun _=>rfl,fun H2 G2 n0 _ j=> ?_⟩;have o:dM w base Zp H g [c] [v]:=⟨v,[],rfl,n,rfl⟩;have p:=ez i.2 o D;rw[←j.z]at p;exact dM.ar2 τ _ [v] p
   ·cases b
  ·cases b
 ·rename_i e;obtain⟨t,q,r,u⟩:=akn l n b;exact⟨[t],q,r,fun _=>rfl,fun H2 G2 n0 B j=>⟨v,[],rfl,u H2 G2 n0 B j.z,rfl⟩⟩
 ·rename_i d
  split at b
  ·rename_i i;simp only[ak]at i
   cases b;have:=akm i.1;subst this;exact⟨[],fR.nil,ll.nil,fun _=>rfl,fun H2 G2 n0 _ j=>⟨v,[],rfl,CR.kept j i.2 n,rfl⟩⟩
  ·cases b
theorem Uv:∀(i:List CK) (cs:List C) (vs:List Value) (h h1:bm) (x:Uh i),dV H h→dM w base Zp H g cs vs→WU next i cs h=some (x,h1)→
  ∃ts:List (Option Nat),fR h h1 ts∧ll h ts∧(∀n0,(Jg i x n0).2=n0+ts.length)∧∀H2 G2 n0,Hand g G2 n0 ts→Kept g H next G2 H2→dM w base Zp H2 G2 (Jg i x n0).1 vs
 |[],cs,vs,h,h1,x,b,l,d=>by
  cases cs with
  |nil=>cases d;exact⟨[],fR.nil,ll.nil,fun _=>rfl,fun _ _ _ _ _=>l⟩
  |cons _ _=>cases d
 |k::i,cs,vs,h,h1,x,b,l,d=>by
  cases cs with
  |nil=>cases d
  |cons c cs=>
   obtain⟨v,e,rfl,n,o⟩:=l;simp only[WU]at d
   split at d
   ·rename_i y F I
    split at d
    ·rename_i z L J
     cases d;obtain⟨ts,j,t,p,u⟩:=aqY b n I;obtain⟨K,b1,B,D,E⟩:=Uv i cs e F _ z (b.trans j.sub) o J;refine⟨ts++K,j.app b1,t.app B j.sub,fun n0=>by simp only[Jg,D,p,ah];omega,fun H2 G2 n0 q r=> ?_⟩;simp only[Jg];rw[p n0];exact dM.append _ _ [v] e (u H2 G2 n0 q.left r) (E H2 G2 _ q.right r)
    ·cases d
   ·cases d
theorem api{τ:Ty}{b:Bool}{cs:List C}:ajW next (.data τ) (.v b cs) h=(match b==τ.isAgg&&τ.cE with
 |true=>match τ.dC cs with
  |some x=>some (x,h)
  |none=>none
 |false=>none):=rfl
theorem aqZ{e:Ty}{c:C}:ajW next (.own e) (.v false [c]) h=ajV e c h:=rfl
theorem aq0{a0 b:A}:ajW next (.fix a0) b h=(match aol a0 b&&ahR next a0 with
 |true=>some ((),h)
 |false=>none):=rfl
theorem aq1{b:List CK}{o off:Nat}:ajW next (.box b) (.v false [.ptr o off]) h=(match bT off 0,look .dead o h with
 |true,.cells cs=>WU next b cs ((o,.dead)::h)
 |_,_=>none):=rfl
theorem CR.axh{G2:G}{H2:bm}{a:Ty}{x:a.den}{c:Nat}{v:Value}(hz:G2.Z=g.Z)(hh:CR w base Zp H g (.Ja a x c) v):CR w base Zp H2 G2 (.Ja a x c) v:=by
 obtain⟨b,i,us,e,D,E⟩:=hh;refine⟨b,i,us,e,?_,fun j u y=> ?_⟩
 ·rw[hz];exact D
 ·rw[hz];exact E j u y
theorem aq2{a b:Ty}{x:b.den}{c:Nat}:ajW next (.ref a) (.v false [.Ja b x c]) h=(match bT c 0,rZ b a x with
 |true,some x=>some (x,h)
 |_,_=>none):=rfl
theorem CR.avu{G2:G}{H2:bm}{f:FuncId}{a:Ty}{x:a.den}{v:Value}(hz:G2.Z=g.Z)(hh:CR w base Zp H g (.Eg f a x) v):CR w base Zp H2 G2 (.Eg f a x) v:=by
 obtain⟨i,e,j⟩:=hh;refine⟨i,e,?_⟩;rw[hz];exact j
theorem as4{f c:FuncId}{a b:Ty}{x:b.den}:ajW next (.cl f a) (.v false [.Eg c b x]) h=(match bT f c,rZ b a x with
 |true,some x=>some (x,h)
 |_,_=>none):=rfl
theorem aq3(D:dV H h)(hob:∀o,Qf w base Zp H g o (look .dead o H)){k:SK}{b:A}{x:k.den}{v:Value}(E:AR w base Zp H g b v)(d:ajW next k b h=some (x,h1)):
  ∃ts:List (Option Nat),fR h h1 ts∧(∀n0,(aoX k x n0).2=n0+ts.length)∧
   (∀n0 p,look .dead p (zz k x n0)≠.dead→n0≤p∧∃q cs Z,ts[p -n0]? =some (some q)∧look .dead q h= .cells cs∧look .dead p (zz k x n0)= .cells Z)∧
   (∀n0 i q,ts[i]? =some (some q)→look .dead (n0+i) (zz k x n0)= .dead→look .dead q h= .tok)∧
   ∀H2 G2 n0,Hand g G2 n0 ts→Kept g H next G2 H2→AR w base Zp H2 G2 (aoX k x n0).1 v∧∀p,Qf w base Zp H2 G2 p (look .dead p (zz k x n0)):=by
 cases k with
 |data τ=>
  cases b with
  |jN _=>cases d
  |v B cs=>
   rw[api]at d
   split at d
   ·rename_i u;rw[ak]at u
    split at d
    ·rename_i y hy
     cases d;exact⟨[],fR.nil,fun _=>rfl,fun _ _ j=>absurd rfl j,fun _ _ _ j _=>by simp at j,fun H2 G2 n0 _ r=>⟨AR.list (toBeq u.1) E u.2 hy r.z,fun _=>trivial⟩⟩
    ·cases d
   ·cases d
 |vt V=>
  cases b with
  |jN _=>cases d
  |v B cs=>
   have d:(match B==V.isAgg&&V.ok with
    |true=>match V.dC cs with
     |some x=>some (x,h)
     |none=>none
    |false=>none)=some (x,h1):=d
   split at d
   ·rename_i u;rw[ak]at u
    split at d
    ·rename_i y hy
     cases d;refine⟨[],fR.nil,fun _=>rfl,fun _ _ j=>absurd rfl j,fun _ _ _ j _=>by simp at j,fun H2 G2 n0 _ r=>⟨?_,fun _=>trivial⟩⟩;obtain⟨vs,h1,h2,h3⟩:=VR.list E;have L:=VT.wH (w':=w) (base':=base) (Uk:=Zp) (h':=H2) (g':=G2) (fun b i E=>⟨r.z▸E,rfl⟩) (fun c id e he=>r.pm▸he) V _ vs u.2 (VT.rM u.2 h1 hy);have hgg:=toBeq u.1;show VR w base Zp H2 G2 V.isAgg (V.cells _) v;rw[←hgg]
     cases B with
     |true=>exact⟨vs,h2 rfl,L⟩
     |false=>rw[h3 rfl]at L;exact L
    ·cases d
   ·cases d
 |own e=>
  rcases b with⟨B,cs⟩|ps
  ·rcases B with _ |_
   ·rcases cs with _ |⟨c,_ |⟨S,cs⟩⟩
    ·cases d
    ·rw[aqZ]at d;obtain⟨t,h2,h3,h4⟩:=akn D E.c d;exact⟨[t],h2,fun _=>rfl,fun _ _ j=>absurd rfl j,fun _ _ q j _=>h3 q (eb j),fun H2 G2 n0 j r=>⟨AR.qF (h4 H2 G2 n0 j r.z),fun _=>trivial⟩⟩
    ·cases d
   ·cases d
  ·cases d
 |fix a0=>
  rw[aq0]at d
  split at d
  ·rename_i u;rw[ak]at u
   cases d;have:=aqX u.1;subst this;obtain⟨c,rfl,hbc⟩:=amQ u.2;exact⟨[],fR.nil,fun _=>rfl,fun _ _ j=>absurd rfl j,fun _ _ _ j _=>by simp at j,fun H2 G2 n0 _ r=>⟨AR.qF (CR.kept r hbc E.c),fun _=>trivial⟩⟩
  ·cases d
 |cl f e=>
  have W:∃f' K y,b= .v false [.Eg f' K y]:=by
   rcases b with⟨B,cs⟩|ps
   ·rcases B with _ |_
    ·rcases cs with _ |⟨c,_ |⟨S,cs⟩⟩
     ·cases d
     ·cases c<;>first |cases d |exact⟨_,_,_,rfl⟩
     ·cases c<;>cases d
    ·cases d
   ·cases d
  obtain⟨f',K,y,rfl⟩:=W;rw[as4]at d
  cases l:bT f f' with
  |false=>rw[l]at d;cases d
  |true=>
   rw[l]at d;have l:=aA l;subst l
   cases N:rZ K e y with
   |none=>rw[N]at d;cases d
   |some z=>
    rw[N]at d
    cases d;obtain⟨rfl,O⟩:=OV N
    cases O;exact⟨[],fR.nil,fun _=>rfl,fun _ _ j=>absurd rfl j,fun _ _ _ j _=>by simp at j,fun H2 G2 n0 _ r=>⟨AR.qF (CR.avu r.z E.c),fun _=>trivial⟩⟩
 |ref e=>
  have W:∃K y c,b= .v false [.Ja K y c]:=by
   rcases b with⟨B,cs⟩|ps
   ·rcases B with _ |_
    ·rcases cs with _ |⟨c,_ |⟨S,cs⟩⟩
     ·cases d
     ·cases c<;>first |cases d |exact⟨_,_,_,rfl⟩
     ·cases c<;>cases d
    ·cases d
   ·cases d
  obtain⟨K,y,c,rfl⟩:=W;rw[aq2]at d
  cases l:bT c 0 with
  |false=>rw[l]at d;cases d
  |true=>
   rw[l]at d;have l:=aA l;subst l
   cases N:rZ K e y with
   |none=>rw[N]at d;cases d
   |some z=>
    rw[N]at d
    cases d;obtain⟨rfl,O⟩:=OV N
    cases O;exact⟨[],fR.nil,fun _=>rfl,fun _ _ j=>absurd rfl j,fun _ _ _ j _=>by simp at j,fun H2 G2 n0 _ r=>⟨AR.qF (CR.axh r.z E.c),fun _=>trivial⟩⟩
 |box R=>
  have W:∃o Q,b= .v false [.ptr o Q]:=by
   rcases b with⟨B,cs⟩|ps
   ·rcases B with _ |_
    ·rcases cs with _ |⟨c,_ |⟨S,cs⟩⟩
     ·cases d
     ·cases c<;>first |cases d |exact⟨_,_,rfl⟩
     ·cases c<;>cases d
    ·cases d
   ·cases d
  obtain⟨o,Q,rfl⟩:=W;rw[aq1]at d
  cases n:bT Q 0 with
  |false=>rw[n]at d;cases d
  |true=>
   rw[n]at d;obtain⟨cs,F⟩:∃cs,look .dead o h= .cells cs:=by
    cases hl:look Ob.dead o h with
    |cells cs=>exact⟨cs,rfl⟩
    |_=>rw[hl]at d;cases d
   rw[F]at d;replace d:WU next R cs ((o,.dead)::h)=some (x,h1):=d
   have n:=aA n;subst n;have Y:look .dead o h≠.dead:=by rw[F];simp
   have hH:look .dead o H= .cells cs:=(D.back Y).trans F;obtain⟨hal,hpt,hd⟩:=E.c;obtain⟨bb,hb1,hv⟩:=hd (by rw[hH];simp);have J:=hob o;rw[hH]at J;obtain⟨b',T,e0,hb',U,hcr⟩:=J;obtain⟨us,c1,S,c3,c4⟩:=Uv R cs T.toList _ h1 x (D.trans (dV.amP o)) hcr d;have M:∀n0 p,look .dead p (zz (.box R) x n0)=if n0=p then .cells (Jg R x (n0+1)).1 else .dead:=fun n0 p=>by
    show look Ob.dead p [(n0,Ob.cells (Jg R x (n0+1)).1)]=_;rw[aW];rfl
   refine⟨some o::us,(fR.one Y).app c1,fun n0=> ?_,fun n0 p hp=> ?_,fun n0 i q hi hd=> ?_,fun H2 G2 n0 j r=>⟨AR.qF ?_,fun p=> ?_⟩⟩
   ·show(Jg R x (n0+1)).2=_;rw[c3];simp;omega
   ·rw[M]at hp ⊢
    by_cases I:n0=p
    ·subst I;exact⟨az _,o,cs,_,by simp,F,if_pos rfl⟩
    ·rw[if_neg I]at hp;exact absurd rfl hp
   ·cases i with
    |zero=>have:=(M n0 (n0+0)).symm.trans hd;simp at this
    |succ i=>
     have:=S q (eb (by simpa using hi:us[i]? =some (some q)));rw[(dV.amP o).back (by rw[this];simp)];exact this
   ·obtain⟨k1,k2,k3⟩:=j.tok 0 (some o) rfl;exact⟨k1,hpt,fun _=>⟨bb,k2.trans hb1,hv⟩⟩
   ·rw[M]
    split
    ·rename_i I;subst I;obtain⟨k1,k2,k3⟩:=j.tok 0 (some o) rfl;refine⟨b',T,e0,k2.trans hb',U,c4 H2 G2 (n0+1) ?_ r⟩;exact Hand.right (ts:=[some o]) j
    ·trivial
end
noncomputable local instance ayR (x:Ob):Decidable (x= .dead):=Classical.propDecidable _
section
variable {P:Program} {w0:W0} {w:World} {Z0 Zp:cD} {g G2:G} {X:Cx} {a:Act} {s s':St} {H H2 h h1:bm} {base next n0:Nat}
def rN(E:bm):Prop:=∀p T,look .dead p (E++T)=if look .dead p E= .dead then look .dead p T else look .dead p E
theorem rN.nil:rN []:=fun _ _=>(if_pos rfl).symm
theorem rN.cons{E:bm}{o:Nat}{y:Ob}(j:y≠.dead)(h:rN E):rN ((o,y)::E):=fun p T=>by
 show look .dead p ((o,y)::(E++T))=_;rw[aW,aW]
 by_cases i:o=p
 ·rw[if_pos i,if_pos i,if_neg j]
 ·rw[if_neg i,if_neg i];exact h p T
theorem rN.zz(k:SK)(x:k.den)(n0:Nat):rN (zz k x n0):=by
 cases k with
 |box ks=>exact rN.cons (by simp) rN.nil
 |_=>exact rN.nil
theorem rN.app{E F:bm}(h:rN E)(k:rN F):rN (E++F):=fun p T=>by
 rw[bo,h,h,k]
 by_cases h1:look .dead p E= .dead
 ·rw[if_pos h1,if_pos h1]
 ·rw[if_neg h1,if_neg h1,if_neg h1]
theorem aq4(L:dV H h){k:OK}{o:Nat}{y:Ob}{x:k.den}(E:Qf w base Zp H g o y)(i:auZ next k y h=some (x,h1)):
  ∃ts:List (Option Nat),fR h h1 ts∧ll h ts∧(∀n0,(yw k x n0).2=n0+ts.length)∧
   (∀n0,y.to (yw k x n0).1∧(yw k x n0).1.open? =y.open? ∧(yw k x n0).1≠.tok∧(yw k x n0).1≠.dead∧y≠.dead∧y≠.tok∧∀wr K W,(yw k x n0).1= .gh wr K W→y= .gh wr K W)∧
   ∀H2 G2 n0,Hand g G2 n0 ts→Kept g H next G2 H2→G2.hm o=g.hm o→Qf w base Zp H2 G2 o (yw k x n0).1:=by
 cases k with
 |row e=>
  cases y with
  |row F l=>
   have c:(match rt F e l with |some l=>some (l,h)|none=>none)=some (x,h1):=i
   cases d:rt F e l with
   |none=>rw[d]at c;cases c
   |some U=>
    rw[d]at c;obtain⟨O,n⟩:=nS d;subst O;subst n;clear i
    cases c;refine⟨[],fR.nil,ll.nil,fun _=>rfl,fun _=>⟨Ob.to.refl _,rfl,by simp[yw],by simp[yw],by simp,by simp,fun _ _ _ h=>by cases h⟩,fun H2 G2 n0 _ q p=> ?_⟩;obtain⟨I,J,b,j,D,r,t,u⟩:=E;exact⟨I,J,b,j,D,p.trans r,t,by rw[q.z];exact u⟩
  |_=>cases i
 |xq e=>
  cases y with
  |xq F l=>
   have c:(match rt F e l with |some l=>some (l,h)|none=>none)=some (x,h1):=i
   cases d:rt F e l with
   |none=>rw[d]at c;cases c
   |some U=>
    rw[d]at c;obtain⟨O,n⟩:=nS d;subst O;subst n;clear i
    cases c;refine⟨[],fR.nil,ll.nil,fun _=>rfl,fun _=>⟨Ob.to.refl _,rfl,by simp[yw],by simp[yw],by simp,by simp,fun _ _ _ h=>by cases h⟩,fun H2 G2 n0 _ q p=> ?_⟩;obtain⟨I,J,b,j,D,fz,r,t,u,N⟩:=E;exact⟨I,J,b,j,D,fz,p.trans r,t,by rw[q.z];exact u,by rw[q.z];exact N⟩
  |_=>cases i
 |cells ks=>
  cases y with
  |cells M=>
   have i:WU next ks M h=some (x,h1):=i
   obtain⟨b,j,D,r,t,u⟩:=E;obtain⟨ts,a1,a2,a3,a4⟩:=Uv ks M j.toList h h1 x L u i;refine⟨ts,a1,a2,a3,fun _=>⟨.inr (.inr (.inl ⟨_,_,rfl,rfl⟩)),rfl,by simp[yw],by simp[yw],by simp,by simp,fun _ _ _ h=>by cases h⟩,fun H2 G2 n0 hh q p=> ?_⟩;exact⟨b,j,D,p.trans r,t,a4 H2 G2 n0 hh q⟩
  |_=>cases i
 |map k v=>
  cases y with
  |map Z v' l=>
   have c:(match FS Z v' k v l with |some l=>some (l,h)|none=>none)=some (x,h1):=i
   cases d:FS Z v' k v l with
   |none=>rw[d]at c;cases c
   |some U=>
    rw[d]at c;obtain⟨Q,S,n⟩:=OT d;subst Q S;have n:U=l:=n;subst n;clear i
    cases c;refine⟨[],fR.nil,ll.nil,fun _=>rfl,fun _=>⟨Ob.to.refl _,rfl,by simp[yw],by simp[yw],by simp,by simp,fun _ _ _ h=>by cases h⟩,fun H2 G2 n0 _ q p=> ?_⟩;obtain⟨I,J,r,b,es,B,t,u,N⟩:=E;exact⟨I,J,r,b,es,B,p.trans t,u,N⟩
  |_=>cases i
 |gh wr K=>
  cases y with
  |gh V K' H0=>
   have c:(match wr==V,oI K' K H0 with |true,some H=>some (H,h)|_,_=>none)=some (x,h1):=i;clear i
   split at c
   ·rename_i H2 T hH;have T:=toBeq T;subst T;obtain⟨hK,rfl⟩:=jP hH;subst hK
    cases c;refine⟨[],fR.nil,ll.nil,fun _=>rfl,fun _=>⟨Ob.to.refl _,rfl,by simp[yw],by simp[yw],by simp,by simp,fun _ _ _ h=>h⟩,fun H2 G2 n0 _ q p=> ?_⟩;exact p.trans E
   ·cases c
  |_=>cases i
 |obj τ=>
  cases y with
  |cells M=>
   have c:(match τ.cE with |true=>(match τ.dC M with |some x=>some (x,h)|none=>none)|false=>none)=some (x,h1):=i;clear i
   split at c
   ·rename_i R
    split at c
    ·rename_i x' hx
     cases c;obtain⟨b,j,D,r,t,u⟩:=E;refine⟨[],fR.nil,ll.nil,fun _=>rfl,fun _=>⟨.inr (.inr (.inl ⟨_,_,rfl,rfl⟩)),rfl,by simp[yw],by simp[yw],by simp,by simp,fun _ _ _ h=>by cases h⟩,fun H2 G2 n0 _ q p=>⟨b,j,D,p.trans r,t,?_⟩⟩;have Y:=ez R u hx;rw[←q.z]at Y;exact dM.ar2 τ _ _ Y
    ·cases c
   ·cases c
  |_=>cases i
structure amR (H h:bm) (next:Nat) (ts:List (Option Nat)) (E:bm) (p:Nat):Prop where
 lt:p<next
 to:(look .dead p H).to (look .dead p E)
 opn:(look .dead p E).open? =(look .dead p H).open?
 aCx:look .dead p E≠.tok
 was:look .dead p h≠.dead
 out:some p∉ts
 gh:∀wr K H',look .dead p E= .gh wr K H'→look .dead p H= .gh wr K H'
theorem abR(t:∀o,Qf w base Zp H g o (look .dead o H)):∀(l:List (Nat×OK)) (h h1:bm) (x:abr l),dV H h→ahS next l h=some (x,h1)→
  ∃ts:List (Option Nat),fR h h1 ts∧ll h ts∧(∀n0,(zA l x n0).2=n0+ts.length)∧
   (∀n0,rN (zA l x n0).1)∧
   (∀n0 o,look .dead o (zA l x n0).1≠.dead→amR H h next ts (zA l x n0).1 o)∧
   ∀H2 G2 n0,Hand g G2 n0 ts→Kept g H next G2 H2→∀o,Qf w base Zp H2 G2 o (look .dead o (zA l x n0).1)
 |[],h,h1,x,b,e=>by
  cases e;exact⟨[],fR.nil,ll.nil,fun _=>rfl,fun _=>rN.nil,fun _ _ D=>absurd rfl D,fun _ _ _ _ _ _=>trivial⟩
 |(o,k)::r,h,h1,x,b,e=>by
  have e:(match Nat.blt o next with
   |false=>none
   |true=>match auZ next k (look .dead o h) h with
    |some (x,h)=>match ahS next r h with
     |some (y,h)=>some ((x,y),h)
     |none=>none
    |none=>none)=some (x,h1):=e
  split at e
  ·cases e
  ·rename_i i;have i:o<next:=by simpa[eV]using i
   split at e
   ·rename_i y h2 hy
    split at e
    ·rename_i z h3 hz
     cases e;have u:Qf w base Zp H g o (look .dead o h):=by
      rcases b o with h |h
      ·rw[h];exact t o
      ·rw[h];trivial
     obtain⟨ts,q,R,L,M,S⟩:=aq4 b u hy;obtain⟨Q,b1,T,U,Y,V,W⟩:=abR t r h2 _ z (b.trans q.sub) hz;have c:∀n0 p,look .dead p (zA ((o,k)::r) (y,z) n0).1=if o=p then(yw k y n0).1 else look .dead p (zA r z (n0+ts.length)).1:=fun n0 p=>by
      show look .dead p ((o,(yw k y n0).1)::(zA r z (yw k y n0).2).1)=_;rw[aW,L]
     have j:ll h (ts++Q):=R.app T q.sub;refine⟨ts++Q,q.app b1,j,fun n0=> ?_,fun n0=> ?_,fun n0 p O=> ?_,fun H2 G2 n0 D J p=> ?_⟩
     ·show(zA r z (yw k y n0).2).2=_;rw[U,L,ah];omega
     ·exact rN.cons (M n0).2.2.2.1 (Y _)
     ·by_cases B:o=p
      ·subst B;obtain⟨Z,c2,c3,c4,N,c6,c7⟩:=M n0;have d:=c n0 o;rw[if_pos rfl]at d;have I:=b.back N;exact⟨i,by rw[d,I];exact Z,by rw[d,I];exact c2,by rw[d];exact c3,N,fun n=>c6 (j o n),fun wr K F E=>by rw[d]at E;rw[I];exact c7 wr K F E⟩
      ·have d:=c n0 p;rw[if_neg B]at d;rw[d]at O;obtain⟨d1,d2,d3,d4,d5,d6,d7⟩:=V _ p O;refine⟨d1,by rw[d];exact d2,by rw[d];exact d3,by rw[d];exact d4,?_,fun n=> ?_,fun wr K F E=>d7 wr K F (d▸E)⟩
       ·rw[q.sub.back d5];exact d5
       ·rcases List.mem_append.1 n with n |n
        ·exact d5 (q.gone p n)
        ·exact d6 n
     ·rw[c]
      split
      ·rename_i B;subst B;exact S H2 G2 n0 D.left J (J.hm _ i)
      ·exact W H2 G2 _ D.right J p
    ·cases e
   ·cases e
theorem Qq(E:∀o,Qf w base Zp H g o (look .dead o H)){env:Env}{val:Nat→Value}(u:∀t,AR w base Zp H g (look aJ t env) (val t))(b:List (Nat×OK)):
  ∀(l:List (Nat×SK)) (h h1:bm) (x:Jf l b),dV H h→Qe next env l b h=some (x,h1)→
  ∃ts:List (Option Nat),fR h h1 ts∧(∀n0,(gG l b x n0).2.2=n0+ts.length)∧
   (∀n0,rN (gG l b x n0).2.1)∧
   (∀n0 p,look .dead p (gG l b x n0).2.1≠.dead→amR H h next ts (gG l b x n0).2.1 p∨
    (n0≤p∧∃q cs j,ts[p -n0]? =some (some q)∧look .dead q h= .cells cs∧look .dead p (gG l b x n0).2.1= .cells j))∧
   (∀n0 i q,ts[i]? =some (some q)→look .dead (n0+i) (gG l b x n0).2.1= .dead→look .dead q h= .tok)∧
   ∀H2 G2 n0,Hand g G2 n0 ts→Kept g H next G2 H2→(∀o,Qf w base Zp H2 G2 o (look .dead o (gG l b x n0).2.1))∧∀t,AR w base Zp H2 G2 (look aJ t (gG l b x n0).1) (val t)
 |[],h,h1,x,e,B=>by
  obtain⟨ts,n,U,L,W,N,V⟩:=abR E b h h1 x e B;exact⟨ts,n,L,W,fun n0 p O=> .inl (N n0 p O),fun n0 i q I _=>U q (eb I),fun H2 G2 n0 F J=>⟨V H2 G2 n0 F J,fun t=>⟨val t,[],rfl,trivial,rfl⟩⟩⟩
 |(t,k)::r,h,h1,x,e,B=>by
  unfold Qe at B
  split at B
  ·rename_i y h2 hy
   split at B
   ·rename_i z h3 hz
    cases B;obtain⟨ts,n,L,k1,k2,N⟩:=aq3 e E (u t) hy;obtain⟨us,b1,Y,b6,Z,b7,R⟩:=Qq E u b r h2 _ z (e.trans n.sub) hz;have S:∀n0,(gG ((t,k)::r) b (y,z) n0).2.1=zz k y n0++(gG r b z (n0+ts.length)).2.1:=fun n0=>by
     rw[←L];rfl
    have c:∀n0 p,look .dead p (gG ((t,k)::r) b (y,z) n0).2.1=if look .dead p (zz k y n0)= .dead then look .dead p (gG r b z (n0+ts.length)).2.1 else look .dead p (zz k y n0):=fun n0 p=>by
     rw[S,rN.zz k y n0]
    refine⟨ts++us,n.app b1,fun n0=> ?_,fun n0=> ?_,fun n0 p O=> ?_,fun n0 i q I hd=> ?_,fun H2 G2 n0 F J=>⟨fun p=> ?_,fun p=> ?_⟩⟩
    ·show(gG r b z (aoX k y n0).2).2.2=_;rw[Y,L,ah];omega
    ·rw[S];exact(rN.zz k y n0).app (b6 _)
    ·by_cases D:look .dead p (zz k y n0)= .dead
     ·have d:=c n0 p;rw[if_pos D]at d;rw[d]at O;rcases Z _ p O with⟨d1,d2,d3,d4,d5,d6,d7⟩|⟨d1,q,cs,j,d2,d3,d4⟩
      ·refine .inl ⟨d1,by rw[d];exact d2,by rw[d];exact d3,by rw[d];exact d4,?_,fun M=> ?_,fun wr K T hx=>d7 wr K T (d▸hx)⟩
       ·rw[n.sub.back d5];exact d5
       ·rcases List.mem_append.1 M with M |M
        ·exact d5 (n.gone p M)
        ·exact d6 M
      ·refine .inr ⟨by omega,q,cs,j,?_,?_,by rw[d];exact d4⟩
       ·rw[bc (by omega),←d2];congr 1;omega
       ·rw[n.sub.back (by rw[d3];simp)];exact d3
     ·have d:=c n0 p;rw[if_neg D]at d;obtain⟨d1,q,cs,j,d2,d3,d4⟩:=k1 n0 p D;refine .inr ⟨d1,q,cs,j,?_,d3,by rw[d];exact d4⟩;rw[aP (List.getElem?_eq_some_iff.1 d2).1];exact d2
    ·have d:=c n0 (n0+i);rw[hd]at d
     by_cases D:look .dead (n0+i) (zz k y n0)= .dead
     ·rw[if_pos D]at d
      by_cases Q:i<ts.length
      ·rw[aP Q]at I;exact k2 n0 i q I D
      ·rw[bc (by omega)]at I;have:=b7 (n0+ts.length) (i -ts.length) q I (by rw[show n0+ts.length+(i -ts.length)=n0+i by omega];exact d.symm);rw[n.sub.back (by rw[this];simp)];exact this
     ·rw[if_neg D]at d;exact absurd d.symm D
    ·rw[c]
     split
     ·exact(R H2 G2 _ F.right J).1 p
     ·exact(N H2 G2 n0 F.left J).2 p
    ·show AR w base Zp H2 G2 (look aJ p ((t,(aoX k y n0).1)::(gG r b z (aoX k y n0).2).1)) (val p);rw[aW]
     split
     ·rename_i he;subst he;exact(N H2 G2 n0 F.left J).1
     ·rw[L];exact(R H2 G2 _ F.right J).2 p
   ·cases B
  ·cases B
theorem agI(p:Nat):∀n,look .dead p (toks n0 n)=if n0≤p∧p<n0+n then .tok else .dead
 |0=>by rw[if_neg (by omega)];rfl
 |n+1=>by
  show look .dead p ((n0+n,.tok)::toks n0 n)=_;rw[aW,agI p n]
  by_cases h:n0+n=p
  ·rw[if_pos h,if_pos (by omega)]
  ·rw[if_neg h]
   by_cases b:n0≤p∧p<n0+n
   ·rw[if_pos b,if_pos (by omega)]
   ·rw[if_neg b,if_neg (by omega)]
theorem Uw:∀(ts:List (Option Nat)) (i j t:Nat),(ts.filterMap id).Nodup→ts[i]? =some (some t)→ts[j]? =some (some t)→i=j
 |[],_,_,_,_,h,_=>by simp at h
 |none::ts,i,j,t,e,c,d=>by
  cases i with
  |zero=>simp at c
  |succ i=>
   cases j with
   |zero=>simp at d
   |succ j=>
    have:=Uw ts i j t (by simpa using e) (by simpa using c) (by simpa using d);omega
 |some u::ts,i,j,t,e,c,d=>by
  simp only[List.filterMap_cons,id,List.nodup_cons]at e;have b:∀k:Nat,ts[k]? =some (some t)→t∈ts.filterMap id:=fun k l=>List.mem_filterMap.2 ⟨some t,eb l,rfl⟩
  cases i with
  |zero=>
   cases j with
   |zero=>rfl
   |succ j=>
    simp only[eK,Option.some.injEq]at c;subst c;exact absurd (b j (by simpa using d)) e.1
  |succ i=>
   cases j with
   |zero=>
    simp only[eK,Option.some.injEq]at d;subst d;exact absurd (b i (by simpa using c)) e.1
   |succ j=>
    have:=Uw ts i j t e.2 (by simpa using c) (by simpa using d);omega
theorem Qr{N:NS}{x:N.den}(S:SR w0 Z0 Zp X s g a w)(I:dec N s=some x):
  ∃D,SR w0 Z0 Zp X (enc N x) D a w∧∀p,D.al p→p<(enc N x).next:=by
 unfold dec at I
 split at I
 ·cases I
 split at I
 ·rename_i y h1 hy
  cases I;obtain⟨l,c1,c3,c6,c4,c7,c5⟩:=Qq S.hr.ob (val:=fun t=>a.tmps.getD t undef) S.env N.obs N.slots s.heap h1 x dV.refl hy;obtain⟨n0,O⟩:∃n0,n0=N.next:=⟨_,rfl⟩;obtain⟨D,n⟩:∃D:G,D=⟨fun p=>(p<n0∧g.al p)∨(n0≤p∧p<n0+l.length),g.Z,fun p=>if p<n0 then g.hm p else((l[p -n0]?).bind id).bind g.hm,fun p=>match(l[p -n0]?).bind id with |some o=>g.lo o |none=>0,g.pm⟩:=⟨_,rfl⟩;obtain⟨E,hE⟩:∃E,E=(gG N.slots N.obs x n0).2.1:=⟨_,rfl⟩;have Y:(enc N x).heap=E++toks n0 l.length:=by
   show _++toks N.next ((gG N.slots N.obs x N.next).2.2 -N.next)=_;rw[c3,hE,O,eL]
  have J:∀p,look .dead p (enc N x).heap=if look .dead p E= .dead then(if n0≤p∧p<n0+l.length then .tok else .dead)else look .dead p E:=fun p=>by
   rw[Y,←agI,hE];exact c6 n0 p _
  have hnext:(enc N x).next=n0+l.length:=by
   show(gG N.slots N.obs x N.next).2.2=_;rw[c3,O]
  have T:D.Z=g.Z:=by rw[n]
  have hpm:D.pm=g.pm:=by rw[n]
  have hhm:∀p,p<n0→D.hm p=g.hm p:=fun p B=>by rw[n];exact if_pos B
  have hE4:∀p,look .dead p E≠.dead→amR s.heap s.heap n0 l E p∨(n0≤p∧∃q cs U,l[p -n0]? =some (some q)∧look .dead q s.heap= .cells cs∧look .dead p E= .cells U):=by
   intro p B;rw[hE]at B ⊢;rw[O]at B ⊢;exact c4 N.next p B
  have M:Hand g D n0 l:=by
   refine⟨fun i t R=> ?_⟩;have hlt:i<l.length:=(List.getElem?_eq_some_iff.1 R).1;refine⟨by rw[n];exact .inr (by omega),?_,fun o r=> ?_⟩
   ·rw[n];show(if n0+i<n0 then g.hm (n0+i)else((l[n0+i -n0]?).bind id).bind g.hm)=_;rw[if_neg (by omega),eL,R];rfl
   ·rw[n];show(match(l[n0+i -n0]?).bind id with |some o=>g.lo o |none=>0)=_;rw[eL,R,r];rfl
  have L:∀p,look .dead p (enc N x).heap≠.dead→(p<n0∧look .dead p s.heap≠.dead∧(look .dead p s.heap).to (look .dead p (enc N x).heap)∧(look .dead p (enc N x).heap).open? =(look .dead p s.heap).open? ∧look .dead p (enc N x).heap≠.tok∧some p∉l)∨
    (n0≤p∧p<n0+l.length∧∀q,l[p -n0]? =some (some q)→look .dead q s.heap≠.dead∧((look .dead p (enc N x).heap).open? =true→(look .dead q s.heap).open? =true)∧(look .dead p (enc N x).heap= .tok→look .dead q s.heap= .tok)):=by
   intro p B;have j:=J p
   by_cases I:look .dead p E= .dead
   ·rw[if_pos I]at j
    by_cases hr:n0≤p∧p<n0+l.length
    ·rw[if_pos hr]at j;refine .inr ⟨hr.1,hr.2,fun q hq=> ?_⟩;have:=c7 n0 (p -n0) q hq (by rw[Nat.add_sub_cancel' hr.1,←hE];exact I);refine⟨by rw[this];simp,fun r=> ?_,fun _=>this⟩;rw[j]at r;cases r
    ·rw[if_neg hr]at j;exact absurd j B
   ·rw[if_neg I]at j;rcases hE4 p I with⟨d1,d2,d3,d4,d5,d6,_⟩|⟨d1,q,cs,U,d2,d3,d4⟩
    ·exact .inl ⟨d1,d5,by rw[j];exact d2,by rw[j];exact d3,by rw[j];exact d4,d6⟩
    ·have hlt:=(List.getElem?_eq_some_iff.1 d2).1;refine .inr ⟨d1,by omega,fun q' hq'=> ?_⟩;rw[d2]at hq'
     cases hq';refine⟨by rw[d3];simp,fun _=>by rw[d3];rfl,fun ht=> ?_⟩;rw[j,d4]at ht;cases ht
  have axi:Kept g s.heap N.next D (enc N x).heap:=by
   rw[←O];refine⟨fun o r h=> ?_,fun o r=> ?_,fun o r=>hhm o r,T,hpm⟩
   ·rw[n];exact .inl ⟨r,h⟩
   ·by_cases j:look .dead o (enc N x).heap= .dead
    ·exact .inl j
    ·rcases L o j with h |h
     ·exact h.2.2.1
     ·omega
  have k:∀p b,look .dead p (enc N x).heap≠.dead→D.hm p=some b→∃o,g.hm o=some b∧look .dead o s.heap≠.dead∧((look .dead p (enc N x).heap).open? =true→(look .dead o s.heap).open? =true)∧(look .dead p (enc N x).heap= .tok→look .dead o s.heap= .tok∧D.lo p=g.lo o)∧
    ((p=o∧some p∉l)∨(n0≤p∧l[p -n0]? =some (some o))):=by
   intro p b B u;rcases L p B with⟨d1,d2,d3,d4,d5,d6⟩|⟨d1,d2,d3⟩
   ·exact⟨p,(hhm p d1)▸u,d2,fun h=>d4▸h,fun h=>absurd h d5,.inl ⟨rfl,d6⟩⟩
   ·have R:l[p -n0]? =some l[p -n0]:=ai (by omega)
    obtain⟨k1,k2,k3⟩:=M.tok (p -n0) l[p -n0] R;rw[Nat.add_sub_cancel' d1]at k2 k3;rw[k2]at u
    cases ht:l[p -n0]with
    |none=>rw[ht]at u;cases u
    |some o=>
     rw[ht]at u R;obtain⟨e1,e2,e3⟩:=d3 o R;exact⟨o,u,e1,e2,fun h=>⟨e3 h,k3 o ht⟩,.inr ⟨d1,R⟩⟩
  have azN:∀c wr K H',look .dead c (enc N x).heap= .gh wr K H'→look .dead c s.heap= .gh wr K H':=by
   intro c wr K H' hc;have j:=J c
   by_cases I:look .dead c E= .dead
   ·rw[if_pos I,hc]at j
    split at j<;>cases j
   ·rw[if_neg I,hc]at j;rcases hE4 c I with d |⟨d1,q,cs,U,d2,d3,d4⟩
    ·exact d.gh wr K H' j.symm
    ·rw[d4]at j;cases j
  obtain⟨k1,k2⟩:=c5 (enc N x).heap D n0 M axi;refine⟨D,⟨fun t=> ?_,?_,S.nt,S.defers⟩,fun p B=> ?_⟩
  ·have:=k2 t;rw[O]at this;exact this
  ·refine⟨S.hr.ext,fun o=> ?_,fun o r=> ?_,fun o b j u=> ?_,fun o p b r B u hb'=> ?_,fun o b i r u=> ?_,fun o b i r u hzz=> ?_,fun b i h=>S.hr.Mw b i (by rw[←T];exact h),fun b i u h=>S.hr.Ji b i u (by rw[←T];exact h),fun b i h=>by rw[T];exact S.hr.z0 b i h,S.hr.zp,S.hr.gh.auA azN hpm (fun c id b i hG=>by rw[T];exact S.hr.gh.kS c id b i hG) (fun c id b o hG j u=> ?_) (fun c id K x hk hc=>uI.move (w':=w) (g':=D) (fun b i u=>⟨T▸u,rfl⟩) (fun c id e he=>hpm▸he) (fun _ _=>rfl) K x hk hc)⟩
   ·rw[J]
    split
    ·split<;>trivial
    ·rw[hE];exact k1 o
   ·by_cases j:look .dead o (enc N x).heap= .dead
    ·exact j
    ·exfalso;rcases L o j with⟨d1,d2,_⟩|⟨d1,d2,_⟩
     ·exact r (by rw[n];exact .inl ⟨d1,Classical.byContradiction fun h=>d2 (S.hr.dead o h)⟩)
     ·exact r (by rw[n];exact .inr ⟨d1,d2⟩)
   ·obtain⟨q,h1,V,_⟩:=k o b j u;exact S.hr.home q b V h1
   ·obtain⟨q,h1,V,_,_,Q⟩:=k o b r u;obtain⟨q',h1',h2',_,_,z⟩:=k p b B hb';have:=S.hr.nA q q' b V h2' h1 h1';subst this;rcases Q with⟨Q,W⟩|⟨Q,W⟩
    ·rcases z with⟨z,F⟩|⟨z,F⟩
     ·rw[Q,z]
     ·rw[Q]at W;exact absurd (eb F) W
    ·rcases z with⟨z,F⟩|⟨z,F⟩
     ·rw[z]at F;exact absurd (eb W) F
     ·have:=Uw l _ _ q c1.nodup W F;omega
   ·rw[T];have j:look .dead o (enc N x).heap≠.dead:=by intro h;rw[h]at r;cases r
    obtain⟨q,h1,V,Q,_⟩:=k o b j u;exact S.hr.kS q b i (Q r) h1
   ·rw[T]at hzz;have j:look .dead o (enc N x).heap≠.dead:=by rw[r];simp
    obtain⟨q,h1,V,_,Q,_⟩:=k o b j u;obtain⟨W,h5⟩:=Q r;rw[h5];exact S.hr.Mv q b i W h1 hzz
   ·obtain⟨q,h1,V,_⟩:=k o b j u;exact S.hr.gh.loc c id b q hG V h1
  ·rw[hnext];rw[n]at B;rcases B with⟨B,_⟩|⟨_,B⟩
   ·omega
   ·exact B
 ·cases I
end
section
variable {P:Program} {w0:W0} {w w':World} {Z0 Zp:cD} {g:G} {X:Cx} {a:Act} {s s':St} {ops:Array Oper} {Q:Exit→Act→World→Prop}
theorem apj{b:List Log}(h:clean b=true){L:Log}(c:L∈b)(p:Nat):(p,true)∉L:=fun d=>by
 unfold clean at h;rw[dY]at h;have:=h L c;rw[dY]at this;have:=this _ d;simp at this
theorem amS{b:St}{c:List Log}{new:Nat}{l:List Oper}(y:ae5 X ops.toList new l s []=some (b,c))(x:clean c=true):
  b.next=s.next∧(∀t,(∀o∈l,o.dst≠some t)→look aJ t b.env=look aJ t s.env)∧∀p,look .dead p b.heap=look .dead p s.heap:=by
 obtain⟨S,j,k,n,q,r⟩:=abO X ops.toList l new _ [] b c y;have e:∀i,i≤l.length→(S i).next=s.next∧(∀t,(∀o∈l,o.dst≠some t)→look aJ t (S i).env=look aJ t s.env)∧∀p,look .dead p (S i).heap=look .dead p s.heap:=by
  intro i
  induction i with
  |zero=>intro _;rw[k];exact⟨rfl,fun _ _=>rfl,fun _=>rfl⟩
  |succ i z=>
   intro F;obtain⟨B,D,E⟩:=z (by omega);have d:=mQ (q i (l[i]'(by omega)) (ai (by omega)));have u:j i∈c:=by
    rw[r];simp only[cG,List.mem_reverse,List.mem_map,List.mem_range];exact⟨i,by omega,rfl⟩
   exact⟨d.1.trans B,fun t h=>(d.2.1 t (h _ (am _))).trans (D t h),fun p=>(d.2.2.1 p (apj x u p)).trans (E p)⟩
 have:=e l.length (az _);rw[n]at this;exact this
theorem WZ{t:Nat}{env:Env}:∀{l:List Tmp},t∈l→look aJ t (Je l++env)=aJ
 |q::l,b=>by
  show look aJ t ((q,aJ)::(Je l++env))=aJ;simp only[look]
  split
  ·rfl
  ·rename_i c;rcases List.mem_cons.1 b with rfl |b
   ·rw[Nat.beq_refl]at c;cases c
   ·exact WZ b
theorem Qs{t:Nat}{env:Env}:∀{l:List Tmp},t∉l→look aJ t (Je l++env)=look aJ t env
 |[],_=>rfl
 |q::l,b=>by
  show look aJ t ((q,aJ)::(Je l++env))=_;simp only[look]
  split
  ·rename_i c;exact absurd (List.mem_cons.2 (.inl (aA c).symm)) b
  ·exact Qs fun h=>b (aG _ h)
theorem ako{h c:bm}{base:Nat}{env:Env}{t:Nat}{τ:Ty}{x:τ.den}{v:Value}(hh:AR w base Zp h g (look aJ t env) v)(hx:aoi env t τ=some x):AR w base Zp c g (Yi τ x) v:=by
 unfold aoi at hx
 split at hx
 ·rename_i i e d;rw[d]at hh
  split at hx
  ·rename_i b;rw[ak]at b;exact AR.list (toBeq b.1) hh b.2 hx rfl
  ·cases hx
 ·cases hx
theorem akp{h d:bm}{base:Nat}{env:Env}{val:Nat→Value}(hh:∀t,AR w base Zp h g (look aJ t env) (val t)){c:Env}(e:∀t,AR w base Zp d g (look aJ t c) (val t)):
  ∀(l:List (Nat×Ty)) (x:(jN (l.map Prod.snd)).den),abp env l=some x→∀t,AR w base Zp d g (look aJ t (abq l x c)) (val t)
 |[],_,_,t=>e t
 |[(u,τ)],x,b,t=>by
  show AR w base Zp d g (look aJ t ((u,Yi τ x)::c)) (val t);simp only[look]
  split
  ·rename_i i;have:=aA i;subst this;exact ako (hh u) b
  ·exact e t
 |(u,τ)::q::r,x,b,t=>by
  unfold abp at b
  split at b
  ·rename_i y j
   split at b
   ·rename_i z k
    cases b;show AR w base Zp d g (look aJ t ((u,Yi τ y)::abq (q::r) z c)) (val t);simp only[look]
    split
    ·rename_i i;have:=aA i;subst this;exact ako (hh u) j
    ·exact akp hh e (q::r) z k t
   ·cases b
  ·cases b
structure abS (s s2:St) (l:List Tmp):Prop where
 env:∀t,t∉l→look aJ t s2.env=look aJ t s.env
 heap:∀p,look .dead p s2.heap=look .dead p s.heap
theorem SR.auI{l:List (Nat×Ty)}{ds:List Tmp}{v:(jN (l.map Prod.snd)).den}(i:SR w0 Z0 Zp X s' g a w)(j:abS s s' ds)(D:abp s'.env l=some v)(n:Nat):SR w0 Z0 Zp X { env:=abq l v (Je ds++s.env),next:=n,heap:=s.heap } g a w:=by
 refine⟨fun t=> ?_,i.hr.same j.heap,i.nt,i.defers⟩;refine akp i.env (fun t=> ?_) l v D t
 by_cases y:t∈ds
 ·rw[WZ y];exact AR.qF trivial
 ·rw[Qs y];have:=i.env t;rw[j.env t y]at this;exact AR.mono (Le.same j.heap) _ _ this
theorem W3{R:Type}(z:Yo P X)(hm:P.follows .mixedOrders=true){id:Nat}{c:Bool}{K:St→Option R}{r:R}
  (b:Qc X ops c K s=some r) (y:SR w0 Z0 Zp X s g a w) (h:∀p,g.al p→p<s.next)
  (x:∀s' d w' g',K s'=some r→abS s s' (Qd ops)→s'.next=s.next+ops.toList.length→SR w0 Z0 Zp X s' g' d w'→(∀p,g'.al p→p<s'.next)→Q .normal d w'):
  (Code.region id ops c).wp P Q a w:=by
 unfold Qc at b;simp only at b;rw[yx]at b
 cases e:ae5 X ops.toList s.next ops.toList { s with next:=s.next+ops.toList.length } []with
 |none=>rw[e]at b;cases b
 |some q=>
  obtain⟨J,L⟩:=q;rw[e]at b;simp only[aa]at b
  split at b
  ·cases b
  ·rename_i i;obtain⟨F,H,I⟩:=amS e i;have D:FT X ops c (fun s'=>(K s').map fun v=>(v,s')) s=some (r,J):=by
    unfold FT;simp only;rw[yx,e];simp only[aa]
    cases c with
    |false=>simp only at b ⊢;rw[b];rfl
    |true=>
     simp only at b ⊢
     split at b
     ·rename_i l;rw[b];rfl
     ·cases b
   refine OY z hm D y h fun s' d w' g' k n u=> ?_;simp only[Option.map_eq_some_iff,Prod.mk.injEq]at k;obtain⟨M,j,rfl,rfl⟩:=k;refine x s' d w' g' j ⟨fun t E=>H t fun o B l=>E ?_,I⟩ F n u;unfold Qd;exact List.mem_filterMap.2 ⟨o,B,l⟩
theorem akq{R:Type}(u:Yo P X)(hm:P.follows .mixedOrders=true){id:Nat}{b:Bool}{l:List (Nat×Ty)}{K:(jN (l.map Prod.snd)).den→Option R}{r:R}
  (e:(Qc X ops b (fun s'=>abp s'.env l) s).bind K=some r) (t:SR w0 Z0 Zp X s g a w) (d:∀p,g.al p→p<s.next)
  (q:∀v c w' g',K v=some r→SR w0 Z0 Zp X { env:=abq l v (Je (Qd ops)++s.env),next:=s.next+ops.toList.length,heap:=s.heap } g' c w'→(∀p,g'.al p→p<s.next+ops.toList.length)→Q .normal c w'):
  (Code.region id ops b).wp P Q a w:=by
 obtain⟨v,y,o⟩:=Option.bind_eq_some_iff.1 e;exact W3 u hm y t d fun s' c w' g' h i j k n=>q v c w' g' o (k.auI i h _) fun p x=>j▸n p x
theorem abS.trans{j s2 y:St}{l m:List Tmp}(h:abS j s2 l)(k:abS s2 y m):abS j y (l++m):=
 ⟨fun t i=>(k.env t fun h=>i (bp _ h)).trans (h.env t fun h=>i (aS _ h)),fun p=>(k.heap p).trans (h.heap p)⟩
theorem abS.wide{i s2:St}{l m:List Tmp}(h:abS i s2 l)(k:∀t∈l,t∈m):abS i s2 m:=⟨fun t j=>h.env t fun h=>j (k t h),h.heap⟩
theorem agJ(H:Yo P X)(hm:P.follows .mixedOrders=true):∀(c:Code) {R:Type} (K:St→Option R) (r:R) (Q:Exit→Act→World→Prop) (s:St) (g:G) (a:Act) (w:World),
  WT X c K s=some r→SR w0 Z0 Zp X s g a w→(∀p,g.al p→p<s.next)→(∀s' g a w,K s'=some r→abS s s' (sa c)→SR w0 Z0 Zp X s' g a w→(∀p,g.al p→p<s'.next)→Q .normal a w)→c.wp P Q a w:=by
 intro c
 induction c with
 |skip=>intro R K r Q s g a w e d b h;exact wp_skip (h _ _ _ _ e ⟨fun _ _=>rfl,fun _=>rfl⟩ d b)
 |region id ops z=>intro R K r Q s g a w e d b h;exact W3 H hm e d b fun s' B w' D k l _ E F=>h s' D B w' k l E F
 |seq x y i j=>
  intro R K r Q s g a w e d b h;refine wp_seq (i _ r _ s g a w e d b fun J g a w q I d b=> ?_);exact j K r _ J g a w q d b fun L g a w q u d b=>h L g a w q (I.trans u) d b
 |cond c x y i j=>
  intro R K r Q s g a w e d b h;unfold WT at e
  split at e
  ·rename_i t o;have n:=dT d.env c;rw[o]at n;have n:a.eval c= .bool t:=n.c
   cases t with
   |true=>exact wp_cond_true n (i K r _ s g a w e d b fun s' g a w k l=>h s' g a w k (l.wide fun t o=>aS _ o))
   |false=>exact wp_cond_false n (j K r _ s g a w e d b fun s' g a w k l=>h s' g a w k (l.wide fun t o=>bp _ o))
  ·cases e
 |_=>intro R K r Q s g a w e d b h;cases e
end
section
variable {P:Program} {w0:W0} {w:World} {Z0 Zp:cD} {g:G} {X:Cx} {a:Act} {s:St}
def Ex.out:Ex→Exit
 |.normal=> .normal
 |.ret=> .ret
 |.exit id=> .exit id
theorem agK{e f:Ex}(h:ahT e f=true):e=f:=by
 cases e<;>cases f<;>simp only[ahT,cn]at h
 case normal.normal=>rfl
 case ret.ret=>rfl
 case exit.exit=>rw[aA h]
theorem abT{R:Type}{K:Ex→St→Option R}{r:R}{e:Ex}:∀(l:List (Ex×NS)) (out:Jh l),Uj l e s=some out→ahU l out K=some r→∃(N:NS) (x:N.den),dec N s=some x∧K e (enc N x)=some r
 |[],out,h,_=>by cases h
 |[o],out,h,b=>by
  unfold Uj at h
  split at h
  ·rename_i c;rw[←agK c];exact⟨o.2,out,h,b⟩
  ·cases h
 |o::p::l,out,h,b=>by
  unfold Uj at h
  split at h
  ·rename_i c
   split at h
   ·rename_i x d
    cases h;rw[←agK c];exact⟨o.2,x,d,b⟩
   ·cases h
  ·split at h
   ·rename_i x d
    cases h;exact abT (p::l) x d b
   ·cases h
theorem abU(hX:Yo P X)(hm:P.follows .mixedOrders=true):∀(c:Code) {R:Type} (K:Ex→St→Option R) (r:R) (Q:Exit→Act→World→Prop) (s:St) (g:G) (a:Act) (w:World),
  pO X c K s=some r→SR w0 Z0 Zp X s g a w→(∀p,g.al p→p<s.next)→(∀e s g a w,K e s=some r→SR w0 Z0 Zp X s g a w→(∀p,g.al p→p<s.next)→Q e.out a w)→c.wp P Q a w:=by
 intro c
 induction c with
 |skip=>intro R K r Q s g a w e d b i;exact wp_skip (i _ _ _ _ _ e d b)
 |region id ops Z=>
  intro R K r Q s g a w e d b i;unfold pO at e
  split at e
  ·rename_i N hN
   cases H:FT X ops Z (fun s=>dec N s) s with
   |none=>rw[H]at e;cases e
   |some v=>
    rw[H]at e;have e:K .normal (enc N v)=some r:=e;exact OY hX hm H d b fun B o u D z E J=>by
     obtain⟨L,F,M⟩:=Qr E z;exact i .normal _ L o u e F M
  ·split at e
   ·rename_i l hl;exact akq hX hm e d b fun v o u D z E J=>i .normal _ D o u z E J
   ·exact OY hX hm e d b fun B o u D z E J=>i .normal B D o u z E J
 |seq x y U V=>
  intro R K r Q s g a w e d b i;refine wp_seq (U _ r _ s g a w e d b fun e s g a w q d b=> ?_)
  cases e with
  |normal=>exact V _ r _ s g a w q d b i
  |ret=>exact i .ret s g a w q d b
  |exit id=>exact i (.exit id) s g a w q d b
 |cond c x y U V=>
  intro R K r Q s g a w e d b i;unfold pO at e
  split at e
  ·rename_i t ht;have O:=dT d.env c;rw[ht]at O;have O:a.eval c= .bool t:=O.c
   split at e
   ·rename_i N hN
    cases H:av t (pO X x (L6 N) s) (pO X y (L6 N) s)with
    |none=>rw[H]at e;cases e
    |some v=>
     rw[H]at e;have e:K .normal (enc N v)=some r:=e;have T:∀(W:Ex) (B:St) (D:G) (o:Act) (u:World),L6 N W B=some v→SR w0 Z0 Zp X B D o u→(∀p,D.al p→p<B.next)→Q W.out o u:=by
      intro W B D o u z E J;unfold L6 at z
      split at z
      ·obtain⟨L,F,M⟩:=Qr E z;exact i .normal _ L o u e F M
      ·cases z
     cases t with
     |true=>exact wp_cond_true O (U _ v _ s g a w H d b T)
     |false=>exact wp_cond_false O (V _ v _ s g a w H d b T)
   ·split at e
    ·rename_i l k hl;obtain⟨v,H,hK⟩:=Option.bind_eq_some_iff.1 e;have T:∀(ds:List Tmp) (B:St) (D:G) (o:Act) (u:World),aoj l (s.next+k) B=some v→(∀t∈ds,t∈sa x++sa y)→abS s B ds→SR w0 Z0 Zp X B D o u→(∀p,D.al p→p<B.next)→Q Exit.normal o u:=by
      intro ds B D o u z hds E J F;unfold aoj at z
      split at z
      ·rename_i Y;have Y:=eD Y;exact i .normal _ D o u hK (J.auI (E.wide hds) z _) fun p hp=>ca (F p hp) Y
      ·cases z
     cases t with
     |true=>exact wp_cond_true O (agJ hX hm x _ v _ s g a w H d b fun B D o u z E J F=>T _ B D o u z (fun t ht=>aS _ ht) E J F)
     |false=>exact wp_cond_false O (agJ hX hm y _ v _ s g a w H d b fun B D o u z E J F=>T _ B D o u z (fun t ht=>bp _ ht) E J F)
    ·cases t with
     |true=>exact wp_cond_true O (U _ r _ s g a w e d b i)
     |false=>exact wp_cond_false O (V _ r _ s g a w e d b i)
  ·cases e
 |block id x ih=>
  intro R K r Q s g a w e d b i;refine wp_block (ih _ r _ s g a w e d b fun e s g a w q d b=> ?_)
  cases e with
  |normal=>exact i .normal s g a w q d b
  |ret=>exact i .ret s g a w q d b
  |exit j=>
   have q:(match bT j id with
    |true=>K .normal s
    |false=>K (.exit j) s)=some r:=q
   split at q
   ·rename_i T;rw[aA T];have:=i .normal s g a w q d b;simpa[Ex.out,Exit.inBlock]using this
   ·rename_i T;have:=i (.exit j) s g a w q d b;have hne:¬ j=id:=by intro h;subst h;simp at T
    simpa[Ex.out,Exit.inBlock,hne]using this
 |loop x ih=>
  intro R K r Q s g a w e d b i;unfold pO at e
  split at e
  ·rename_i S hSl
   split at e
   ·rename_i v H
    cases hl:agu S (fun K s=>pO X x K s) X.fuel v with
    |none=>rw[hl]at e;cases e
    |some I=>
     rw[hl]at e;have e:ahU S.outs I K=some r:=e;have key:∀(n:Nat) (v:S.vin.den) (g:G) (a:Act) (w:World),agu S (fun K s=>pO X x K s) n v=some I→SR w0 Z0 Zp X (enc S.vin v) g a w→(∀p,g.al p→p<(enc S.vin v).next)→Code.rounds P x Q n a w:=by
      intro n
      induction n with
      |zero=>intro v g a w h;cases h
      |succ n ihn=>
       intro v g a w h d b;rw[rounds_succ];refine ih _ I _ _ g a w h d b fun W B D o u q hS' avh=> ?_;have hout:Uj S.outs W B=some I→Q W.out o u:=by
        intro q;obtain⟨N,x,z,E⟩:=abT _ I q e;obtain⟨L,F,M⟩:=Qr hS' z;exact i W _ L o u E F M
       cases W with
       |normal=>
        have q:(match dec S.vin B with
         |some v=>agu S (fun K s=>pO X x K s) n v
         |none=>none)=some I:=q
        split at q
        ·rename_i v' hv';obtain⟨L,F,M⟩:=Qr hS' hv';exact ihn v' L o u q F M
        ·cases q
       |ret=>exact hout q
       |exit j=>exact hout q
     obtain⟨L,F,M⟩:=Qr d H;exact wp_loop_rounds X.fuel (key X.fuel v L a w hl F M)
   ·cases e
  ·cases e
 |exit id=>intro R K r Q s g a w e d b i;exact wp_exit (i (.exit id) _ _ _ _ e d b)
 |ret=>intro R K r Q s g a w e d b i;exact wp_ret (i .ret _ _ _ _ e d b)
 |scope x ih=>
  intro R K r Q s g a w e d b i;refine wp_scope_straight (ih K r _ s g a w e d b fun e s g a w q d b=> ?_);have:=i e s g a w q d b
  cases e<;>exact this
 |label l=>intro R K r Q s g a w e d b i;exact wp_label (i .normal _ _ _ _ e d b)
 |_=>intro R K r Q s g a w e d b i;cases e
end
section
variable {P:Program} {w0:W0} {w:World} {Z0 Zp:cD} {g:G} {X:Cx} {a:Act} {s:St} {h:bm}
def aq5:List Value→Value
 |[v]=>v
 |vs=> .tuple vs.toArray
def Qt(tmps:Array Value):ResultVar→Sem Value
 |.tmp t=>pure (tmps.getD t undef)
 |.cell a t=>do loadVar t (←asAddr (tmps.getD a undef))
theorem BN(fn:Func)(tmps:Array Value)(vs:List Value)(h:(fn.results.toList.mapM (Qt tmps)).run P w= .ok vs w):
  (results fn tmps).run P w= .ok (aq5 vs) w:=by
 have c:results fn tmps=(fn.results.mapM (Qt tmps) >>= fun vs=>pure (if h:vs.size=1 then vs[0]else .tuple vs)):=rfl;have b:(fn.results.mapM (Qt tmps)).run P w= .ok vs.toArray w:=by
  rw[Array.mapM_eq_mapM_toList,map_eq_pure_bind,Sem.run_bind,h];rfl
 rw[c,Sem.run_bind,b];simp only[Result.andThen_ok,Sem.run_pure]
 match vs with
 |[]=>rfl
 |[v]=>rfl
 |u::v::vs=>rfl
theorem akr{R:Type}{r:R}{τ:Ty}{z:A}{v:Value}{k:τ.den→bm→Option R}(D:HR w0 Z0 Zp h g w)(E:AR w w0.heap.size Zp h g z v)(e:wC.valK s τ z h k=some r):
  ∃x b g1,k x b=some r∧HR w0 Z0 Zp b g1 w∧Le Zp h g w b g1 w∧Fz h g b g1∧xQ w g1.Z jC τ x v:=by
 unfold wC.valK at e
 split at e
 ·rename_i σ c x k
  split at e
  ·rename_i K H T
   split at e
   ·rename_i I S F
    cases y:gsF I x with
    |none=>rw[y]at e;cases e
    |some q=>
     rw[y]at e;obtain⟨g1,J,j,f1,U⟩:=aon D E.c T S F y;exact⟨q.1,_,g1,e,J,j,f1,PR.cE (.sl σ) _ _ (by simpa[Ty.cE]using F) U⟩
   ·cases e
  ·cases e
 ·rename_i O n _
  split at e
  ·rename_i i;rw[ak]at i;rw[HM.run_eq]at e;obtain⟨Y,p,b,Q⟩:=VR.list E
   cases t:(jv true n fun n=> .ret (.v O n)).eval s.next h []with
   |none=>rw[t]at e;cases e
   |some q=>
    rw[t]at e;obtain⟨o,B,N,W,M,L,l,u,d⟩:=eX _ _ h g _ _ _ D p t;have:=gH M;subst this;have e:(match τ.dC o with
     |some x=>k x B
     |none=>none)=some r:=e
    split at e
    ·rename_i x V;exact⟨x,B,N,e,L,l,u,xQ.cE i.2 (xQ.list (toBeq i.1) b Q (ez i.2 d V))⟩
    ·cases e
  ·cases e
 ·cases e
theorem agL{t:TypeId}{v u:Value}(h:(Instr.loadAt t v).run P w= .ok u w):Sem.run P (do loadVar t (←asAddr v)) w= .ok u w:=by
 unfold Instr.loadAt at h;rw[Sem.run_bind]at h ⊢;unfold Instr.sureAddr at h
 split at h
 ·exact h
 ·exfalso;have:Sem.run P (stuck "an address expected (no nilCheck in front?)":Sem Addr) w= .halt (.stuck "an address expected (no nilCheck in front?)") w:=rfl;rw[this]at h
  cases h
theorem akt{R:Type}{r:R}(B:Yk P X.tt){τ:Ty}{o:ResultVar}{k:τ.den→bm→Option R}(l:HR w0 Z0 Zp h g w)(c:∀t,AR w w0.heap.size Zp h g (look aJ t s.env) (a.tmps.getD t undef))(e:wC.resK X s τ o h k=some r):
  ∃v x i g1,(Qt a.tmps o).run P w= .ok v w∧k x i=some r∧HR w0 Z0 Zp i g1 w∧Le Zp h g w i g1 w∧Fz h g i g1∧xQ w g1.Z jC τ x v:=by
 unfold wC.resK at e
 split at e
 ·rename_i t;obtain⟨x,i,g1,j⟩:=akr l (c t) e;exact⟨_,x,i,g1,rfl,j⟩
 ·rename_i b t
  split at e
  ·rename_i d D;have T:=B _ (Ei D);rw[HM.run_eq]at e
   cases n:(abl d (look aJ b s.env)).eval s.next h []with
   |none=>rw[n]at e;cases e
   |some q=>
    obtain⟨r1,i,E⟩:=q;rw[n]at e;obtain⟨rfl,u,j,p⟩:=Un l T (c b) n;obtain⟨x,y,g1,z⟩:=akr l p e;exact⟨u,x,y,g1,agL j,z⟩
  ·cases e
theorem W4{R:Type}{r:R}(q:Yk P X.tt):∀(rs:List Ty) (d:List ResultVar) (h:bm) (g:G) (k:(jN rs).den→bm→Option R),HR w0 Z0 Zp h g w→(∀t,AR w w0.heap.size Zp h g (look aJ t s.env) (a.tmps.getD t undef))→wC X s rs d h k=some r→
  ∃vs x i g1,(d.mapM (Qt a.tmps)).run P w= .ok vs w∧k x i=some r∧HR w0 Z0 Zp i g1 w∧Le Zp h g w i g1 w∧xR w g1.Z jC rs x vs
 |[],[],h,g,k,c,b,e=>⟨[],(),h,g,rfl,e,c,Le.refl _ _ _ _,rfl⟩
 |[],_::_,h,g,k,c,b,e=>by cases e
 |[τ],[],h,g,k,c,b,e=>by cases e
 |[τ],[K],h,g,k,c,b,e=>by
  obtain⟨v,x,i,g1,l,n,o,j,D,p⟩:=akt q c b e;exact⟨[v],x,i,g1,by simp[l],n,o,j,v,rfl,p⟩
 |[τ],_::_::_,h,g,k,c,b,e=>by cases e
 |τ::σ::rs,[],h,g,k,c,b,e=>by cases e
 |τ::σ::rs,K::d,h,g,k,c,b,e=>by
  obtain⟨v,x,i,g1,l,n,o,j,D,p⟩:=akt q c b e;obtain⟨vs,y,E,B,F,H,I,u,J⟩:=W4 q (σ::rs) d i g1 _ o (fun t=>AR.mono j _ _ (b t)) n;exact⟨v::vs,(x,y),E,B,by simp[Sem.run_bind,l,F],H,I,j.trans u,v,vs,rfl,xQ.mono u.z (fun _ _ h=>h.elim) p,J⟩
theorem OU.as5{Z H:cD}(rs:List Ty)(x:(jN rs).den)(vs:List Value)(h:xR w Z H rs x vs):OU w Z H rs x (aq5 vs):=by
 match rs,x,h with
 |[],x,h=>have h:vs=[]:=h;subst h;exact⟨[],rfl,rfl⟩
 |[τ],x,⟨v,e,j⟩=>subst e;exact j
 |[τ,σ],x,⟨v,y,e,j,u,D,E⟩=>subst D;subst e;exact⟨[v,u],rfl,v,[u],rfl,j,u,rfl,E⟩
 |τ::σ::ρ::rs,x,⟨v,y,e,j,u,i,D,E⟩=>subst D;subst e;exact⟨v::u::i,rfl,v,_,rfl,j,u,i,rfl,E⟩
theorem aku:∀(ps:List Ty) (x:(jN ps).den) (vs:List Value) (n:Nat),xR w g.Z Zp ps x vs→∀t,∃v,AR w w0.heap.size Zp h g (look aJ t (mV n (FR ps x))) v∧(t<n∨n+vs.length≤t∨vs[t -n]? =some v)∧(t<n∨n+vs.length≤t→look aJ t (mV n (FR ps x))=aJ)
 |[],x,vs,n,b,t=>by
  have b:vs=[]:=b;subst b;exact⟨undef,⟨_,[],rfl,trivial,rfl⟩,by simp;omega,fun _=>rfl⟩
 |[τ],x,vs,n,⟨v,e,b⟩,t=>by
  subst e;show ∃j,AR w w0.heap.size Zp h g (look aJ t [(n,Yi τ x)]) j∧_∧(_→look aJ t [(n,Yi τ x)]=aJ);rw[aW]
  by_cases d:n=t
  ·subst d;rw[if_pos rfl];exact⟨v,b.toVR,by simp,fun h=>by simp at h;omega⟩
  ·rw[if_neg d];exact⟨undef,⟨_,[],rfl,trivial,rfl⟩,by simp;omega,fun _=>rfl⟩
 |τ::σ::ps,x,vs,n,⟨v,i,e,b,o⟩,t=>by
  subst e;show ∃j,AR w w0.heap.size Zp h g (look aJ t ((n,Yi τ x.1)::mV (n+1) (FR (σ::ps) x.2))) j∧_∧(_→look aJ t ((n,Yi τ x.1)::mV (n+1) (FR (σ::ps) x.2))=aJ);rw[aW]
  by_cases d:n=t
  ·subst d;rw[if_pos rfl];exact⟨v,b.toVR,by simp,fun h=>by simp at h;omega⟩
  ·rw[if_neg d];obtain⟨u,k,c,l⟩:=aku (σ::ps) x.2 i (n+1) o t;refine⟨u,k,?_,fun h=>l (by simp at h ⊢;omega)⟩;rcases c with c |c |c
   ·exact .inl (by omega)
   ·exact .inr (.inl (by simp;omega))
   ·by_cases p:t<n+1
    ·exact .inl (by omega)
    ·refine .inr (.inr ?_);rw[show t -n=(t -(n+1))+1 by omega];simpa using c
theorem avx{Z:cD}{e0:Ty}(t:0<e0.size){x:List e0.den}{v:Value}(e:xQ w Z Zp (.sl e0) x v)(hz:g.Z=Z):
  AR w w0.heap.size Zp h g (.v false [.sl e0 x .nn]) v∨(x=[]∧AR w w0.heap.size Zp h g (.v false [.sl e0 [] .nl]) v):=by
 have e:PR w Z Zp (.sl e0) x [v]:=e;have d:=e;obtain⟨c,n,j,o,D,p,q⟩:=e
 cases o
 cases c with
 |some b=>exact .inl (AR.qF ⟨by rw[hz];exact d,⟨_,_,_,rfl⟩⟩)
 |none=>
  have i:j=[]:=by
   cases j with
   |nil=>rfl
   |cons u j=>
    obtain⟨b,B,r,_⟩:=q (by simp)
    cases r
  subst i;have z:x=[]:=by
   have:=dR.length (PR.length e0) _ _ p
   cases x with
   |nil=>rfl
   |cons y l=>
    have k:0<af (y::l)*e0.size:=Nat.mul_pos (Nat.succ_pos _) t;rw[←this]at k;exact absurd k (by simp)
  subst z;exact .inr ⟨rfl,AR.qF ⟨by rw[hz];exact d,⟨_,_,rfl⟩⟩⟩
def abV(w:World):W0:=⟨w,fun _=>False,fun _ _=>none,fun _=>none,fun _=>True⟩
def abW(Z:cD)(l:List (Nat×GK)):G:=⟨fun o=>o∈l.map (·.1),Z,fun _=>none,fun _=>0,fun _ _=>none⟩
theorem Qu(p:Nat):∀l:List (Nat×GK),look .dead p (sb l)= .dead∨(p∈l.map (·.1)∧∃K,(p,K)∈l∧look .dead p (sb l)= .gh true K [])
 |[]=> .inl rfl
 |(c,K)::r=>by
  show look .dead p ((c,.gh true K [])::sb r)= .dead∨(p∈((c,K)::r).map (·.1)∧∃b,(p,b)∈(c,K)::r∧look .dead p ((c,.gh true K [])::sb r)= .gh true b []);rw[aW]
  split
  ·rename_i j;subst j;exact .inr ⟨by simp,K,by simp,rfl⟩
  ·rcases Qu p r with h |⟨d,b,e,i⟩
   ·exact .inl h
   ·exact .inr ⟨by simp only[cb,List.mem_cons];exact .inr d,b,by simp[e],i⟩
theorem HR.start(w:World)(Z Zp:cD)(hz:∀b i,Z b i→b<w.heap.size)(M:∀b i,Zp b i→b<w.heap.size)(l:List (Nat×GK))(N:l.all (fun k=>k.2.ok)=true):HR (abV w) Z Zp (sb l) (abW Z l) w:=by
 have y:∀c wr K H,look .dead c (sb l)= .gh wr K H→wr=true∧H=[]∧K.ok=true:=by
  intro c wr K H J;rcases Qu c l with h |⟨D,O,E,L⟩
  ·rw[h]at J;cases J
  ·rw[L]at J;cases J;rw[dY]at N;exact⟨rfl,rfl,N _ E⟩
 have I:∀c id b,¬ GL (sb l) (abW Z l) c id b:=fun c id b ⟨wr,K,H,x,e,D,E,L,T⟩=>by cases L
 refine⟨⟨rfl,rfl,rfl,az _,fun _ _ _=>rfl⟩,fun o=> ?_,fun o Q=> ?_,fun o b _ j=>(by cases j),fun o p b _ _ j _=>(by cases j),fun o b i _ j=>(by cases j),fun o b i _ j=>(by cases j),hz,fun b i _ h=> .inl h,fun b i h=>h,fun b i h=>⟨M b i h,fun h=>h⟩,
  ⟨fun c wr K H id x D E=> ?_,fun _ _ _ _ _ _ _=>rfl,fun c id b h=>absurd h (I c id b),fun c K H id x e _ _ h=>(by cases h),fun c id S R b h=>absurd h (I c id b),fun c id b i h=>absurd h (I c id b),fun c id b o h=>absurd h (I c id b),fun c wr V H id e _ h=>(by cases h),fun c id e h=>h,fun c K H h=> ?_,fun c id b i h=>absurd h (I c id b),fun c wr K H h=>(y c wr K H h).2.2,fun _ _ _ _=>trivial,fun c id e h=>(by cases h)⟩⟩
 ·rcases Qu o l with h |⟨_,O,_,h⟩
  ·rw[h];trivial
  ·rw[h];rfl
 ·rcases Qu o l with h |⟨D,_⟩
  ·exact h
  ·exact absurd D Q
 ·rw[(y c wr K H D).2.1]at E;simp at E
 ·have:=(y c false K H h).1;cases this
theorem sm{f:FuncId}{fn:Func}{e0 eT:Ty}{F:List e0.den→Option (List eT.den)}(hm:P.follows .mixedOrders=true)(hX:Yo P X)(hf:P.funcs[f]? =some fn)(hn:(fn.name== "runtime.NumGoroutine")=false)(M:fn.body.isNone=false)(O:eT.cE=true)(hs:0<e0.size)
  (hF:∀x l,F x=some l→wD X fn eT [.v false [.sl e0 x .nn]]=some l∧(x=[]→wD X fn eT [.v false [.sl e0 [] .nl]]=some l)):
  as6 P f ⟨[.sl e0],eT,F⟩:=by
 refine⟨⟨fn,hf,hn,M⟩,O,fun w0 Z Zp x r args hz hzp ha e1=> ?_⟩;obtain⟨k,B⟩:∃k:G,k=abW Z []:=⟨_,rfl⟩;have hZ:k.Z=Z:=by rw[B];rfl
 obtain⟨v,rfl,hv⟩:=ha;obtain⟨I,V,e⟩:∃I,AR w0 w0.heap.size Zp [] k I v∧wD X fn eT [I]=some r:=by
  rcases avx (w0:=abV w0) (h:=[]) hs hv hZ with H |⟨H,n⟩
  ·exact⟨_,H,(hF x r e1).1⟩
  ·exact⟨_,n,(hF x r e1).2 H⟩
 unfold wD at e
 split at e
 ·rename_i c t W Q E;refine calls_of_wp hf W ?_;have Q:X.nt≤fn.ntmps:=by simpa[Nat.ble_eq]using Q
  have hR:HR (abV w0) Z Zp [] k w0:=by rw[B];exact HR.start w0 Z Zp hz hzp [] rfl
  have N:∀t,AR w0 w0.heap.size Zp [] k (look aJ t (mV 0 [I])) (([v].toArray++Array.replicate (fn.ntmps - [v].toArray.size) undef).getD t undef):=by
   intro t;show AR w0 w0.heap.size Zp [] k (look aJ t [(0,I)]) _;rw[aW]
   by_cases S:0=t
   ·subst S;rw[if_pos rfl];have:([v].toArray++Array.replicate (fn.ntmps - [v].toArray.size) undef).getD 0 undef=v:=by
     rw[bH,Array.getElem?_append_left (by simp)];simp
    rw[this];exact V
   ·rw[if_neg S];exact⟨_,[],rfl,trivial,rfl⟩
  refine abU hX hm c _ r _ _ k _ w0 e ⟨N,hR,?_,rfl⟩ (fun p R=>by rw[B]at R;exact(by simp[abW]at R)) fun ex s g a w j q hal=> ?_
  ·simp;omega
  ·have u:(match look aJ t s.env with
     |.v false [c]=>(ajV eT c s.heap).map (·.1)
     |_=>none)=some r→a.defers=[]∧∃v,(results fn a.tmps).run P w= .ok v w∧∃v' ob,Ending.returned v= .returned v'∧w0.Extends w∧PR w (aqF Z w0 w ob (r.length*eT.size)) jC (.sl eT) r [v']∧aqG w0 w eT.size r.length ob v':=by
    intro j;have y:(fn.results.toList.mapM (Qt a.tmps)).run P w= .ok [a.tmps.getD t undef] w:=by
     rw[E];simp[Qt]
    have d:=q.env t
    split at j
    ·rename_i c W;rw[W]at d;have d:=d.c;unfold ajV at j
     split at j
     ·cases j;have d:a.tmps.getD t undef= .slice none 0 0:=d;refine⟨q.defers,_,BN fn a.tmps _ y,_,none,rfl,q.hr.ext.world (fun _ h=>h),?_,.inl ⟨rfl,d,rfl⟩⟩;show PR w _ _ (.sl eT) [] [a.tmps.getD t undef];rw[d];exact⟨none,0,[],rfl,az _,rfl,fun h=>absurd rfl h⟩
     ·rename_i e' l' o _
      split at j
      ·rename_i z
       split at j
       ·rename_i l hl
        cases j;obtain⟨rfl,rfl⟩:=nS hl;obtain⟨R,S⟩:=d;have hT:=S.2 z;refine⟨q.defers,_,BN fn a.tmps _ y,_,g.hm o,rfl,q.hr.ext.world (fun _ h=>h),?_,?_⟩
        ·refine PR.cE (.sl e') _ _ (by simpa[Ty.cE]using O) (PR.mono (Z:=g.Z) (fun b i M=>⟨?_,rfl⟩) (dG.refl _ _) _ _ _ R)
         by_cases Y:b<w0.heap.size
         ·exact .inl ((q.hr.Ji b i Y M).resolve_right (fun h=>h))
         ·refine .inr ⟨by omega,q.hr.Mw b i M,fun D=> ?_⟩;have H:=q.hr.Mv o b i z D M;rcases hT with⟨n,_⟩|⟨b',J,K,L,n,_,_,_,_,_,_,h9⟩
          ·rw[n]at D;cases D
          ·rw[h9]at H;exact H
        ·rcases hT with⟨n,T,U⟩|⟨b',J,K,L,n,T,U,h5,h6,h7,h8,h9⟩
         ·exact .inl ⟨n,T,U⟩
         ·exact .inr ⟨b',J,K,L,n,T,U,h5,h6,h7,h8⟩
       ·cases j
      ·cases j
     ·cases j
    ·cases j
   cases ex with
   |normal=>exact u j
   |ret=>exact u j
   |exit id=>cases j
 ·cases e
theorem dH{f:FuncId}{fn:Func}{ps rs:List Ty}(hm:P.follows .mixedOrders=true)(O:Yo P X)(Q:P.funcs[f]? =some fn)(hn:(fn.name== "runtime.NumGoroutine")=false)(F:fn.body.isNone=false)(K:rs.all Ty.cE=true):
  aq P f ⟨ps,rs,ap X fn ps rs⟩:=by
 refine⟨⟨fn,Q,hn,F⟩,K,fun w0 Z Zp x r d hz L ha e=> ?_⟩;replace e:ap X fn ps rs x=some r:=e;unfold ap at e
 split at e
 ·cases e
 ·cases e
 ·rename_i c hc l;refine calls_of_wp Q hc ?_;rw[ak]at l;obtain⟨l,j⟩:=l;have l:X.nt≤fn.ntmps:=by simpa[Nat.ble_eq]using l
  unfold aom at j;rw[ak]at j;have j:=j.2;have I:X.loc.all (fun k=>k.2.ok)=true:=by
   rw[dY]at j ⊢;intro k n;have:=j k n;rw[ak]at this;exact this.2
  have J:∀p,p∈X.loc.map (·.1)→p<X.nc:=by
   intro p H;obtain⟨k,n,rfl⟩:=List.mem_map.1 H;rw[dY]at j;have:=j k n;rw[ak]at this;simpa[eV]using this.1
  obtain⟨q,z⟩:∃q:G,q=abW Z X.loc:=⟨_,rfl⟩;have Y:q.Z=Z:=by rw[z];rfl
  have W:HR (abV w0) Z Zp (sb X.loc) q w0:=by rw[z];exact HR.start w0 Z Zp hz L X.loc I
  have D:∀t,AR w0 w0.heap.size Zp (sb X.loc) q (look aJ t (mV 0 (FR ps x))) ((d.toArray++Array.replicate (fn.ntmps -d.toArray.size) undef).getD t undef):=by
   intro t;obtain⟨v,N,u,V⟩:=aku (w:=w0) (w0:=abV w0) (Zp:=Zp) (g:=q) (h:=sb X.loc) ps x d 0 (by rw[Y];exact ha) t
   by_cases ht:0+d.length≤t
   ·rw[V (.inr ht)];exact⟨_,[],rfl,trivial,rfl⟩
   ·have u:d[t]? =some v:=by
     rcases u with u |u |u
     ·omega
     ·omega
     ·exact u
    have B:t<d.length:=by omega
    have:(d.toArray++Array.replicate (fn.ntmps -d.toArray.size) undef).getD t undef=v:=by
     rw[bH,Array.getElem?_append_left (by simpa using B)];simp[u]
    rw[this];exact N
  refine abU O hm c _ r _ _ q _ w0 e ⟨D,W,?_,rfl⟩ (fun p H=>by rw[z]at H;exact J p H) fun U s g a w n E hal=> ?_
  ·simp;omega
  ·have o:wC X s rs fn.results.toList s.heap (fun r _=>some r)=some r→a.defers=[]∧∃v,(results fn a.tmps).run P w= .ok v w∧∃S,Ending.returned v= .returned S∧w0.Extends w∧OU w (Ym Z w0 w) jC rs r S:=by
    intro n;obtain⟨T,y,N,g1,k1,k2,R,k4,k5⟩:=W4 O.tt rs _ _ _ _ E.hr E.env n
    cases k2;refine⟨E.defers,_,BN fn a.tmps T k1,_,rfl,E.hr.ext.world (fun _ h=>h),?_⟩;have M:dG w w g1.Z (Ym Z w0 w):=fun b i F=>⟨by
     by_cases B:b<w0.heap.size
     ·exact .inl ((R.Ji b i B F).resolve_right (fun h=>h))
     ·exact .inr ⟨by omega,R.Mw b i F⟩,rfl⟩
    exact OU.map (p:=fun _=>true) (fun τ x v _ hh=>xQ.mono M (dG.refl _ _) hh) _ _ _ (by simp) (OU.as5 rs r T k5)
   cases U with
   |normal=>exact o n
   |ret=>exact o n
   |exit id=>cases n
end
section
variable {P:Program} {w0:W0} {w:World} {Z0 Zp:cD} {g:G} {X:Cx} {a:Act} {s:St} {h h':bm}
theorem HR.only(R:HR w0 Z0 Zp h g w)(J:∀o,look .dead o h'=look .dead o h∨look .dead o h'= .dead):HR w0 Z0 Zp h' g w:=by
 have back:∀o,look .dead o h'≠.dead→look .dead o h'=look .dead o h:=fun o j=>(J o).resolve_right j;have E:∀o,look .dead o h'≠.dead→look .dead o h≠.dead:=fun o j=>back o j▸j;have L:Le Zp h g w h' g w:=⟨fun _ h=>h,dG.refl _ _,dG.refl _ _,fun o _=>by
  rcases J o with y |y
  ·rw[y];exact Ob.to.refl _
  ·exact .inl y,fun _ _ _=>rfl,fun _ _ _=>⟨rfl,fun _ _=>rfl⟩,fun _ _ _ h=>h⟩
 refine⟨R.ext,fun o=> ?_,fun o j=> ?_,fun o b hd D=>R.home o b (E o hd) D,fun o p b hd N D M=>R.nA o p b (E o hd) (E p N) D M,fun o b i j D=>R.kS o b i (back o (fun hd=>by rw[hd]at j;cases j)▸j) D,fun o b i j D=>R.Mv o b i (back o (fun hd=>by rw[hd]at j;cases j)▸j) D,R.Mw,R.Ji,R.z0,R.zp,
  R.gh.auA (fun c wr K H I=>(back c (by rw[I];simp))▸I) rfl R.gh.kS (fun c id b o O hd=>R.gh.loc c id b o O (E o hd)) (fun c id K x Q I=>uI.move (w':=w) (g':=g) (fun _ _ h=>⟨h,rfl⟩) (fun _ _ _ h=>h) (fun _ _=>rfl) K x Q I)⟩
 ·rcases J o with y |y
  ·rw[y];exact Qf.mono L (.inr rfl) (fun _ _ _=>rfl) (R.ob o)
  ·rw[y];trivial
 ·rcases J o with y |y
  ·rw[y];exact R.dead o j
  ·exact y
theorem agM{R:Type}{r:R}{V:VT}{y:A}{v:Value}{k:V.den→bm→Option R}(H:HR w0 Z0 Zp h g w)(I:AR w w0.heap.size Zp h g y v)(e:rJ.valK s V y h k=some r):
  ∃x c g1,k x c=some r∧HR w0 Z0 Zp c g1 w∧Le Zp h g w c g1 w∧AR w w0.heap.size Zp c g1 (Eh V x) v:=by
 unfold rJ.valK at e
 split at e
 ·rename_i B j
  split at e
  ·rename_i o;rw[ak]at o;rw[HM.run_eq]at e;obtain⟨L,p,c,F⟩:=VR.list I
   cases t:(jv true j fun j=> .ret (.v B j)).eval s.next h []with
   |none=>rw[t]at e;cases e
   |some q=>
    rw[t]at e;obtain⟨l,n,z,M,E,D,i,J,d⟩:=eX _ _ h g _ _ _ H p t;have:=gH E;subst this;have e:(match V.dC l with
     |some x=>k x n
     |none=>none)=some r:=e
    split at e
    ·rename_i x K;refine⟨x,n,z,e,D,i,?_⟩;have b:=VT.rM o.2 d K;have u:=toBeq o.1;show VR w w0.heap.size Zp n z V.isAgg (V.cells x) v;rw[←u]
     cases B with
     |true=>exact⟨L,c rfl,b⟩
     |false=>rw[F rfl]at b;exact b
    ·cases e
  ·cases e
 ·cases e
theorem agN{R:Type}{r:R}(B:Yk P X.tt){V:VT}{o:ResultVar}{k:V.den→bm→Option R}(l:HR w0 Z0 Zp h g w)(c:∀t,AR w w0.heap.size Zp h g (look aJ t s.env) (a.tmps.getD t undef))(e:rJ.resK X s V o h k=some r):
  ∃v x i g1,(Qt a.tmps o).run P w= .ok v w∧k x i=some r∧HR w0 Z0 Zp i g1 w∧Le Zp h g w i g1 w∧AR w w0.heap.size Zp i g1 (Eh V x) v:=by
 unfold rJ.resK at e
 split at e
 ·rename_i t;obtain⟨x,i,g1,j⟩:=agM l (c t) e;exact⟨_,x,i,g1,rfl,j⟩
 ·rename_i b t
  split at e
  ·rename_i d D;have T:=B _ (Ei D);rw[HM.run_eq]at e
   cases n:(abl d (look aJ b s.env)).eval s.next h []with
   |none=>rw[n]at e;cases e
   |some q=>
    obtain⟨r1,i,E⟩:=q;rw[n]at e;obtain⟨rfl,u,j,p⟩:=Un l T (c b) n;obtain⟨x,y,g1,z⟩:=agM l p e;exact⟨u,x,y,g1,agL j,z⟩
  ·cases e
theorem Qv{R:Type}{r:R}(q:Yk P X.tt):∀(rs:List VT) (d:List ResultVar) (h:bm) (g:G) (k:(BB rs).den→bm→Option R),HR w0 Z0 Zp h g w→(∀t,AR w w0.heap.size Zp h g (look aJ t s.env) (a.tmps.getD t undef))→rJ X s rs d h k=some r→
  ∃vs x i g1,(d.mapM (Qt a.tmps)).run P w= .ok vs w∧k x i=some r∧HR w0 Z0 Zp i g1 w∧Le Zp h g w i g1 w∧OW w w0.heap.size Zp i g1 rs x vs
 |[],[],h,g,k,c,b,e=>⟨[],(),h,g,rfl,e,c,Le.refl _ _ _ _,rfl⟩
 |[],_::_,h,g,k,c,b,e=>by cases e
 |[V],[],h,g,k,c,b,e=>by cases e
 |[V],[I],h,g,k,c,b,e=>by
  obtain⟨v,x,i,g1,l,n,o,j,p⟩:=agN q c b e;exact⟨[v],x,i,g1,by simp[l],n,o,j,v,rfl,p⟩
 |[V],_::_::_,h,g,k,c,b,e=>by cases e
 |V::U::rs,[],h,g,k,c,b,e=>by cases e
 |V::U::rs,I::d,h,g,k,c,b,e=>by
  obtain⟨v,x,i,g1,l,n,o,j,p⟩:=agN q c b e;obtain⟨vs,y,B,z,D,E,F,u,H⟩:=Qv q (U::rs) d i g1 _ o (fun t=>AR.mono j _ _ (b t)) n;exact⟨v::vs,(x,y),B,z,by simp[Sem.run_bind,l,D],E,F,j.trans u,v,vs,rfl,AR.mono u _ _ p,H⟩
theorem agO{base:Nat}:∀(rs:List VT) (x:(BB rs).den) (vs:List Value),OW w base Zp h g rs x vs→dR (fun(p:Bool×List C) d=>∃u,d=[u]∧VR w base Zp h g p.1 p.2 u) (abi rs x) vs
 |[],_,_,i=>i
 |[V],x,_,⟨v,e,c⟩=>⟨[v],[],by simp[e],⟨v,rfl,c⟩,rfl⟩
 |V::U::r,x,_,⟨v,b,e,c,j⟩=>⟨[v],b,by simp[e],⟨v,rfl,c⟩,agO (U::r) x.2 b j⟩
theorem amT{base:Nat}(rs:List VT)(x:(BB rs).den)(vs:List Value)(hh:OW w base Zp h g rs x vs):AR w base Zp h g (L0 rs x) (aq5 vs):=by
 match rs,x,hh with
 |[],x,hh=>have hh:vs=[]:=hh;subst hh;exact⟨[],rfl,rfl⟩
 |[V],x,⟨v,e,j⟩=>subst e;exact j
 |V::U::r,x,hh=>
  have k:=agO _ _ _ hh;obtain⟨v,c,e,j,i⟩:=hh;have:∃u b,c=u::b:=by
   cases r with
   |nil=>obtain⟨u,d,_⟩:=i;exact⟨u,[],d⟩
   |cons _ _=>obtain⟨u,b,d,_⟩:=i;exact⟨u,b,d⟩
  obtain⟨u,b,rfl⟩:=this;subst e;exact⟨v::u::b,rfl,k⟩
theorem agP:∀(ps:List VT) (x:(BB ps).den) (vs:List Value) (n:Nat),OW w w0.heap.size Zp h g ps x vs→∀t,∃v,AR w w0.heap.size Zp h g (look aJ t (mV n (zy ps x))) v∧(t<n∨n+vs.length≤t∨vs[t -n]? =some v)∧(t<n∨n+vs.length≤t→look aJ t (mV n (zy ps x))=aJ)
 |[],x,vs,n,b,t=>by
  have b:vs=[]:=b;subst b;exact⟨undef,⟨_,[],rfl,trivial,rfl⟩,by simp;omega,fun _=>rfl⟩
 |[V],x,vs,n,⟨v,e,b⟩,t=>by
  subst e;show ∃j,AR w w0.heap.size Zp h g (look aJ t [(n,Eh V x)]) j∧_∧(_→look aJ t [(n,Eh V x)]=aJ);rw[aW]
  by_cases d:n=t
  ·subst d;rw[if_pos rfl];exact⟨v,b,by simp,fun h=>by simp at h;omega⟩
  ·rw[if_neg d];exact⟨undef,⟨_,[],rfl,trivial,rfl⟩,by simp;omega,fun _=>rfl⟩
 |V::U::ps,x,vs,n,⟨v,i,e,b,o⟩,t=>by
  subst e;show ∃j,AR w w0.heap.size Zp h g (look aJ t ((n,Eh V x.1)::mV (n+1) (zy (U::ps) x.2))) j∧_∧(_→look aJ t ((n,Eh V x.1)::mV (n+1) (zy (U::ps) x.2))=aJ);rw[aW]
  by_cases d:n=t
  ·subst d;rw[if_pos rfl];exact⟨v,b,by simp,fun h=>by simp at h;omega⟩
  ·rw[if_neg d];obtain⟨u,k,c,l⟩:=agP (U::ps) x.2 i (n+1) o t;refine⟨u,k,?_,fun h=>l (by simp at h ⊢;omega)⟩;rcases c with c |c |c
   ·exact .inl (by omega)
   ·exact .inr (.inl (by simp;omega))
   ·by_cases p:t<n+1
    ·exact .inl (by omega)
    ·refine .inr (.inr ?_);rw[show t -n=(t -(n+1))+1 by omega];simpa using c
theorem W6:∀(l:List (Nat×GK)) (y:gF l),abs h l=some y→∀p i,io true l y p=some i→look .dead p h=i
 |[],_,_,p,i,j=>by cases j
 |(c,K)::r,y,e,p,i,j=>by
  unfold abs at e
  split at e
  ·rename_i k H q
   split at e
   ·rename_i u z n t
    cases e;obtain⟨o,rfl⟩:=jP n;subst o;have b:(if c=p then some (Ob.gh true k H)else io true r z p)=some i:=j;clear j
    by_cases d:c=p
    ·rw[if_pos d]at b;subst d
     cases b;exact q
    ·rw[if_neg d]at b;exact W6 r z t p i b
   ·cases e
  ·cases e
theorem lV{f:FuncId}{fn:Func}{ps rs:List VT}{ws os:List (Nat×GK)}(hm:P.follows .mixedOrders=true)(R:Yo P X)(S:P.funcs[f]? =some fn)(hn:(fn.name== "runtime.NumGoroutine")=false)(hb:fn.body.isNone=false)(B:rs.all VT.ok=true):
  pS P f ⟨ps,rs,ws,os,sd X fn ps rs ws os⟩:=by
 refine⟨⟨fn,S,hn,hb⟩,B,fun w0 Z0 Zp D x N K r d b Y o Z e=> ?_⟩;replace e:sd X fn ps rs ws os x N K=some (r,d):=e;unfold sd at e
 split at e
 ·rename_i c hc u n;refine calls_of_wp S hc ?_;have u:X.nt≤fn.ntmps:=by simpa[Nat.ble_eq]using u
  unfold aom at n;rw[ak]at n;have I:∀p,p∈(ws++os).map (·.1)→p<X.nc:=by
   intro p M;obtain⟨k,l,rfl⟩:=List.mem_map.1 M;have i:=n.2;rw[dY]at i;have:=i k l;rw[ak]at this;simpa[eV]using this.1
  have q:∀t,AR w0.toWorld w0.heap.size Zp (dF true ws N++dF false os K) D (look aJ t (mV 0 (zy ps x))) ((b.toArray++Array.replicate (fn.ntmps -b.toArray.size) undef).getD t undef):=by
   intro t;obtain⟨v,E,i,W⟩:=agP (w:=w0.toWorld) (w0:=w0) (Zp:=Zp) (g:=D) (h:=dF true ws N++dF false os K) ps x b 0 Z t
   by_cases ht:0+b.length≤t
   ·rw[W (.inr ht)];exact⟨_,[],rfl,trivial,rfl⟩
   ·have i:b[t]? =some v:=by
     rcases i with i |i |i
     ·omega
     ·omega
     ·exact i
    have J:t<b.length:=by omega
    have:(b.toArray++Array.replicate (fn.ntmps -b.toArray.size) undef).getD t undef=v:=by
     rw[bH,Array.getElem?_append_left (by simpa using J)];simp[i]
    rw[this];exact E
  refine abU R hm c _ (r,d) _ _ D _ w0.toWorld e ⟨q,Y,?_,rfl⟩ (fun p M=>I p (o p M)) fun V s g a w l F hal=> ?_
  ·simp;omega
  ·have j:(rJ X s rs fn.results.toList s.heap fun r h=>match abs h ws with
     |some y=>some (r,y)
     |none=>none)=some (r,d)→a.defers=[]∧∃v,(results fn a.tmps).run P w= .ok v w∧∃T Q,Ending.returned v= .returned T∧HR w0 Z0 Zp (dF true ws d) Q w∧AR w w0.heap.size Zp (dF true ws d) Q (L0 rs r) T:=by
    intro l;obtain⟨U,y,E,g1,k1,O,k3,k4,k5⟩:=Qv R.tt rs _ _ _ _ F.hr F.env l
    split at O
    ·rename_i z hz
     cases O;have H:∀p,look .dead p (dF true ws d)=look .dead p E∨look .dead p (dF true ws d)= .dead:=fun p=>by
      have:=Jo true p [] ws d;rw[cG]at this;rw[this]
      cases L:io true ws d p with
      |none=>exact .inr rfl
      |some ob=>exact .inl (W6 ws d hz p ob L).symm
     refine⟨F.defers,_,BN fn a.tmps U k1,_,g1,rfl,k3.only H,?_⟩;exact Qn (g:=g1) (g1:=g1) (fun _ _ h=>⟨h,rfl⟩) (fun _ _ _ h=>h) rs r _ B (amT rs r U k5)
    ·cases O
   cases V with
   |normal=>exact j l
   |ret=>exact j l
   |exit id=>cases l
 ·cases e
theorem akv{f:FuncId}{fn:Func}{ps rs:List VT}{ws os:List (Nat×GK)}(d:P.funcs[f]? =some fn)(i:(fn.name== "runtime.NumGoroutine")=false)(c:fn.body.isNone=false)(b:rs.all VT.ok=true):
  pS P f ⟨ps,rs,ws,os,fun _ _ _=>none⟩:=
 ⟨⟨fn,d,i,c⟩,b,fun _ _ _ _ _ _ _ _ _ _ _ _ _ e=>by cases e⟩
end
open Go Go.ChangeShapes Go.WideShapes Go.ChangeAt Go.RowKit
def Yp:(τ:Ty)→τ.den→Prop
 |.int k,n=>k.min≤(show Int from n)∧(show Int from n)≤k.max
 |.sl e,l=>∀x:e.den,x∈(show List e.den from l)→Yp e x
 |.pair a b,x=>Yp a x.1∧Yp b x.2
 |.ref a,x=>Yp a x
 |_,_=>True
def bt:(τ:Ty)→τ.den→Nat
 |.bool,_=>1
 |.int _,_=>1
 |.str,s=>af s+1
 |.sl e,l=>1+((l:List e.den).map (bt e)).sum
 |.pair a b,x=>bt a x.1+bt b x.2
 |.unit,_=>0
 |.ref a,x=>bt a x
 |.fn _,_=>0
 |.cl _ _,_=>0
def partsOf:Nat→Ty→Option (List Ty)
 |0,_=>some []
 |1,τ=>some [τ]
 |k+2,.pair a b=>(partsOf (k+1) b).map (a::·)
 |_+2,_=>none
def as7:Nat→Ty→Option (List Ty)
 |1,.pair a _=>some [a]
 |k,τ=>partsOf k τ
def abX(P:Program)(f:Ty→TypeId→Bool):Nat→List Field→List Ty→Bool
 |_,[],[]=>true
 |off,a::b,τ::τs=>bT a.offset off&&bT (P.cellsOf a.type) τ.size&&f τ a.type&&abX P f (off+τ.size) b τs
 |_,_,_=>false
def Um(a b:Ty):Bool:=match decEq a b with
 |.isTrue _=>true
 |.isFalse _=>false
theorem BO{a b:Ty}(h:Um a b=true):a=b:=by
 unfold Um at h
 split at h
 ·assumption
 ·cases h
def ah8(P:Program):Nat→Ty→TypeId→Bool
 |0,_,_=>false
 |n+1,τ,t=>match P.underlying t with
  |some .bool=>Um τ .bool
  |some (.int k)=>Um τ (.int k)
  |some .string=>Um τ .str
  |some (.slice e)=>match τ with
   |.sl σ=>bT (P.cellsOf e) σ.size&&Nat.blt 0 σ.size&&ah8 P n σ e
   |_=>false
  |some (.struct a)=>bT (P.cellsOf t) τ.size&&(match as7 a.size τ with
   |some l=>Um (awQ l) τ&&abX P (ah8 P n) 0 a.toList l
   |none=>false)
  |_=>false
structure Blk {H:Type} (bk:DataW H→Nat):Prop where
 lit:∀l,1≤bk (.lit l)
 str:∀s,s.length+1≤bk (.lit (.string s))
 nil:1≤bk .nil
 slice:∀es sp,1+(es.map bk).sum≤bk (.slice es sp)
 agg:∀ps,(ps.map bk).sum≤bk (.agg ps)
section
variable {H:Type} {enc:TypeId×Value→H} {P:Program} {w:World} {Zp:cD} {sp:Nat→Bool} {bk:DataW H→Nat}
theorem apk{a:Addr}{n:Nat}{cs:List Value}(h:w.cells? 0 a n=some cs):cs.length=n∧∀j,j<n→w.cell? (a.add j)=cs[j]? :=by
 unfold World.cells? at h;rw[if_pos (Nat.zero_le _)]at h;exact⟨by simpa using mapM_some_length h,fun j b=>mapM_some_get h j j (by simp[b])⟩
theorem apl{a:Addr}{v:Value}(h:w.cell? a=some v):a.spot=none∧a.block<w.heap.size:=by
 refine⟨?_,World.block_lt_of_cell? w a h⟩;unfold World.cell? at h
 split at h
 ·split at h
  ·cases h
  ·rename_i b;simpa using b
 ·cases h
theorem aou{f:Ty→TypeId→Bool}{n:Nat}{cs:List Value}(z:∀τ t cs d ps,f τ t=true→DataW.trod enc P w 0 sp true n t cs=some (d,ps)→∃x:τ.den,PR w (All w) Zp τ x cs∧Yp τ x∧bt τ x≤bk d):
  ∀(a:List Field) (l:List Ty) (off:Nat) (xs:List (DataW H×List MemPlace)),abX P f off a l=true→xs.length=a.length→cs.length=off+(jN l).size→
   (∀(i:Nat) (fd:Field),a[i]? =some fd→DataW.trod enc P w 0 sp true n fd.type ((cs.drop fd.offset).take (P.cellsOf fd.type))=xs[i]?)→
   ∃x:(jN l).den,PR w (All w) Zp (jN l) x (cs.drop off)∧Yp (jN l) x∧bt (jN l) x≤((xs.map (·.1)).map bk).sum
 |[],[],off,xs,_,b,e,_=>⟨(),by
   have:cs.length=off:=by simpa[jN,Ty.size]using e
   show cs.drop off=[];simp[this],trivial,Nat.zero_le _⟩
 |[],_::_,_,_,h,_,_,_=>by cases h
 |_::_,[],_,_,h,_,_,_=>by cases h
 |fd::a,[τ],off,xs,h,b,e,k=>by
  simp only[abX,ak]at h;obtain⟨⟨⟨p,q⟩,r⟩,u⟩:=h
  cases a with
  |cons _ _=>cases u
  |nil=>
   match xs,b with
   |[x0],_=>
    have c:=k 0 fd rfl;rw[aA p,aA q]at c;obtain⟨x,j,o,B⟩:=z τ fd.type _ x0.1 x0.2 r (by rw[c];rfl);have g:(cs.drop off).length=τ.size:=by rw[dE,e];show off+τ.size -off=τ.size;omega
    rw[←g,ch]at j;exact⟨x,j,o,by show bt τ x≤_;simpa using B⟩
 |fd::a,τ::σ::l,off,xs,h,b,e,k=>by
  simp only[abX,ak]at h;obtain⟨⟨⟨p,q⟩,r⟩,u⟩:=h
  match xs,b with
  |x0::xs,b=>
   have c:=k 0 fd rfl;rw[aA p,aA q]at c;obtain⟨x,j,o,B⟩:=z τ fd.type _ x0.1 x0.2 r (by rw[c];rfl);obtain⟨y,b1,D,F⟩:=aou z a (σ::l) (off+τ.size) xs u (by simpa using b) (by rw[e];show off+(τ.size+(jN (σ::l)).size)=_;omega) (fun i fd E=>k (i+1) fd E);refine⟨(x,y),⟨_,_,?_,j,b1⟩,⟨o,D⟩,?_⟩
   ·rw[←List.drop_drop,bM]
   ·show bt τ x+bt (jN (σ::l)) y≤_;simp only[cb,cO];omega
theorem auJ{n:Nat}{σ:Ty}{e:TypeId}{a:Addr}(O:0<σ.size)(B:P.cellsOf e=σ.size)(D:∀cs d ps,DataW.trod enc P w 0 sp true n e cs=some (d,ps)→∃x:σ.den,PR w (All w) Zp σ x cs∧Yp σ x∧bt σ x≤bk d):
  ∀(b:List (DataW H×List MemPlace)) (k:Nat),(∀i,i<b.length→(w.cells? 0 (a.add ((k+i)*P.cellsOf e)) (P.cellsOf e)).bind (DataW.trod enc P w 0 sp true n e)=b[i]?)→
   ∃(l:List σ.den) (o:List Value),l.length=b.length∧dR (PR w (All w) Zp σ) l o∧(∀x,x∈l→Yp σ x)∧(l.map (bt σ)).sum≤((b.map (·.1)).map bk).sum∧∀j u,o[j]? =some u→w.cell? (a.add (k*σ.size+j))=some u
 |[],k,_=>⟨[],[],rfl,rfl,fun _ h=>(by cases h),az _,fun j u h=>(by simp at h)⟩
 |x0::r,k,h=>by
  have y:=h 0 (by simp);simp only[Nat.add_zero,eK,Option.bind_eq_some_iff]at y;obtain⟨cs,L,M⟩:=y;obtain⟨x,E,F,Q⟩:=D cs x0.1 x0.2 M;obtain⟨g,c⟩:=apk L;obtain⟨l,o,b1,I,J,R,K⟩:=auJ O B D r (k+1) (fun i N=>by have:=h (i+1) (by simpa using N);rw[show k+1+i=k+(i+1)by omega];exact this);refine⟨x::l,cs++o,by simp[b1],⟨cs,o,rfl,E,I⟩,?_,?_,?_⟩
  ·intro z t;rcases List.mem_cons.1 t with rfl |t
   ·exact F
   ·exact J z t
  ·simp only[cb,cO];omega
  ·intro j u p;rw[B]at g c
   by_cases q:j<cs.length
   ·rw[aP q]at p;have:=c j (by omega);rw[←p,←this,Addr.add_add]
   ·rw[bc (by omega)]at p;have:=K _ u p;rw[←this,g,Nat.succ_mul];congr 2;omega
theorem ah9(B:Blk bk):∀(fuel n:Nat) (τ:Ty) (t:TypeId) (cs:List Value) (d:DataW H) (ps:List MemPlace),ah8 P n τ t=true→DataW.trod enc P w 0 sp true fuel t cs=some (d,ps)→
  ∃x:τ.den,PR w (All w) Zp τ x cs∧Yp τ x∧bt τ x≤bk d
 |fuel,0,_,_,_,_,_,h,_=>by cases h
 |fuel,n+1,τ,t,cs,d,ps,h,J=>by
  unfold ah8 at h
  split at h
  ·rename_i D;obtain⟨b,rfl,g⟩:=DataW.trod_bool D J
   cases g;have:=BO h;subst this;exact⟨b,rfl,trivial,B.lit _⟩
  ·rename_i k D;obtain⟨m,rfl,g,X⟩:=DataW.trod_int D J
   cases g;have:=BO h;subst this;simp only[Lit.wf,ak,decide_eq_true_eq]at X;exact⟨m,rfl,X,B.lit _⟩
  ·rename_i D;obtain⟨s,rfl,g,_⟩:=DataW.trod_string D J
   cases g;have:=BO h;subst this;refine⟨s.data.toList,?_,trivial,B.str _⟩;show[Value.string s]=[.string ⟨s.data.toList.toArray⟩];simp
  ·rename_i e D
   split at h
   ·rename_i σ;simp only[ak]at h;obtain⟨⟨q,z⟩,M⟩:=h;have q:=aA q;have z:0<σ.size:=by simpa[eV]using z
    rcases DataW.trod_slice D J with⟨rfl,g⟩|⟨a,len,L,p,K,m,rfl,rfl,g,_,hlc,_,hel,y,_⟩
    ·cases g;exact⟨[],⟨none,0,[],rfl,az _,rfl,fun h=>absurd rfl h⟩,fun x g=>(by cases g),B.nil⟩
    ·cases g;obtain⟨l,S,b1,Z,b3,b4,T⟩:=auJ (Zp:=Zp) (bk:=bk) (a:=a) z q (fun cs d ps h=>ah9 B m n σ e cs d ps M h) p 0 (fun i W=>by rw[dJ];exact y i (by omega));refine⟨l,?_,b3,?_⟩
     ·refine⟨some a,L,S,?_,by omega,Z,fun O=> ?_⟩
      ·rw[show len=af l by omega]
      ·cases S with
       |nil=>exact absurd rfl O
       |cons u S=>
        have U:=T 0 u rfl;rw[Nat.zero_mul,Nat.add_zero]at U;have c:=apl U;simp only[Addr.add,if_true]at c;refine⟨a.block,a.off,?_,fun j u hj=> ?_⟩
        ·obtain⟨b,o,s⟩:=a;simp only at c;rw[c.1]
        ·have q:=T j u hj;rw[Nat.zero_mul,dJ]at q;have M:a.add j=⟨a.block,a.off+j,none⟩:=by
          obtain⟨b,o,s⟩:=a;simp only at c;rw[c.1];unfold Addr.add
          split
          ·rename_i h;subst h;rfl
          ·rfl
         rw[M]at q;exact⟨q,c.2⟩
     ·have:=B.slice (p.map (·.1)) (K.map (·.1));show 1+(l.map (bt σ)).sum≤_;omega
   ·cases h
  ·rename_i fs D;simp only[ak]at h;obtain⟨q,z⟩:=h;have q:=aA q
   split at z
   ·rename_i l hl;simp only[ak]at z;have V:=BO z.1;obtain⟨Y,m,rfl,g,N,R,y⟩:=DataW.trod_struct D J
    cases g;have Q:(jN l).size=τ.size:=by
     rw[←V]
     match l with
     |[]=>rfl
     |[a]=>simp[awQ,jN,Ty.size]
     |_::_::_=>rfl
    obtain⟨x,E,I,F⟩:=aou (Zp:=Zp) (bk:=bk) (cs:=cs) (f:=ah8 P n) (fun τ t cs d ps h h'=>ah9 B m n τ t cs d ps h h') fs.toList l 0 Y z.2 (by simpa using R) (by rw[N,q,Q];omega) (fun i fd W=>y i fd (by simpa using W));have hb:=B.agg (Y.map (·.1));subst V;rw[dy]at E
    match l,x,E,I,F with
    |[],x,E,I,F=>exact⟨(),E,trivial,Nat.zero_le _⟩
    |[a],x,E,I,F=>exact⟨(x,()),⟨cs,[],by simp,E,rfl⟩,⟨I,trivial⟩,by show bt a x+0≤_;have F:bt a x≤_:=F;omega⟩
    |a::b::r,x,E,I,F=>exact⟨x,E,I,ei F hb⟩
   ·cases z
  ·cases h
 termination_by _ n=>n
theorem akw{n:Nat}{τ:Ty}{t:TypeId}(h:ah8 P n τ t=true):(τ.isAgg=true→∃g,P.underlying t=some (.struct g))∧(τ.isAgg=false→∀base v,Value.okWide P w .any base t v→v.cells= #[v]):=by
 cases n with
 |zero=>cases h
 |succ n=>
  unfold ah8 at h
  split at h
  ·rename_i a;have:=BO h;subst this;exact⟨fun h=>(by cases h),fun _ base v c=>by
    cases v<;>first |rfl |simp[Value.okWide,a,Cell.okWide,Cell.ok]at c⟩
  ·rename_i k a;have:=BO h;subst this;exact⟨fun h=>(by cases h),fun _ base v c=>by
    cases v<;>first |rfl |simp[Value.okWide,a,Cell.okWide,Cell.ok]at c⟩
  ·rename_i a;have:=BO h;subst this;exact⟨fun h=>(by cases h),fun _ base v c=>by
    cases v<;>first |rfl |simp[Value.okWide,a,Cell.okWide,Cell.ok]at c⟩
  ·rename_i e a
   split at h
   ·exact⟨fun h=>(by cases h),fun _ base v c=>by
     cases v<;>first |rfl |simp[Value.okWide,a,Cell.okWide,Cell.ok]at c⟩
   ·cases h
  ·rename_i g a;refine⟨fun _=>⟨g,a⟩,fun b=> ?_⟩;simp only[ak]at h;obtain⟨_,d⟩:=h
   split at d
   ·rename_i l _;simp only[ak]at d;have i:=BO d.1;rw[←i]at b
    match l,b with
    |[],b=>cases b
    |[_],b=>cases b
    |_::_::_,b=>cases b
   ·cases d
  ·cases h
def agQ(P:Program)(n:Nat):List Ty→List TypeId→Bool
 |[],[]=>true
 |τ::τs,t::a=>ah8 P n τ t&&agQ P n τs a
 |_,_=>false
theorem W7(B:Blk bk){n base:Nat}{τ:Ty}{t:TypeId}{v:Value}{d:DataW H}{ps:List MemPlace}(h:ah8 P n τ t=true)(e:DataW.Trod enc P w 0 sp true t v d ps)(a:Value.okWide P w .any base t v):
  ∃x:τ.den,xQ w (All w) Zp τ x v∧Yp τ x∧bt τ x≤bk d:=by
 obtain⟨b,e⟩:=e;obtain⟨x,c,j,k⟩:=ah9 (Zp:=Zp) B b n τ t _ d ps h e;refine⟨x,?_,j,k⟩;unfold xQ
 cases g:τ.isAgg with
 |true=>
  obtain⟨o,l⟩:=(akw (w:=w) h).1 g;unfold Value.okWide at a;rw[l]at a;obtain⟨i,rfl,_,_⟩:=a;exact⟨i.toList,by simp,c⟩
 |false=>
  have:=(akw (w:=w) h).2 g base v a;rw[this]at c;exact c
theorem Qw(B:Blk bk){n base:Nat}:∀(τs:List Ty) (ts:List TypeId) (vs:List Value) (c:List (DataW H)) (ps:List MemPlace),agQ P n τs ts=true→DataW.TrodAll enc P w 0 sp true ts vs c ps→
  (∀(j:Nat) t v,ts[j]? =some t→vs[j]? =some v→Value.okWide P w .any base t v)→∃x:(jN τs).den,xR w (All w) Zp τs x vs∧Yp (jN τs) x∧bt (jN τs) x≤(c.map bk).sum
 |[],[],vs,c,ps,_,g,_=>by
  obtain⟨rfl,rfl,_⟩:=trodAll_nil g;exact⟨(),rfl,trivial,az _⟩
 |[],_::_,_,_,_,h,_,_=>by cases h
 |_::_,[],_,_,_,h,_,_=>by cases h
 |[τ],t::ts,vs,c,ps,h,g,a=>by
  simp only[agQ,ak]at h;obtain⟨l,o⟩:=h
  cases ts with
  |cons _ _=>cases o
  |nil=>
   obtain⟨v,b,d,e,p,q,rfl,rfl,_,r,u⟩:=trodAll_cons g;obtain⟨rfl,rfl,_⟩:=trodAll_nil u;obtain⟨x,i,k,z⟩:=W7 (Zp:=Zp) B l r (a 0 t v rfl rfl);exact⟨x,⟨v,rfl,i⟩,k,by show bt τ x≤_;simpa using z⟩
 |τ::σ::τs,t::ts,vs,c,ps,h,g,a=>by
  simp only[agQ,ak]at h;obtain⟨l,o⟩:=h;obtain⟨v,b,d,e,p,q,rfl,rfl,_,r,u⟩:=trodAll_cons g;obtain⟨x,i,k,z⟩:=W7 (Zp:=Zp) B l r (a 0 t v rfl rfl);obtain⟨y,b1,D,F⟩:=Qw B (σ::τs) ts b e q (by simpa[agQ]using o) u (fun j t v h E=>a (j+1) t v h E);refine⟨(x,y),⟨v,b,rfl,i,b1⟩,⟨k,D⟩,?_⟩;show bt τ x+bt (jN (σ::τs)) y≤_;simp only[cb,cO];omega
theorem MW(r:laidOutB P=true){W j:World}(b:W.Extends j){g:Nat→Bool}:∀(ts:List TypeId) (vs:List Value) (h:List (DataW H)) (ps:List MemPlace),(ts.all fun t=>P.readableRec t&&decide (t<P.types.size))=true→
  DataW.TrodAll enc P W 0 (fun _=>true) true ts vs h ps→(∀p∈ps,p.block<W.heap.size)→(∀p∈ps,g p.block=true)→DataW.TrodAll enc P j 0 g true ts vs h ps
 |[],vs,h,ps,_,n,_,_=>by
  obtain⟨rfl,rfl,rfl⟩:=trodAll_nil n;rfl
 |t::ts,vs,h,ps,i,n,c,e=>by
  obtain⟨v,o,d,l,p,q,rfl,rfl,rfl,u,y⟩:=trodAll_cons n;simp only[List.all_cons,ak,decide_eq_true_eq]at i;have z:Below W.heap.size W j:=⟨b.os,b.tape,b.output,b.size,fun k B=>b.block k B⟩;exact⟨p,q,WideElems.Trod_stays r i.1.1 i.1.2 u (fun x a=>z.same (c x (aS _ a))) (fun x a=>e x (aS _ a)),
   MW r b ts o l q i.2 y (fun x a=>c x (bp _ a)) (fun x a=>e x (bp _ a)),rfl⟩
theorem aq6{W c:World}(a:W.Extends c)(b:MemPlace→Prop):W.keptBut c b:=by
 refine⟨a.os,a.output,fun i d=> ?_⟩;rw[a.block i d]
 cases W.heap[i]? with
 |none=>trivial
 |some o=>cases o<;>simp
theorem aq7{f:Func}{s:ChangeSpec}{W k:World}{c:Array Value}{g gs:List (DataW H)}{e:List MemPlace}{tb:TypeId}(M:laidOutB P=true)(O:(f.params.toList.all fun t=>P.readableRec t&&decide (t<P.types.size))=true)
  (h:f.resultTypes= #[tb]) (r:P.underlying tb=some .bool) (J:s.vars=[]) (E:(s.fn H (g++gs)).results=[.lit (.bool true)]∧(s.fn H (g++gs)).args=g∧(s.fn H (g++gs)).vars=[])
  (z:DataW.Whole enc P f.params.toList s.vars false W c.toList g gs e) (D:W.Extends k):
  s.post enc P f false true false false W c (.bool true) k:=by
 have i:=z.lt;have B:=z;obtain⟨d,R,K,x,rfl,Q,S⟩:=z;rw[J]at x;have y:gs=[]∧R=[]:=by
  cases gs with
  |nil=>exact⟨rfl,x⟩
  |cons _ _=>exact x.elim
 obtain⟨rfl,rfl⟩:=y;have n:∀p∈d++[],(fun b=>decide (b<W.heap.size)) p.block=true:=fun p a=>by simpa using i p a
 have q:∀(b:Nat) (sp:Nat→Bool) (I:Bool),DataW.TrodAll enc P k b sp I f.resultTypes.toList ((Value.bool true).resultList f.resultTypes.size) (s.fn H (g++[])).results []:=fun b sp I=>by
  rw[h,E.1];exact trodAll_mk1 (shut_bool r true)
 have l:∀sp:Nat→Bool,(∀p∈d++[],sp p.block=true)→DataW.TrodAll enc P k 0 sp true f.params.toList c.toList (s.fn H (g++[])).args d:=fun sp F=>by
  rw[E.2.1];exact MW M D _ _ _ _ O K (fun p a=>i p (aS _ a)) (fun p a=>F p (aS _ a))
 have u:∀sp:Nat→Bool,DataW.TrodVars enc P k sp s.vars (s.fn H (g++[])).vars []:=fun sp=>by
  rw[E.2.2,J];rfl
 have N:d++[]=d++([]:List MemPlace):=rfl;refine⟨g,[],d++[],[],d,[],B,q _ _ _,l _ n,u _,World.keptBut_mono (fun p a=>⟨a,?_⟩) (aq6 D (·∈d++[])),fun _=> ?_⟩
 ·exact Or.inr (by simpa using a)
 ·refine⟨ok_one h rfl (okWide_bool_mk r true),_,_,([]++d)++[],⟨[]++d,[],trodAll_append (l _ (fun _ _=>rfl)) (q _ _ _),u _,rfl,?_,?_⟩,?_⟩
  ·intro b j a;have o:MemPlace.cell b j∈d++[]:=by simpa using a
   rw[D.frozen ⟨b,j,none⟩ (i _ o)];exact Q b j o
  ·intro L;cases L
  ·intro p a _;simpa using a
theorem Ux{f:FuncId}{fn:Func}{τs:List Ty}{E:Nat→(jN τs).den→Option Bool}(S:∀n,aq P f ⟨τs,[.bool],E n⟩){n base N:Nat}{tb:TypeId}(B:Blk bk)(O:laidOutB P=true)(r:agQ P n τs fn.params.toList=true)
  (R:(fn.params.toList.all fun t=>P.readableRec t&&decide (t<P.types.size))=true) (k:fn.resultTypes= #[tb]) (q:P.underlying tb=some .bool) {s:ChangeSpec} (U:s.vars=[])
  {W:World} {a:Array Value} {d gs:List (DataW H)} {c:List MemPlace} (T:(s.fn H (d++gs)).results=[.lit (.bool true)]∧(s.fn H (d++gs)).args=d∧(s.fn H (d++gs)).vars=[])
  (l:∀(j:Nat) t v,fn.params[j]? =some t→a[j]? =some v→Value.okWide P W .any base t v)
  (y:DataW.Whole enc P fn.params.toList s.vars false W a.toList d gs c) (L:(d.map bk).sum≤N)
  (pure:∀x:(jN τs).den,Yp (jN τs) x→bt (jN τs) x≤N→∃n,E n x=some true):
  Calls P f a W fun e o=>∃v,e= .returned v∧s.post enc P fn false true false false W a v o:=by
 obtain⟨V,X,K,_,_,_,_⟩:=id y;obtain⟨x,F,I,J⟩:=Qw (Zp:=jC) (base:=base) B τs _ _ _ _ r K (fun j t v h D=>l j t v (by simpa using h) (by simpa using D));obtain⟨m,Q⟩:=pure x I (ei J L);have z:=(S m).calls W (All W) jC x true a.toList (fun b i h=>h) (fun b i h=>h.elim) F Q;rw[Array.toArray_toList]at z;refine z.mono fun e o ⟨v,M,g,p⟩=>⟨v,M,?_⟩;have u:v= .bool true:=by
  have:PR o (Ym (All W) W o) jC .bool true [v]:=p;simp only[PR]at this;injection this
 subst u;exact aq7 O R k q U T y g
end
section
variable {P:Program}
theorem eH.z{t:TypeId}{d:TD}{τ:Ty}(j:(P.underlying t).map BI=some d.desc)(y:aoV d.desc=d.agg)(D:(P.info? t).map (fun i=>(i.size,i.bytes))=some (d.size,d.bytes))(E:aqj d=true)(H:d.zero=true)(I:d.ty=some τ)
 (J:(P.info? t).map (fun i=>i.zero.map fun z=>(z.cells.toList,ajY z))=some (some (τ.lK,d.agg))) (K:d.eq=[]∨agv P t d.eq=true):eH P t d:=⟨j,y,D,E,K,by rw[H,I];exact J⟩
theorem eH.n{t:TypeId}{d:TD}(j:(P.underlying t).map BI=some d.desc)(y:aoV d.desc=d.agg)(D:(P.info? t).map (fun i=>(i.size,i.bytes))=some (d.size,d.bytes))(E:aqj d=true)(H:d.zero=false)(I:d.eq=[]∨agv P t d.eq=true):eH P t d:=⟨j,y,D,E,I,by rw[H];trivial⟩
theorem t0:Yk P []:=fun _ h=>by cases h
theorem tc{t:TypeId}{d:TD}{l:List (TypeId×TD)}(h:eH P t d)(k:Yk P l):Yk P ((t,d)::l):=fun p a=>by
 rcases List.mem_cons.1 a with rfl |a
 ·exact h
 ·exact k p a
theorem v0:ae1 P []:=fun _ h=>by cases h
theorem vc{t:TypeId}{d:VT}{l:List (TypeId×VT)}(h:VOK P t d)(k:ae1 P l):ae1 P ((t,d)::l):=fun p a=>by
 rcases List.mem_cons.1 a with rfl |a
 ·exact h
 ·exact k p a
theorem abY{α:Type}{R:FuncId→α→Prop}{g:FuncId}{D:α}{l:List (FuncId×α)}(h:R g D)(k:∀f E,cW f l=some E→R f E):∀f E,cW f ((g,D)::l)=some E→R f E:=fun f E a=>by
 simp only[cW]at a
 split at a
 ·rename_i b
  cases a;rw[←aA b];exact h
 ·exact k f E a
theorem c0:∀f E,cW f ([]:List (FuncId×Entry))=some E→aq P f E:=fun _ _ h=>by cases h
theorem cc{g:FuncId}{D:Entry}{l:List (FuncId×Entry)}(h:aq P g D)(k:∀f E,cW f l=some E→aq P f E):∀f E,cW f ((g,D)::l)=some E→aq P f E:=abY h k
theorem o0:∀f E,cW f ([]:List (FuncId×Dh))=some E→as6 P f E:=fun _ _ h=>by cases h
theorem oc{g:FuncId}{D:Dh}{l:List (FuncId×Dh)}(h:as6 P g D)(k:∀f E,cW f l=some E→as6 P f E):∀f E,cW f ((g,D)::l)=some E→as6 P f E:=abY h k
theorem s0:∀f E,cW f ([]:List (FuncId×xt))=some E→pS P f E:=fun _ _ h=>by cases h
theorem sc{g:FuncId}{D:xt}{l:List (FuncId×xt)}(h:pS P g D)(k:∀f E,cW f l=some E→pS P f E):∀f E,cW f ((g,D)::l)=some E→pS P f E:=abY h k
theorem akx{f:FuncId}{fn:Func}{ps rs:List Ty}(c:P.funcs[f]? =some fn)(d:(fn.name== "runtime.NumGoroutine")=false)(b:fn.body.isNone=false)(a:rs.all Ty.cE=true):aq P f ⟨ps,rs,fun _=>none⟩:=⟨⟨fn,c,d,b⟩,a,fun _ _ _ _ _ _ _ _ _ h=>by cases h⟩
end
end Go.Am
