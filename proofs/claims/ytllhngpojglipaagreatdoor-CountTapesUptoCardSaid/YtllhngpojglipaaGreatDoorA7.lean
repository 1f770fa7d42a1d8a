import Derived.Test.YtllhngpojglipaaGreatDoorA6
import Derived.LoopN
set_option linter.unusedVariables false
set_option linter.unusedSimpArgs false
open Array renaming getD_eq_getD_getElem?→bJ,getElem?_eq_getElem→bT,getElem?_toList→cG
open Bool renaming and_eq_true→aj,or_eq_true→aB
open List renaming all_eq_true→ei,append_assoc→bn,append_nil→cK,drop_zero→dC,getElem?_append_left→aQ,getElem?_append_right→bh,getElem?_eq_getElem→ah,getElem?_eq_none→bx,getElem?_take→dh,length_cons→aZ,length_nil→dz,length_take→aC,length→ae,map_append→eI,size_toArray→ek
open Nat renaming add_assoc→fu,blt_eq→fl,le_refl→aA,le_trans→eA,lt_of_lt_of_le→ca,mul_le_mul_right→cv,zero_add→dN
open Option renaming bind_some→aa
open Go.World renaming cell?_of_block→bW
namespace Go.Am
open Go
section
variable {P:Program} {w0:W0} {w w':World} {Z0 Zp:cD} {h h':bg} {g:G} {new next base:Nat} {r:A} {L L':Log} {X:Cx}
theorem ap7{p:Nat}:∀(l:List (Nat×GK)) (x y:gU l) (K:GK) (H:List (Option K.xZ)) (K':GK) (H':List (Option K'.xZ)),iE true l x p=some (.gh true K H)→iE true l y p=some (.gh true K' H')→K=K'
 |[],_,_,_,_,_,_,h,_=>by cases h
 |(c,K0)::r,x,y,K,H,K',H',h1,h2=>by
  have h3:(if c=p then some (Ob.gh true K0 x.1)else iE true r x.2 p)=some (.gh true K H):=h1;have h4:(if c=p then some (Ob.gh true K0 y.1)else iE true r y.2 p)=some (.gh true K' H'):=h2;clear h1 h2
  by_cases hc:c=p
  ·rw[if_pos hc]at h3 h4
   cases h3;cases h4;rfl
  ·rw[if_neg hc]at h3 h4;exact ap7 r x.2 y.2 K H K' H' h3 h4
def VAq(w:World)(h:bg)(g:G)(V:VT)(x:V.den)(v:Value):Prop:=
 ∀(base:Nat) (NE:cD) (h':bg) (g':G),(∀b i,g.Z b i→g'.Z b i)→(∀c id e,g.pm c id=some e→g'.pm c id=some e)→(∀b i,Zd h g w b i→NE b i)→AR w base NE h' g' (E5 V x) v
def Vi(w:World)(h:bg)(g:G):(ps:List VT)→(Ck ps).den→List Value→Prop
 |[],_,vs=>vs=[]
 |[V],x,vs=>∃v,vs=[v]∧VAq w h g V x v
 |V::U::r,x,vs=>∃v rest,vs=v::rest∧VAq w h g V x.1 v∧Vi w h g (U::r) x.2 rest
theorem Vi.out{NE:cD}{g':G}{hc:bg}(h1:∀b i,g.Z b i→g'.Z b i)(h2:∀c id e,g.pm c id=some e→g'.pm c id=some e)(h3:∀b i,Zd h g w b i→NE b i):∀(ps:List VT) (x:(Ck ps).den) (vs:List Value),Vi w h g ps x vs→PM w base NE hc g' ps x vs
 |[],_,_,hh=>hh
 |[_],_,_,⟨v,e,hv⟩=>⟨v,e,hv _ _ _ _ h1 h2 h3⟩
 |_::U::r,x,_,⟨v,rest,e,hv,hr⟩=>⟨v,rest,e,hv _ _ _ _ h1 h2 h3,Vi.out h1 h2 h3 (U::r) x.2 rest hr⟩
theorem ahJ(R:HR w0 Z0 Zp h g w){V:VT}{a:A}{v:Value}(ha:AR w w0.heap.size Zp h g a v){k:V.den→HM}{res:A×bg×Log}(e:(apQ true V a k).eval next h L=some res):
  ∃x h1 g1 L1,(k x).eval next h1 L1=some res∧HR w0 Z0 Zp h1 g1 w∧Le Zp h g w h1 g1 w∧Fz h g h1 g1∧VAq w h1 g1 V x v:=by
 by_cases hd:∃τ,V= .data τ
 ·obtain⟨τ,rfl⟩:=hd;have e:(aqK true τ a k).eval next h L=some res:=e
  obtain⟨x,h1,g1,L1,e,R1,sC,f1,hx⟩:=acC true R ha e;refine⟨x,h1,g1,L1,e,R1,sC,f1,fun base NE h' g' hz hp hw=> ?_⟩;have hx:yv w g1.Z (Zd h1 g1 w) τ x v:=hx;exact yv.toVR (yv.mono (fun b i hb=>⟨hz b i hb,rfl⟩) (fun b i hb=>⟨hw b i hb,rfl⟩) hx)
 unfold apQ at e
 split at e
 ·exact absurd ⟨_,rfl⟩ hd
 ·rename_i gg cs _
  split at e
  ·rename_i hc;rw[aj]at hc;obtain⟨vs,hcs,h1,h2⟩:=VR.list ha;obtain⟨cs',h3,g3,L3,e,R3,Le3,hg3,aoq⟩:=fq _ _ h g _ _ _ R hcs e
   split at e
   ·rename_i x hx;have mh:=VT.sB hc.2 aoq hx;refine⟨x,h3,g3,L3,e,R3,Le3,hg3,fun base NE h' g' hz hp hw=> ?_⟩;have wi:=VT.xp (w':=w) (base':=base) (NE:=NE) (h':=h') (g':=g') (fun b i hb=>⟨hz b i hb,rfl⟩) hp V x vs hc.2 mh;have hgg:=toBeq hc.1;show VR w base NE h' g' V.isAgg (V.cells x) v;rw[←hgg]
    cases gg with
    |true=>exact⟨vs,h1 rfl,wi⟩
    |false=>rw[h2 rfl]at wi;exact wi
   ·exact(ai e).elim
  ·exact(ai e).elim
 ·exact(ai e).elim
theorem VAq.mono{h1:bg}{g1:G}(L:Le Zp h g w h1 g1 w)(f:Fz h g h1 g1){V:VT}{x:V.den}{v:Value}(hv:VAq w h g V x v):VAq w h1 g1 V x v:=fun base NE h' g' hz hp hw=>
 hv base NE h' g' (fun b i hb=>hz b i (L.z b i hb).1) (fun c id e he=>hp c id e (L.pm c id e he)) (fun b i hb=>hw b i (asJ f b i hb).1)
theorem acF:∀(ps:List VT) (as:List A) (vs:List Value) (h:bg) (g:G) (L:Log) (k:(Ck ps).den→HM) (res:A×bg×Log),HR w0 Z0 Zp h g w→
  dY (fun b es=>∃u,es=[u]∧AR w w0.heap.size Zp h g b u) as vs→(an4 true ps as k).eval next h L=some res→
  ∃x h1 g1 L1,(k x).eval next h1 L1=some res∧HR w0 Z0 Zp h1 g1 w∧Le Zp h g w h1 g1 w∧Fz h g h1 g1∧Vi w h1 g1 ps x vs
 |[],as,vs,h,g,L,k,res,R,hv,e=>by
  cases as with
  |nil=>exact⟨(),h,g,L,e,R,Le.refl _ _ _ _,Fz.refl _ _,hv⟩
  |cons _ _=>exact(ai e).elim
 |[V],as,vs,h,g,L,k,res,R,hv,e=>by
  cases as with
  |nil=>exact(ai e).elim
  |cons a as=>
   cases as with
   |cons _ _=>exact(ai e).elim
   |nil=>
    obtain⟨es,rest,e1,⟨u,e2,hu⟩,e3⟩:=hv;simp only[dY]at e3;subst e3;subst e2;obtain⟨x,h1,g1,L1,e4,R1,sC,u5,hx⟩:=ahJ R hu e;exact⟨x,h1,g1,L1,e4,R1,sC,u5,u,by simpa using e1,hx⟩
 |V::U::ps,as,vs,h,g,L,k,res,R,hv,e=>by
  cases as with
  |nil=>exact(ai e).elim
  |cons a as=>
   obtain⟨es,rest,e1,⟨u,e2,hu⟩,e3⟩:=hv;subst e2;obtain⟨x,h1,g1,L1,e4,R1,sC,u5,hx⟩:=ahJ R hu e;obtain⟨y,h2,g2,L2,e5,R2,Le2,Ng,hy⟩:=acF (U::ps) as rest h1 g1 L1 _ res R1 (dY.mono (fun b es ⟨u,e,hu⟩=>⟨u,e,AR.mono sC _ _ hu⟩) _ _ e3) e4;exact⟨(x,y),h2,g2,L2,e5,R2,sC.trans Le2,u5.trans Ng,u,rest,by simpa using e1,VAq.mono Le2 Ng hx,hy⟩
theorem J8{w1:World}{base':Nat}{NE:cD}{h1:bg}{g1:G}(hk:dK w w1 g.Z g1.Z)(hp:∀c id e,g.pm c id=some e→g1.pm c id=some e):∀(rs:List VT) (x:(Ck rs).den) (vs:List Value),rs.all VT.ok=true→
  dY (fun(p:Bool×List C) es=>∃u,es=[u]∧VR w base Zp h g p.1 p.2 u) (ab2 rs x) vs→dY (fun(p:Bool×List C) es=>∃u,es=[u]∧VR w1 base' NE h1 g1 p.1 p.2 u) (ab2 rs x) vs
 |[],_,_,_,hh=>hh
 |[V],x,_,ho,⟨es,rest,e,⟨u,e2,hu⟩,hr⟩=>⟨es,rest,e,⟨u,e2,VT.abK hk hp (by simpa using ho) hu⟩,hr⟩
 |V::U::r,x,_,ho,⟨es,rest,e,⟨u,e2,hu⟩,hr⟩=>by
  simp only[List.all_cons,aj]at ho;exact⟨es,rest,e,⟨u,e2,VT.abK hk hp ho.1 hu⟩,J8 hk hp (U::r) x.2 rest (by simpa using ho.2) hr⟩
theorem Rc{w1:World}{base':Nat}{NE:cD}{h1:bg}{g1:G}(hk:dK w w1 g.Z g1.Z)(hp:∀c id e,g.pm c id=some e→g1.pm c id=some e)(rs:List VT)(x:(Ck rs).den)(v:Value)(ho:rs.all VT.ok=true)(hh:AR w base Zp h g (MJ rs x) v):AR w1 base' NE h1 g1 (MJ rs x) v:=by
 match rs,x,ho,hh with
 |[V],x,ho,hh=>exact VT.abK hk hp (by simpa using ho) hh
 |[],x,ho,⟨vs,e,hv⟩=>exact⟨vs,e,J8 hk hp _ _ _ ho hv⟩
 |V::U::r,x,ho,⟨vs,e,hv⟩=>exact⟨vs,e,J8 hk hp _ _ _ ho hv⟩
theorem HR.ax2(R:HR w0 Z0 Zp h g w){c k cap sz nb:Nat}{K:GK}{H:List (Option K.xZ)}{x:K.xZ}(ho:look .dead c h= .gh true K H)(hold:∀b:Nat,b<w.heap.size→w'.heap[b]? =w.heap[b]?)(hnb:w.heap.size≤nb)(aC2:nb<w'.heap.size)(he:w0.Extends w')(hsz:∀V,K= .bf V→sz=V.size){g':G}(hg:g'={ g with pm:=U7 g.pm c H.length (nb,k,cap,sz) })
  (hx:Le Zp h g w ((c,.gh true K (Go.Am.eR H x))::h) g' w'→vp w' w0.heap.size Zp ((c,.gh true K (Go.Am.eR H x))::h) g' c H.length K x):
  HR w0 Z0 Zp ((c,.gh true K (Go.Am.eR H x))::h) g' w'∧Le Zp h g w ((c,.gh true K (Go.Am.eR H x))::h) g' w':=by
 subst hg;have hfr:=R.gh.fresh c true K H H.length ho (aA _);have hne:∀c' id' e,g.pm c' id'=some e→¬ (c'=c∧id'=H.length):=fun c' id' e h1 ⟨h2,h3⟩=>by subst h2;subst h3;rw[hfr]at h1;cases h1
 refine R.ali ho g.Z (U7 g.pm c H.length (nb,k,cap,sz)) (fun _ _ h=>h) (fun _ _ h=> .inl h) (fun c' id' e h=>by rw[vq _ _ (hne _ _ _ h)];exact h) (fun c' id' e h=> ?_) (by simp[Go.Am.eR]) (by simp[Go.Am.eR]) (fun i z hi hz=> ?_) (fun i b' j h1 h2 _=>R.gh.lq _ _ _ _ h1 h2) (fun i b' e' x' h1 h2 h3 h4=> ?_) (fun b' hb' _=>hold b' hb')
  (fun b' i hz=>bW (hold b' (R.Nb _ _ hz))) (by omega) he fun L i z hz=> ?_
 ·by_cases h1:c'=c∧id'=H.length
  ·obtain⟨rfl,rfl⟩:=h1;rw[sy]at h
   cases h;exact .inr ⟨rfl,rfl,by simp[Go.Am.eR],.inl ⟨hnb,aC2⟩,hsz⟩
  ·rw[vq _ _ h1]at h;exact .inl h
 ·simp only[Go.Am.eR]at hz;rw[aQ hi]at hz;exact⟨z,hz⟩
 ·rw[sy]at h2
  cases h2;have:=R.gh.lt _ _ _ h1;simp only at h3;omega
 ·simp only[Go.Am.eR]at hz;rcases Nat.lt_or_ge i H.length with hi |hi
  ·rw[aQ hi]at hz;exact vp.mono L (fun e' he'=>hold _ (R.gh.lt c i _ ⟨true,K,H,z,e',ho,hz,he',rfl⟩)) _ _ (R.gh.xZ c true K H i z ho hz)
  ·rw[bh hi]at hz;have:i=H.length:=by
    rcases Nat.lt_or_ge (i -H.length) 1 with h |h
    ·omega
    ·rw[bx (by simpa using h)]at hz;cases hz
   subst this;simp at hz;subst hz;exact hx L
theorem aq3{Z:cD}{e:Ty}(hf:e.flat=true)(hpos:0<e.size){l:List e.den}{v:Value}{ob:Option Nat}(hp:PR w' Z jT (.sl e) l [v])(ho:asI w w' e.size (ae l) ob v)(hne:ae l≠0):
  ∃b cap cur e0,v= .slice (some ⟨b,0,none⟩) (ae l) cap∧w'.heap[b]? =some (.cells cur e0 (0,0))∧ae l≤cap∧cap≤maxLen∧cur.size=cap*e.size∧w.heap.size≤b∧
   ∀(base:Nat) (NE:cD) (h':bg) (g':G),dY (fun y es=>dT w' base NE h' g' (e.cells y) es) l (cur.toList.take (ae l*e.size)):=by
 obtain⟨base,cap,us,e1,e2,e3,e4⟩:=hp;rcases ho with⟨_,_,h2⟩|⟨b',cap',cur,e0,_,h2,h3,h4,h5,h6,h7⟩
 ·exact(hne h2).elim
 ·rw[h2]at e1;simp only[List.cons.injEq,Value.slice.injEq,and_true]at e1;obtain⟨e1a,_,rfl⟩:=e1;have hul:=dY.length (PR.k e) l us e3;have aC3:us≠[]:=by
   intro h0;rw[h0]at hul;have:0<ae l*e.size:=Nat.mul_pos (by omega) hpos;simp at hul;omega
  obtain⟨b,off,hb,hc⟩:=e4 aC3;rw[←e1a]at hb;simp only[Option.some.injEq,Addr.mk.injEq,and_true]at hb;obtain⟨rfl,rfl⟩:=hb;have hle:ae l*e.size≤cur.size:=by rw[h6];exact cv _ h4
  have hus:cur.toList.take (ae l*e.size)=us:=by
   apply List.ext_getElem?;intro j;rcases Nat.lt_or_ge j us.length with hj |hj
   ·obtain⟨u,hu⟩:∃u,us[j]? =some u:=⟨us[j],ah hj⟩
    have:=(hc j u hu).1;rw[dh,if_pos (by omega),hu,cG];simpa[World.cell?,h3]using this
   ·rw[bx hj,bx (by rw[aC];omega)]
  refine⟨_,_,cur,e0,h2,h3,h4,h5,h6,h7,fun base NE h' g'=> ?_⟩;rw[hus];exact dY.mono (fun y es hy=>dT.uZ e y es (PR.flat _ _ _ hf hy)) _ _ e3
theorem aq4(hS:∀f E,cZ f X.calls=some E→aq P f E)(hO:∀f E,cZ f X.owns=some E→x7 P f E)(hT:∀f E,cZ f X.stats=some E→qv P f E)(R:HR w0 Z0 Zp h g w)(hn:¬ g.al new){f:FuncId}{as:List A}{vs:List Value}
  (hargs:dY (fun b es=>∃u,es=[u]∧AR w w0.heap.size Zp h g b u) as vs) (e:(alf X new f as).eval next h L=some (r,h',L')):
  (∃fn,P.funcs[f]? =some fn∧(fn.name=="runtime.NumGoroutine")=false∧fn.body.isNone=false)∧Calls P f vs.toArray w fun e w'=>∃v g',e= .returned v∧HR w0 Z0 Zp h' g' w'∧Le Zp h g w h' g' w'∧AR w' w0.heap.size Zp h' g' r v∧∀o,g'.al o→g.al o∨o=new:=by
 unfold alf at e
 split at e
 ·rename_i E hE;have S:=hO f E hE;refine⟨S.fn,?_⟩
  split at e
  ·obtain⟨x,h1,g1,L1,e,R1,sC,u5,hx⟩:=MO _ _ _ _ h g L _ _ R hargs e;obtain⟨res,hres,e⟩:=bI e;have e:=dZ e
   cases gW e;have hz1:∀b i,(if(!E.e.flat)=true then g1.Z else All w) b i→b<w.heap.size:=by
    intro b i hz
    split at hz
    ·exact R1.Nb b i hz
    ·exact hz
   have Ah:=S.calls w _ (All w) x res _ hz1 (fun b i hz=>hz) hx hres;refine Ah.mono fun e w' ⟨v,ob,he1,r9,hr,hown⟩=> ?_;obtain⟨R2,Le2,hT2⟩:=R1.au7 r9 (by rw[u5.al];exact hn) hown;refine⟨v,_,he1,R2,sC.trans Le2,?_,fun o ho=> ?_⟩
   ·have Zb:(Ty.sl E.e).cI=true:=by simpa[Ty.cI]using S.nr
    refine AR.rg ⟨PR.cI (Zp:=jT) (.sl E.e) _ _ Zb ?_,.inr rfl,fun _=>hT2⟩
    cases hf:E.e.flat with
    |true=>exact asN hf hr hown (fun b i h1 h2 h3=> .inr ⟨h1,h2,fun _=>h3⟩)
    |false=>
     simp only[hf,Bool.not_false,if_true]at hr;exact hr
   ·rcases ho with ho |ho
    ·exact .inl (u5.al▸ho)
    ·exact .inr ho
  ·rename_i c hc
   split at e
   ·rename_i hcf;rw[aj]at hcf;have hpos:0<E.e.size:=by simpa[fl]using hcf.2
    obtain⟨x,h1,g1,L1,e2,R1,sC,u5,hx⟩:=MO _ _ _ _ h g L _ _ R hargs e;obtain⟨res,hres,e3⟩:=bI e2;have e4:=cE e3
    split at e4
    ·rename_i K H hoc
     split at e4
     ·rename_i H' hH;obtain⟨hK,hHH⟩:=kd hH;subst hK
      cases hHH;obtain⟨q,hq,e5⟩:=bI e4;have e6:=dZ e5
      cases gW e6;have Ah:=S.calls w _ (All w) x res _ (fun b i hz=>hz) (fun b i hz=>hz) hx hres;refine Ah.mono fun e w' ⟨v,ob,he1,r9,hr,hown⟩=> ?_;have hne:ae res≠0:=by
       intro h0;have:res=[]:=List.length_eq_zero_iff.1 h0;subst this;simp[gad]at hq
      have hqe:q=(eR (α:=List E.e.den) H res,some (ae H,0,ae res)):=by
       match res,hq with
       |y::m,hq=>simp only[gad,Option.some.injEq]at hq;exact hq.symm
      subst hqe;obtain⟨b,cap,cur,e0,hv,hb,h4,h5,h6,h7,h8⟩:=aq3 hcf.1 hpos hr hown hne;have aC5:=(Array.getElem?_eq_some_iff.1 hb).1;obtain⟨g',hg'⟩:∃g':G,g'={ g1 with pm:=U7 g1.pm c (ae H) (b,0,cap,E.e.size) }:=⟨_,rfl⟩;have Nh:g'.pm c (ae H)=some (b,0,cap,E.e.size):=by rw[hg'];exact sy _ _ _ _
      obtain⟨R2,Le2⟩:=R1.ax2 (K:=.bf (.data E.e)) (x:=res) (w':=w') hoc (fun b hb=>r9.block b hb) h7 aC5 (R1.ext.trans r9) (fun V hV=>by cases hV;rfl) hg'
       (fun L=>⟨hpos,b,0,cap,cur,e0,Nh,hb,by rw[h6];simp[VT.size],h4,h5,by rw[dC];exact h8 _ _ _ _⟩)
      exact⟨v,g',he1,R2,sC.trans Le2,AR.rg ⟨b,0,cap,E.e.size,0,Nh,by omega,fun _=>by simp,by rw[hv];simp⟩,fun o ho=> .inl (by rw[hg']at ho;exact u5.al▸ho)⟩
     ·exact(ai e4).elim
    ·exact(ai e4).elim
   ·exact(ai e).elim
 ·split at e
  ·rename_i E hE;have S:=hS f E hE;refine⟨S.fn,?_⟩;obtain⟨x,h1,g1,L1,e,R1,sC,u5,hx⟩:=MO _ _ _ _ h g L _ _ R hargs e;obtain⟨res,hres,e⟩:=bI e
   cases gW e;have hz1:∀b i,(if(!E.rs.all Ty.flat)=true then g1.Z else All w) b i→b<w.heap.size:=by
    intro b i hz
    split at hz
    ·exact R1.Nb b i hz
    ·exact hz
   have Ah:=S.calls w _ (All w) x res _ hz1 (fun b i hz=>hz) hx hres;refine Ah.mono fun e w' ⟨v,he1,r9,hr⟩=> ?_;obtain⟨R2,Le2⟩:=R1.called r9;refine⟨v,_,he1,R2,sC.trans Le2,?_,fun o ho=> .inl (u5.al▸ho)⟩;refine aq2 _ _ _ ?_
   cases hfl:E.rs.all Ty.flat with
   |true=>exact PK.map (p:=Ty.flat) (fun τ x v hp hh=>yv.flat hp hh) _ _ _ hfl hr
   |false=>
    simp only[hfl,Bool.not_false,if_true]at hr;exact PK.map (p:=Ty.cI) (fun τ x v hp hh=>yv.cI hp hh) _ _ _ S.nr hr
  ·split at e
   ·rename_i E hE;have S:=hT f E hE;refine⟨S.fn,?_⟩;unfold awQ at e
    split at e
    ·rename_i hok;rw[eI]at hok;obtain⟨x,h1,g1,L1,e,R1,sC,u5,hx⟩:=acF _ _ _ h g L _ _ R hargs e;obtain⟨y,L2,e,hy⟩:=Vh E.ws _ _ e;obtain⟨yo,L3,e,hyo⟩:=Vh E.os _ _ e;obtain⟨res,hres,e⟩:=bI e;obtain⟨L4,e⟩:=XD E.ws res.2 _ _ e
     cases gW e;have hy':∀p K H,iE true E.ws y p=some (.gh true K H)→look .dead p h1= .gh true K H:=fun p K H hp=>by
      obtain⟨wr',h2,h3⟩:=hy p K H hp;rw[h3 rfl]at h2;exact h2
     have R2:=R1.axZ (ws:=E.ws) (os:=E.os) (y:=y) (yo:=yo) hy' (fun p K H hp=>by obtain⟨wr',h2,_⟩:=hyo p K H hp;exact⟨wr',h2⟩);have Ah:=S.calls (asO w h1 g1 E.ws E.os yo) g1.Z (Zd h1 g1 w) (alG g1 E.ws E.os) x y yo res.1 res.2 vs R2 (fun p hp=>hp) (Vi.out (w:=w) (h:=h1) (g:=g1) (g':=alG g1 E.ws E.os) (fun _ _ h=>h) (fun _ _ _ h=>h) (fun _ _ h=>h) E.ps x vs hx) hres;refine Ah.mono fun e w' ⟨v,g2,he1,R3,hr⟩=> ?_;obtain⟨R4,Le4⟩:=R1.au8 (acE _ _ hok) hy' R3 (fun p K H K' H'=>ap7 E.ws y res.2 K H K' H') rfl;exact⟨v,_,he1,R4,sC.trans Le4,Rc (g:=g2) (g1:={ g1 with Z:=g2.Z,pm:=g2.pm }) (fun _ _ h=>⟨h,rfl⟩) (fun _ _ _ h=>h) E.rs res.1 v S.ok hr,fun o ho=> .inl (u5.al▸ho)⟩
    ·exact(ai e).elim
   ·exact(ai e).elim
theorem ahK:∀(t:Ty) (x:t.den) (vs:List Value),an3 t=true→PR w g.Z Zp t x vs→dY (fun b es=>∃u,es=[u]∧AR w base Zp h g b u) (ar8 t x) vs
 |.unit,_,_,_,hp=>hp
 |.pair (.ref σ) r,x,_,hc,⟨us,rs,e,⟨b,off,vs2,h1,h2,h3⟩,h4⟩=>⟨us,rs,e,⟨_,h1,AR.rg ⟨b,off,vs2,by simp,h2,fun j u hj=>⟨(h3 j u hj).1,.inr (h3 j u hj).2⟩⟩⟩,ahK r x.2 rs hc h4⟩
theorem asP(hS:∀f E,cZ f X.calls=some E→aq P f E)(hO:∀f E,cZ f X.owns=some E→x7 P f E)(hT:∀f E,cZ f X.stats=some E→qv P f E)(R:HR w0 Z0 Zp h g w)(hn:¬ g.al new){env:Env}{a:Act}(he:∀t,AR w w0.heap.size Zp h g (look aJ t env) (a.tmps.getD t undef)){o:Oper}{c:Call}{fo:Operand}(ho:o.op= .call c)(hc:c.callee= .value fo)
  (e:(aop X new (D8 env) o.op).eval next h L=some (r,h',L')):
  ∃f args,(execOp a.eval o).run P w= .ok (.enter f args) w∧Calls P f args w fun e w'=>∃v g',e= .returned v∧HR w0 Z0 Zp h' g' w'∧Le Zp h g w h' g' w'∧AR w' w0.heap.size Zp h' g' r v∧∀o,g'.al o→g.al o∨o=new:=by
 rw[ho]at e;simp only[aop,hc]at e;have hf:=ea he fo;have key:∀(f:FuncId) (caps:Array Value) (as2:List A),a.eval fo= .func (.func f) #[] caps→dY (fun b es=>∃u,es=[u]∧AR w w0.heap.size Zp h g b u) as2 caps.toList→(alf X new f (c.args.toList.map (D8 env)++as2)).eval next h L=some (r,h',L')→
   ∃f args,(execOp a.eval o).run P w= .ok (.enter f args) w∧Calls P f args w fun e w'=>∃v g',e= .returned v∧HR w0 Z0 Zp h' g' w'∧Le Zp h g w h' g' w'∧AR w' w0.heap.size Zp h' g' r v∧∀o,g'.al o→g.al o∨o=new:=by
  intro f caps as2 hfv alH e;have hargs:dY (fun b es=>∃u,es=[u]∧AR w w0.heap.size Zp h g b u) (c.args.toList.map (D8 env)++as2) (c.args.toList.map a.eval++caps.toList):=dY.app _ _ _ _ (abI he _) alH;have hae:(c.args.toList.map a.eval++caps.toList).toArray=c.args.map a.eval++caps:=by
   apply Array.ext';simp
  obtain⟨⟨fn,hfn,hname,hbody⟩,Ah⟩:=aq4 hS hO hT R hn hargs e;rw[hae]at Ah;refine⟨f,(c.args.map a.eval++caps),?_,Ah⟩;simp only[execOp,ho,resolve,hc,hfv,Deferred.ofValue,Sem.run_bind,Sem.run_pure,Result.andThen_ok,invoke];simpa using ajj hfn hname hbody (c.args.map a.eval++caps)
 split at e
 ·rename_i f ids hfr;rw[hfr]at hf;obtain⟨caps,hfv,alH⟩:=hf.c;exact key f caps _ hfv (asM alH) e
 ·rename_i f t x hfr;rw[hfr]at hf;obtain⟨caps,hfv,alH⟩:=hf.c;simp only[List.cons.injEq,and_true]at hfv
  split at e
  ·rename_i hcp;exact key f caps _ hfv (ahK t x _ hcp alH) e
  ·exact(ai e).elim
 ·exact(ai e).elim
end
def opE(X:Cx)(new:Nat)(o:Oper)(s:St):Option (St×Log):=
 match(aop X new (D8 s.env) o.op).eval s.next s.heap []with
 |some (a,h,L)=>some ({ s with env:=PE s.env o.dst a,heap:=h },L)
 |none=>none
def Cy(X:Cx)(ops:List Oper)(new:Nat)(o:Oper)(s:St):Option (St×Log):=
 match ahv X o.dst with
 |false=>none
 |true=>match o.guard with
  |none=>opE X new o s
  |some (j,want)=>match ab8 ops j with
   |some g=>match look aJ g s.env with
    |.v false [.bool b]=>match b==want with
     |true=>opE X new o { s with env:=(g,.v false [.bool b])::s.env }
     |false=>some ({ s with env:=PE ((g,.v false [.bool b])::s.env) o.dst Cs },[])
    |.lO []=>some ({ s with env:=PE s.env o.dst Cs },[])
    |_=>none
   |none=>none
def afX(X:Cx)(ops:List Oper):Nat→List Oper→St→List Log→Option (St×List Log)
 |_,[],s,Ls=>some (s,Ls)
 |new,o::r,s,Ls=>match Cy X ops new o s with
  |some (s,L)=>afX X ops (new+1) r s (L::Ls)
  |none=>none
theorem asQ{R:Type}(X:Cx)(new:Nat)(o:Oper)(s:St)(K:St→Log→Option R):opK X new o s K=(opE X new o s).bind fun r=>K r.1 r.2:=by
 unfold opK opE;rw[HM.run_eq]
 cases(aop X new (D8 s.env) o.op).eval s.next s.heap []<;>rfl
theorem zb{R:Type}(X:Cx)(ops:List Oper)(K:St→List Log→Option R):∀(l:List Oper) (new:Nat) (s:St) (Ls:List Log),afQ X ops K new l s Ls=(afX X ops new l s Ls).bind fun r=>K r.1 r.2
 |[],_,_,_=>rfl
 |o::r,new,s,Ls=>by
  unfold afQ afX Cy
  cases ahv X o.dst with
  |false=>rfl
  |true=>
   simp only
   cases hg:o.guard with
   |none=>
    simp only;rw[asQ]
    cases opE X new o s with
    |none=>rfl
    |some q=>exact zb X ops K r _ _ _
   |some jw=>
    obtain⟨j,want⟩:=jw;simp only
    cases hd:ab8 ops j with
    |none=>rfl
    |some g=>
     simp only;generalize look aJ g s.env=q
     split
     ·rename_i b;have e1:(true==true)=true:=rfl;have e2:(false==false)=true:=rfl;have e3:(true==false)=false:=rfl;have e4:(false==true)=false:=rfl
      cases want<;>cases b<;>simp only[av,asQ,e1,e2,e3,e4]
      ·cases opE X new o { s with env:=(g,.v false [.bool false])::s.env }with
       |none=>rfl
       |some q=>exact zb X ops K r _ _ _
      ·exact zb X ops K r _ _ _
      ·exact zb X ops K r _ _ _
      ·cases opE X new o { s with env:=(g,.v false [.bool true])::s.env }with
       |none=>rfl
       |some q=>exact zb X ops K r _ _ _
     ·exact zb X ops K r _ _ _
     ·rename_i h1 h2
      split
      ·rename_i heq
       split at heq
       ·rename_i b;exact absurd rfl (h1 b)
       ·exact absurd rfl h2
       ·cases heq
      ·rfl
theorem vC(next:Nat):∀(m:HM) (h:bg) (L:Log) (a:A) (h':bg) (L':Log),m.eval next h L=some (a,h',L')→
  ∃M,L'=M++L∧(∀o,(o,true)∉M→look .dead o h'=look .dead o h)∧
   ∀(h2:bg) (L2:Log),(∀p∈M,look .dead p.1 h2=look .dead p.1 h)→∃h2',m.eval next h2 L2=some (a,h2',M++L2)∧
    (∀o,(o,true)∈M→look .dead o h2'=look .dead o h')∧∀o,(o,true)∉M→look .dead o h2'=look .dead o h2
 |.ret a,h,L,_,_,_,e=>by
  simp[HM.eval]at e;obtain⟨rfl,rfl,rfl⟩:=e;exact⟨[],rfl,fun _ _=>rfl,fun h2 L2 _=>⟨h2,rfl,(fun o ho=>by cases ho),fun _ _=>rfl⟩⟩
 |.fail,_,_,_,_,_,e=>by simp[HM.eval]at e
 |.get o k,h,L,a,h',L',e=>by
  obtain⟨M,h1,h2,h3⟩:=vC next _ _ _ a h' L' (cE e)
  refine⟨M++[(o,false)],by simp[h1],fun p hp=>h2 p (fun hm=>hp (by simp[hm])),fun g2 L2 hg=> ?_⟩;have ho:look .dead o g2=look .dead o h:=hg (o,false) (by simp);obtain⟨g2',h4,h5,h6⟩:=h3 g2 ((o,false)::L2) (fun p hp=>hg p (by simp[hp]));refine⟨g2',?_,fun p hp=>h5 p (by simpa using hp),fun p hp=>h6 p (by simpa using hp)⟩;simp only[HM.eval,ho,h4,bn,List.singleton_append]
 |.set o x k,h,L,a,h',L',e=>by
  have hlt:Nat.blt o next=true:=by
   simp only[HM.eval]at e
   split at e
   ·assumption
   ·cases e
  obtain⟨M,h1,h2,h3⟩:=vC next _ _ _ a h' L' (dZ e)
  refine⟨M++[(o,true)],by simp[h1],fun p hp=> ?_,fun g2 L2 hg=> ?_⟩
  ·have hne:o≠p:=fun hh=>hp (by simp[hh]);rw[h2 p (fun hm=>hp (by simp[hm])),aU,if_neg hne]
  ·obtain⟨g2',h4,h5,h6⟩:=h3 ((o,x)::g2) ((o,true)::L2) (fun p hp=>by
    rw[aU,aU]
    split
    ·rfl
    ·exact hg p (by simp[hp]))
   refine⟨g2',?_,fun p hp=> ?_,fun p hp=> ?_⟩
   ·simp only[HM.eval,hlt,h4,bn,List.singleton_append]
   ·by_cases hm:(p,true)∈M
    ·exact h5 p hm
    ·have hpo:p=o:=by simpa[hm]using hp
     subst hpo;rw[h6 p hm,h2 p hm,aU,aU,if_pos rfl,if_pos rfl]
   ·have hne:o≠p:=fun hh=>hp (by simp[hh]);rw[h6 p (fun hm=>hp (by simp[hm])),aU,if_neg hne]
 |.opt x k,h,L,a,h',L',e=>by
  obtain⟨b,hx,e⟩:=bI e;obtain⟨M,h1,h2,h3⟩:=vC next _ _ _ a h' L' e
  refine⟨M,h1,h2,fun g2 L2 hg=> ?_⟩;obtain⟨g2',h4,h5⟩:=h3 g2 L2 hg;exact⟨g2',by simp only[HM.eval,hx,aa,h4],h5⟩
 |.br b x y,h,L,a,h',L',e=>by
  cases b with
  |true=>
   obtain⟨M,h1,h2,h3⟩:=vC next x h L a h' L' e
   exact⟨M,h1,h2,h3⟩
  |false=>
   obtain⟨M,h1,h2,h3⟩:=vC next y h L a h' L' e
   exact⟨M,h1,h2,h3⟩
def asR:Operand→Option Tmp
 |.tmp t=>some t
 |_=>none
theorem aq6{e1 e2:Env}{x:Operand}(h:∀t,asR x=some t→look aJ t e1=look aJ t e2):D8 e1 x=D8 e2 x:=by
 cases x with
 |tmp t=>exact h t rfl
 |_=>rfl
theorem aq7(X:Cx)(new:Nat){e1 e2:Env}(o:Op)(h:∀x∈o.operands,D8 e1 x=D8 e2 x):aop X new (D8 e1) o=aop X new (D8 e2) o:=by
 cases o<;>simp only[Op.operands]at h<;>simp only[aop]
 case move x=>rw[h x (by simp)]
 case assign x=>rw[h x (by simp)]
 case pick c x y=>rw[h c (by simp),h x (by simp),h y (by simp)]
 case box t x=>rw[h x (by simp)]
 case build t parts=>
  have:(parts.toList.map fun(i,x)=>(i,D8 e1 x))=(parts.toList.map fun(i,x)=>(i,D8 e2 x)):=by
   apply List.map_congr_left;rintro⟨i,x⟩ hx;simp only[Prod.mk.injEq,true_and];exact h x (by simp;exact⟨i,by simpa using hx⟩)
  rw[this]
 case buildSlice t n parts=>
  have:(parts.toList.map fun(i,x)=>(i,D8 e1 x))=(parts.toList.map fun(i,x)=>(i,D8 e2 x)):=by
   apply List.map_congr_left;rintro⟨i,x⟩ hx;simp only[Prod.mk.injEq,true_and];exact h x (by simp;exact⟨i,by simpa using hx⟩)
  rw[this]
 case load t x=>rw[h x (by simp)]
 case store t x y=>rw[h x (by simp),h y (by simp)]
 case nilCheck x=>rw[h x (by simp)]
 case binOp op t x y ty=>rw[h x (by simp),h y (by simp)]
 case unOp op t x=>rw[h x (by simp)]
 case convert s d x=>rw[h x (by simp)]
 case makeFunc fn first cap=>
  cases fn<;>simp only;have:cap.toList.map (D8 e1)=cap.toList.map (D8 e2):=List.map_congr_left fun x hx=>h x (by simp;exact .inr (by simpa using hx));rw[this]
 case makeSlice t l c=>rw[h l (by simp),h c (by simp)]
 case slice t x lo hi mx=>
  have h1:lo.map (D8 e1)=lo.map (D8 e2):=by cases lo with |none=>rfl |some y=>simp[h y (by simp)]
  have h2:hi.map (D8 e1)=hi.map (D8 e2):=by cases hi with |none=>rfl |some y=>simp[h y (by simp)]
  have h3:mx.map (D8 e1)=mx.map (D8 e2):=by cases mx with |none=>rfl |some y=>simp[h y (by simp)]
  rw[h x (by simp),h1,h2,h3]
 case fieldAddr s x j=>rw[h x (by simp)]
 case field s x j=>rw[h x (by simp)]
 case indexAddr t x i=>rw[h x (by simp),h i (by simp)]
 case index t x i=>rw[h x (by simp),h i (by simp)]
 case makeMap t rs=>cases rs<;>rfl
 case lookup t x i ok=>rw[h x (by simp),h i (by simp)]
 case mapUpdate t m k x=>rw[h m (by simp),h k (by simp),h x (by simp)]
 case extract x j=>rw[h x (by simp)]
 case call c=>
  have:c.args.toList.map (D8 e1)=c.args.toList.map (D8 e2):=List.map_congr_left fun x hx=>h x (by simp[Call.operands];exact .inr (by simpa using hx));rw[this]
  cases hc:c.callee with
  |value f=>simp only;rw[h f (by simp[Call.operands,hc])]
  |_=>rfl
theorem asS{ops:List Oper}{o:Oper}{x:Operand}(hx:x∈o.op.operands){t:Tmp}(ht:asR x=some t):t∈uses ops o:=by
 unfold uses;refine List.mem_append.2 (.inl (List.mem_filterMap.2 ⟨x,by simpa using hx,?_⟩))
 cases x<;>simp[asR]at ht<;>simp[ht]
theorem oF{env:Env}{dst:Option Tmp}{a:A}{t:Tmp}:look aJ t (PE env dst a)=if dst=some t then a else look aJ t env:=by
 cases dst with
 |none=>simp[PE]
 |some d=>simp only[PE,aU,Option.some.injEq]
theorem vD{env:Env}{g:Tmp}{x:A}(h:look aJ g env=x)(t:Tmp):look aJ t ((g,x)::env)=look aJ t env:=by
 rw[aU]
 split
 ·rename_i he;subst he;exact h.symm
 ·rfl
structure aAc (s t:St):Prop where
 next:s.next=t.next
 env:∀x,look aJ x s.env=look aJ x t.env
 heap:∀o,look .dead o s.heap=look .dead o t.heap
theorem nx{X:Cx}{ops:List Oper}{new:Nat}{o:Oper}{s s':St}{L:Log}(e:Cy X ops new o s=some (s',L)):
  s'.next=s.next∧(∀t,o.dst≠some t→look aJ t s'.env=look aJ t s.env)∧(∀p,(p,true)∉L→look .dead p s'.heap=look .dead p s.heap)∧
  ∀s2:St,s2.next=s.next→(∀t∈uses ops o,look aJ t s2.env=look aJ t s.env)→(∀p∈L,look .dead p.1 s2.heap=look .dead p.1 s.heap)→
   ∃s2',Cy X ops new o s2=some (s2',L)∧s2'.next=s.next∧(∀t,o.dst=some t→look aJ t s2'.env=look aJ t s'.env)∧(∀t,o.dst≠some t→look aJ t s2'.env=look aJ t s2.env)∧
    (∀p,(p,true)∈L→look .dead p s2'.heap=look .dead p s'.heap)∧∀p,(p,true)∉L→look .dead p s2'.heap=look .dead p s2.heap:=by
 have opl:∀{s s':St} {L:Log},opE X new o s=some (s',L)→s'.next=s.next∧(∀t,o.dst≠some t→look aJ t s'.env=look aJ t s.env)∧(∀p,(p,true)∉L→look .dead p s'.heap=look .dead p s.heap)∧
   ∀s2:St,s2.next=s.next→(∀t∈uses ops o,look aJ t s2.env=look aJ t s.env)→(∀p∈L,look .dead p.1 s2.heap=look .dead p.1 s.heap)→
   ∃s2',opE X new o s2=some (s2',L)∧s2'.next=s.next∧(∀t,o.dst=some t→look aJ t s2'.env=look aJ t s'.env)∧(∀t,o.dst≠some t→look aJ t s2'.env=look aJ t s2.env)∧
    (∀p,(p,true)∈L→look .dead p s2'.heap=look .dead p s'.heap)∧∀p,(p,true)∉L→look .dead p s2'.heap=look .dead p s2.heap:=by
  intro s s' L e;unfold opE at e
  split at e
  ·rename_i a h M he
   cases e;obtain⟨M',h1,h2,h3⟩:=vC _ _ _ _ _ _ _ he;simp only[cK]at h1;subst h1;refine⟨rfl,fun t ht=>by simp only[oF,if_neg ht],h2,fun s2 hn hu hL=> ?_⟩;obtain⟨h2',h4,h5,h6⟩:=h3 s2.heap [] hL;have hc:aop X new (D8 s2.env) o.op=aop X new (D8 s.env) o.op:=aq7 X new o.op fun x hx=>aq6 fun t ht=>hu t (asS hx ht);refine⟨{ s2 with env:=PE s2.env o.dst a,heap:=h2' },?_,hn,fun t ht=>by simp only[oF,if_pos ht],fun t ht=>by simp only[oF,if_neg ht],h5,h6⟩;unfold opE;rw[hc,hn,h4];simp
  ·cases e
 have aC6:∀{j:Nat} {want:Bool} {g:Tmp},o.guard=some (j,want)→ab8 ops j=some g→g∈uses ops o:=by
  intro j want g h1 h2;unfold uses;rw[h1];simp[h2]
 unfold Cy at e
 split at e
 ·cases e
 ·rename_i avb
  split at e
  ·rename_i hg;obtain⟨h1,h2,h3,h4⟩:=opl e;refine⟨h1,h2,h3,fun s2 a b c=> ?_⟩;obtain⟨s2',h5,h6⟩:=h4 s2 a b c;exact⟨s2',by unfold Cy;rw[avb,hg];exact h5,h6⟩
  ·rename_i j want hg
   split at e
   ·rename_i gt hgt;have hmem:=aC6 hg hgt
    split at e
    ·rename_i b hb
     split at e
     ·rename_i hbw;obtain⟨h1,h2,h3,h4⟩:=opl e;refine⟨h1,fun t ht=>(h2 t ht).trans (vD hb t),h3,fun s2 ha hu hc=> ?_⟩;have J0:look aJ gt s2.env= .v false [.bool b]:=(hu gt hmem).trans hb;obtain⟨s2',h5,h6,h7,h8,h9,h10⟩:=h4 { s2 with env:=(gt,.v false [.bool b])::s2.env } ha (fun t ht=>by
       simp only;rw[vD J0 t,vD hb t];exact hu t ht) hc
      refine⟨s2',?_,h6,h7,fun t ht=>(h8 t ht).trans (vD J0 t),h9,h10⟩;unfold Cy;simp only[avb,hg,hgt,J0,hbw,h5]
     ·rename_i hbw
      cases e;refine⟨rfl,fun t ht=>by simp only[oF,if_neg ht];exact vD hb t,fun p _=>rfl,fun s2 ha hu hc=> ?_⟩;have J0:look aJ gt s2.env= .v false [.bool b]:=(hu gt hmem).trans hb;refine⟨{ s2 with env:=PE ((gt,.v false [.bool b])::s2.env) o.dst Cs },?_,ha,fun t ht=>by simp only[oF,if_pos ht],fun t ht=>by simp only[oF,if_neg ht];exact vD J0 t,(fun p hp=>by cases hp),fun p _=>rfl⟩;unfold Cy;simp only[avb,hg,hgt,J0,hbw]
    ·rename_i hb
     cases e;refine⟨rfl,fun t ht=>by simp only[oF,if_neg ht],fun p _=>rfl,fun s2 ha hu hc=> ?_⟩;have J0:look aJ gt s2.env= .lO []:=(hu gt hmem).trans hb;refine⟨{ s2 with env:=PE s2.env o.dst Cs },?_,ha,fun t ht=>by simp only[oF,if_pos ht],fun t ht=>by simp only[oF,if_neg ht],(fun p hp=>by cases hp),fun p _=>rfl⟩;unfold Cy;simp only[avb,hg,hgt,J0]
    ·cases e
   ·cases e
structure SR (w0:W0) (Z0 Zp:cD) (X:Cx) (s:St) (g:G) (a:Act) (w:World):Prop where
 env:∀t,AR w w0.heap.size Zp s.heap g (look aJ t s.env) (a.tmps.getD t undef)
 hr:HR w0 Z0 Zp s.heap g w
 nt:X.nt≤a.tmps.size
 defers:a.defers=[]
section
variable {P:Program} {w0:W0} {w w':World} {Z0 Zp:cD} {g:G} {X:Cx} {a:Act} {s s':St} {ops:Array Oper} {Q:Exit→Act→World→Prop} {K:Act→World→Prop}
structure Ze (P:Program) (X:Cx):Prop where
 tt:YX P X.tt
 calls:∀f E,cZ f X.calls=some E→aq P f E
 owns:∀f E,cZ f X.owns=some E→x7 P f E
 stats:∀f E,cZ f X.stats=some E→qv P f E
 UX:afR P X.UX
theorem abL{base:Nat}{h:bg}{env:Env}(he:∀t,AR w base Zp h g (look aJ t env) (a.tmps.getD t undef)){dst:Option Tmp}{x:A}{v:Value}(hx:AR w base Zp h g x v)(hd:∀d,dst=some d→d<a.tmps.size):
  ∀t,AR w base Zp h g (look aJ t (PE env dst x)) ((a.put dst v).tmps.getD t undef):=by
 intro t;rw[oF]
 cases dst with
 |none=>simp only[Act.put];rw[if_neg (by simp)];exact he t
 |some d=>
  simp only[Act.put]
  by_cases hdt:d=t
  ·subst hdt;rw[if_pos rfl];have hlt:=hd d rfl;have:(a.tmps.setIfInBounds d v).getD d undef=v:=by simp[Array.getD,hlt]
   rw[this];exact hx
  ·rw[if_neg (by simpa using hdt)];have:(a.tmps.setIfInBounds d v).getD t undef=a.tmps.getD t undef:=by
    simp only[bJ,Array.getElem?_setIfInBounds_ne hdt]
   rw[this];exact he t
theorem Rd(dst:Option Tmp)(v:Value):(a.put dst v).tmps.size=a.tmps.size:=by cases dst<;>simp[Act.put]
theorem put_defers(dst:Option Tmp)(v:Value):(a.put dst v).defers=a.defers:=by cases dst<;>rfl
theorem asT(hX:Ze P X){new:Nat}{o:Oper}{L:Log}(S:SR w0 Z0 Zp X s g a w)(hn:¬ g.al new)(hd:ahv X o.dst=true)(e:opE X new o s=some (s',L))
  (hK:∀a' w' g',SR w0 Z0 Zp X s' g' a' w'→(∀p,g'.al p→g.al p∨p=new)→K a' w'):o.wp P a w K Q:=by
 have sD:∀d,o.dst=some d→d<a.tmps.size:=by
  intro d hd';rw[hd']at hd;simp only[ahv,fl]at hd;exact ca hd S.nt
 unfold opE at e
 split at e
 ·rename_i r h L' he
  cases e
  by_cases hc:ajh o.op=false
  ·obtain⟨n,v,w',g',h1,h2,h3,h4,h5,h6⟩:=au5 (P:=P) hX.tt hX.UX S.hr hn S.env hc he;have hput:=abL (a:=a) (fun t=>AR.mono h4 _ _ (S.env t)) h5 sD;have hs:SR w0 Z0 Zp X { s with env:=PE s.env o.dst r,heap:=h } g' (a.put o.dst v) w':=⟨hput,h3,by rw[Rd];exact S.nt,by rw[put_defers];exact S.defers⟩;unfold Oper.wp;rw[h1];rcases h2 with rfl |⟨rfl,rfl⟩
   ·exact hK _ _ _ hs h6
   ·exact hK _ _ _ hs h6
  ·obtain⟨c,f,hop,wi⟩:∃c f,o.op= .call c∧c.callee= .value f:=by
    cases hop:o.op<;>simp[hop,ajh]at hc;rename_i c
    cases wi:c.callee<;>simp[wi]at hc;exact⟨c,_,rfl,wi⟩
   obtain⟨f,args,h1,h2⟩:=asP hX.calls hX.owns hX.stats S.hr hn S.env hop wi he;unfold Oper.wp;rw[h1];refine h2.mono fun e w' ⟨v,g',he1,h3,h4,h5,h6⟩=> ?_;subst he1;have hput:=abL (a:=a) (fun t=>AR.mono h4 _ _ (S.env t)) h5 sD;exact hK _ _ _ ⟨hput,h3,by rw[Rd];exact S.nt,by rw[put_defers];exact S.defers⟩ h6
 ·cases e
theorem asU{ops:Array Oper}{j:Nat}{g:Tmp}(h:ab8 ops.toList j=some g):(ops[j]?).bind (·.dst)=some g:=by
 unfold ab8 at h;rw[cG]at h
 cases ho:ops[j]? with
 |none=>simp[ho]at h
 |some o=>simpa[ho]using h
theorem aor{xs:Array Value}{t:Nat}{v:Value}(h:xs.getD t undef=v)(hv:v≠undef):xs[t]? =some v:=by
 rw[bJ]at h
 cases hx:xs[t]? with
 |none=>simp[hx]at h;exact absurd h.symm hv
 |some u=>simp[hx]at h;rw[h]
theorem alI(hX:Ze P X){new i:Nat}{o:Oper}{L:Log}(ho:ops[i]? =some o)(S:SR w0 Z0 Zp X s g a w)(hn:¬ g.al new)(e:Cy X ops.toList new o s=some (s',L))
  (hK:∀a' w' g',SR w0 Z0 Zp X s' g' a' w'→(∀p,g'.al p→g.al p∨p=new)→K a' w'):wpOp P ops Q i K a w:=by
 unfold wpOp;simp only[ho];unfold Cy at e
 split at e
 ·cases e
 ·rename_i hd;have sD:∀d,o.dst=some d→d<a.tmps.size:=by
   intro d hd';rw[hd']at hd;simp only[ahv,fl]at hd;exact ca hd S.nt
  split at e
  ·rename_i hg;rw[if_pos (by simp[Region.wanted,hg])];exact .inl (asT hX S hn hd e hK)
  ·rename_i j want hg
   split at e
   ·rename_i gt hgt;have aAd:=asU hgt
    split at e
    ·rename_i b hb;have hv:=S.env gt;rw[hb]at hv;have hv:=hv.c;simp only[CR]at hv;have hgv:=aor hv (by simp[undef]);have hy:yielded ops a.tmps j=some b:=by simp[yielded,aAd,hgv]
     have hS2:SR w0 Z0 Zp X { s with env:=(gt,.v false [.bool b])::s.env } g a w:=⟨fun t=>by rw[vD hb t];exact S.env t,S.hr,S.nt,S.defers⟩
     split at e
     ·rename_i hbw;have hbw:=toBeq hbw;subst hbw;rw[if_pos (by simp[Region.wanted,hg,hy])];exact .inl (asT hX hS2 hn hd e hK)
     ·rename_i hbw
      cases e;have hne:b≠want:=by intro h;subst h;simp at hbw
      rw[if_neg (by simp[Region.wanted,hg,hy,hne])];refine hK _ _ g ⟨?_,S.hr,by rw[Rd];exact S.nt,by rw[put_defers];exact S.defers⟩ (fun p hp=> .inl hp);exact abL hS2.env AR.skip sD
    ·rename_i hb
     cases e;have hv:=S.env gt;rw[hb]at hv;obtain⟨vs,hv,hp⟩:=hv;simp only[dY]at hp;subst hp;have hy:yielded ops a.tmps j=none:=by
      unfold yielded;rw[aAd];simp only[aa];rw[bJ]at hv
      cases hx:a.tmps[gt]? with
      |none=>rfl
      |some u=>simp[hx]at hv;subst hv;rfl
     rw[if_neg (by simp[Region.wanted,hg,hy])];refine hK _ _ g ⟨?_,S.hr,by rw[Rd];exact S.nt,by rw[put_defers];exact S.defers⟩ (fun p hp=> .inl hp);exact abL S.env AR.skip sD
    ·cases e
   ·cases e
theorem alJ(hX:Ze P X):∀(n:Nat) (k new:Nat) (l:List Oper) (s:St) (Ls:List Log) (s':St) (Ls':List Log) (g:G) (a:Act) (w:World),l.length=n→(∀j:Nat,l[j]? =ops[k+j]?)→afX X ops.toList new l s Ls=some (s',Ls')→
  SR w0 Z0 Zp X s g a w→(∀p,g.al p→p<new)→(∀a' w' g',SR w0 Z0 Zp X s' g' a' w'→(∀p,g'.al p→p<new+n)→Q .normal a' w')→wpOps P ops Q (List.range' k n) a w
 |0,k,new,l,s,Ls,s',Ls',g,a,w,hl,_,e,S,hal,hK=>by
  have:l=[]:=List.length_eq_zero_iff.1 hl;subst this
  cases e;exact hK a w g S (by simpa using hal)
 |n+1,k,new,l,s,Ls,s',Ls',g,a,w,hl,aAe,e,S,hal,hK=>by
  cases l with
  |nil=>simp at hl
  |cons o l=>
   simp only[afX]at e
   split at e
   ·rename_i s1 L hs1;rw[List.range'_succ,wpOps_cons];refine alI hX (by have:=aAe 0;simpa using this.symm) S (fun h=>Nat.lt_irrefl _ (hal new h)) hs1 fun a' w' g' S' acr=> ?_;refine alJ hX n (k+1) (new+1) l s1 _ s' Ls' g' a' w' (by simpa using hl) (fun j=>by have:=aAe (j+1);simpa[fu,Nat.add_comm 1 j]using this) e S' (fun p hp=> ?_) (fun a2 w2 g2 h2 h3=>hK a2 w2 g2 h2 (fun p hp=>by have:=h3 p hp;omega));rcases acr p hp with h |h
    ·have:=hal p h;omega
    ·omega
   ·cases e
end
theorem ahL(acc:Nat→Nat)(i:Nat):∀(l:List Edge) (s:Nat),(l.foldl (fun s e=>if Region.binds .any e then s ||| 2^e.on ||| acc e.on else s) s).testBit i=true→
  s.testBit i=true∨∃e∈l,Region.binds .any e=true∧(e.on=i∨(acc e.on).testBit i=true)
 |[],s,h=> .inl h
 |e::l,s,h=>by
  simp only[List.foldl_cons]at h;rcases ahL acc i l _ h with h1 |⟨e',he',h1⟩
  ·split at h1
   ·rename_i hb;rw[Nat.testBit_or,Nat.testBit_or]at h1;simp only[aB]at h1;rcases h1 with(h1 |h1)|h1
    ·exact .inl h1
    ·rw[Nat.testBit_two_pow]at h1;exact .inr ⟨e,by simp,hb,.inl (by simpa using h1)⟩
    ·exact .inr ⟨e,by simp,hb,.inr h1⟩
   ·exact .inl h1
  ·exact .inr ⟨e',by simp[he'],h1⟩
def Re(acc:Nat→Nat)(o:Oper):Nat:=o.after.foldl (fun s e=>if Region.binds .any e then s ||| 2^e.on ||| acc e.on else s) 0
theorem XF:∀(l:List Oper) (acc:Array Nat),
  (l.foldl (fun acc o=>acc.push (Re (fun k=>acc.getD k 0) o)) acc).size=acc.size+l.length∧
  (∀k,k<acc.size→(l.foldl (fun acc o=>acc.push (Re (fun k=>acc.getD k 0) o)) acc).getD k 0=acc.getD k 0)∧
  ∀(j:Nat) (o:Oper),l[j]? =some o→∃acc':Array Nat,acc'.size=acc.size+j∧(∀k,k<acc.size+j→acc'.getD k 0=(l.foldl (fun acc o=>acc.push (Re (fun k=>acc.getD k 0) o)) acc).getD k 0)∧
   (l.foldl (fun acc o=>acc.push (Re (fun k=>acc.getD k 0) o)) acc).getD (acc.size+j) 0=Re (fun k=>acc'.getD k 0) o
 |[],acc=>⟨rfl,fun _ _=>rfl,fun j o h=>by simp at h⟩
 |o::l,acc=>by
  obtain⟨h1,h2,h3⟩:=XF l (acc.push (Re (fun k=>acc.getD k 0) o));simp only[List.foldl_cons,aZ];simp only[Array.size_push]at h1 h2 h3;have hold:∀k,k<acc.size→(acc.push (Re (fun k=>acc.getD k 0) o)).getD k 0=acc.getD k 0:=fun k hk=>by
   simp only[bJ,Array.getElem?_push,if_neg (Nat.ne_of_lt hk)]
  refine⟨by rw[h1];omega,fun k hk=>(h2 k (by omega)).trans (hold k hk),fun j o' hj=> ?_⟩
  cases j with
  |zero=>
   simp at hj;subst hj;refine⟨acc,rfl,fun k hk=>((h2 k (by omega)).trans (hold k (by omega))).symm,?_⟩;rw[Nat.add_zero,h2 acc.size (by omega)];simp[bJ]
  |succ j=>
   obtain⟨acc',h4,h5,h6⟩:=h3 j o' (by simpa using hj);have e1:acc.size+1+j=acc.size+(j+1):=by omega
   rw[e1]at h4 h6;exact⟨acc',h4,fun k hk=>h5 k (by omega),h6⟩
theorem aq8(ops:Array Oper):Region.before ops=ops.toList.foldl (fun acc o=>acc.push (Re (fun k=>acc.getD k 0) o)) #[]:=by
 unfold Region.before;rw[←Array.foldl_toList];rfl
def Bef(ops:Array Oper)(i j:Nat):Prop:=((Region.before ops).getD j 0).testBit i=true
theorem alK{ops:Array Oper}{i j:Nat}{o:Oper}(ho:ops[j]? =some o)(hb:∀e∈o.after.toList,Region.binds .any e=true→e.on<j)(h:Bef ops i j):
  ∃e∈o.after.toList,Region.binds .any e=true∧(e.on=i∨Bef ops i e.on):=by
 unfold Bef at h ⊢;rw[aq8]at h ⊢;obtain⟨_,_,h3⟩:=XF ops.toList #[];obtain⟨acc',h4,h5,h6⟩:=h3 j o (by simpa using ho);simp only[ek,dz,dN]at h4 h5 h6;rw[h6]at h;unfold Re at h;rw[←Array.foldl_toList]at h;rcases ahL (fun k=>acc'.getD k 0) i _ 0 h with h7 |⟨e,he,hbe,h7⟩
 ·simp at h7
 ·refine⟨e,he,hbe,h7.imp id fun h8=> ?_⟩;rw[←h5 e.on (hb e he hbe)];exact h8
theorem acG(X:Cx)(ops:List Oper):∀(l:List Oper) (new:Nat) (s:St) (Ls:List Log) (s':St) (Ls':List Log),afX X ops new l s Ls=some (s',Ls')→
  ∃(S:Nat→St) (Lg:Nat→Log),S 0=s∧S l.length=s'∧(∀(i:Nat) (o:Oper),l[i]? =some o→Cy X ops (new+i) o (S i)=some (S (i+1),Lg i))∧Ls'=((List.range l.length).map Lg).reverse++Ls
 |[],new,s,Ls,s',Ls',e=>by
  cases e;exact⟨fun _=>s,fun _=>[],rfl,rfl,fun i o h=>by simp at h,by simp⟩
 |o::l,new,s,Ls,s',Ls',e=>by
  simp only[afX]at e
  split at e
  ·rename_i s1 L hs1;obtain⟨S,Lg,h1,h2,h3,h4⟩:=acG X ops l (new+1) s1 (L::Ls) s' Ls' e;refine⟨fun i=>match i with |0=>s |i+1=>S i,fun i=>match i with |0=>L |i+1=>Lg i,rfl,h2,fun i o' hi=> ?_,?_⟩
   ·cases i with
    |zero=>simp at hi;subst hi;simp only[Nat.add_zero,h1];exact hs1
    |succ i=>
     have:=h3 i o' (by simpa using hi);have e1:new+1+i=new+(i+1):=by omega
     rw[e1]at this;exact this
   ·rw[h4];simp[List.range_succ_eq_map,List.map_map,Function.comp_def]
  ·cases e
theorem ahM(p:Nat→Prop):∀j,(∃i,i<j∧p i)→∃i,i<j∧p i∧∀k,k<j→p k→k≤i
 |0,⟨i,hi,_⟩=>by omega
 |j+1,⟨i,hi,hp⟩=>by
  by_cases hj:p j
  ·exact⟨j,by omega,hj,fun k hk _=>by omega⟩
  ·have hij:i≠j:=fun h=>hj (h▸hp);obtain⟨m,h1,h2,h3⟩:=ahM p j ⟨i,by omega,hp⟩;exact⟨m,by omega,h2,fun k hk hpk=>h3 k (by
    rcases Nat.lt_or_ge k j with h |h
    ·exact h
    ·have:k=j:=by omega
     subst this;exact absurd hpk hj) hpk⟩
theorem ajm{V:Type}(val:Nat→V)(wr:Nat→Prop)(n:Nat)(hS:∀i,i<n→¬ wr i→val (i+1)=val i):∀(d i:Nat),i+d≤n→(∀k,i≤k→k<i+d→¬ wr k)→val (i+d)=val i
 |0,i,_,_=>rfl
 |d+1,i,hle,hno=>by
  have h1:=hS (i+d) (by omega) (hno (i+d) (by omega) (by omega));have h2:=ajm val wr n hS d i (by omega) (fun k h1 h2=>hno k h1 (by omega));rw[show i+(d+1)=i+d+1 by omega,h1,h2]
theorem ap8{V:Type}(val:Nat→V)(now:V)(wr isL:Nat→Prop)(n j:Nat)(hj:j≤n)(hS:∀i,i<n→¬ wr i→val (i+1)=val i)(aC7:(∀i,isL i→¬ wr i)→now=val 0)
  (inv1:∀i,isL i→wr i→(∀k,isL k→wr k→k≤i)→now=val (i+1)) (hlt:∀i,isL i→wr i→i<j) (hall:∀k,k<j→wr k→isL k):now=val j:=by
 by_cases h:∃i,i<j∧(isL i∧wr i)
 ·obtain⟨i,h1,⟨h2,h3⟩,h4⟩:=ahM (fun i=>isL i∧wr i) j h;rw[inv1 i h2 h3 fun k hk hw=>h4 k (hlt k hk hw) ⟨hk,hw⟩];have:=ajm val wr n hS (j -(i+1)) (i+1) (by omega) fun k hk1 hk2 hw=>by
   have:=h4 k (by omega) ⟨hall k (by omega) hw,hw⟩;omega
  rw[show i+1+(j -(i+1))=j by omega]at this;exact this.symm
 ·have hno:∀i,i<j→¬ wr i:=fun i hi hw=>h ⟨i,hi,hall i hi hw,hw⟩;rw[aC7 fun i hi hw=>h ⟨i,hlt i hi hw,hi,hw⟩];have:=ajm val wr n hS j 0 (by omega) fun k _ hk2=>hno k (by omega);rw[dN]at this;exact this.symm
structure Run (X:Cx) (ops:Array Oper) (base:Nat) (S:Nat→St) (Lg:Nat→Log):Prop where
 step:∀(i:Nat) (o:Oper),ops[i]? =some o→Cy X ops.toList (base+i) o (S i)=some (S (i+1),Lg i)
 back:∀(j:Nat) (o:Oper),ops[j]? =some o→∀e∈o.after.toList,Region.binds .any e=true→e.on<j
 apart:∀(i j:Nat) (x y:Oper),ops[i]? =some x→ops[j]? =some y→i<j→Bef ops i j∨(su ops.toList x y=true∧MK (Lg i) (Lg j)=true)
def MP(ops:Array Oper)(t:Tmp)(i:Nat):Prop:=∃o,ops[i]? =some o∧o.dst=some t
def MQ(Lg:Nat→Log)(n o i:Nat):Prop:=i<n∧(o,true)∈Lg i
def da(n:Nat)(listed:Array Bool)(i:Nat):Prop:=i<n∧listed.getD i true=true
structure Inv (ops:Array Oper) (S:Nat→St) (Lg:Nat→Log) (listed:Array Bool) (s:St):Prop where
 size:listed.size=ops.size
 next:s.next=(S 0).next
 ax5:∀t,(∀i,da ops.size listed i→¬ MP ops t i)→look aJ t s.env=look aJ t (S 0).env
 ax6:∀t i,da ops.size listed i→MP ops t i→(∀k,da ops.size listed k→MP ops t k→k≤i)→look aJ t s.env=look aJ t (S (i+1)).env
 asV:∀o,(∀i,da ops.size listed i→¬ MQ Lg ops.size o i)→look .dead o s.heap=look .dead o (S 0).heap
 asW:∀o i,da ops.size listed i→MQ Lg ops.size o i→(∀k,da ops.size listed k→MQ Lg ops.size o k→k≤i)→look .dead o s.heap=look .dead o (S (i+1)).heap
 closed:∀i j,da ops.size listed j→Bef ops i j→da ops.size listed i
section
variable {X:Cx} {ops:Array Oper} {base:Nat} {S:Nat→St} {Lg:Nat→Log} {listed:Array Bool} {s:St}
theorem Run.lt(_:Run X ops base S Lg){i:Nat}{o:Oper}(h:ops[i]? =some o):i<ops.size:=(Array.getElem?_eq_some_iff.1 h).1
theorem Run.next(R:Run X ops base S Lg){i:Nat}(hi:i≤ops.size):(S i).next=(S 0).next:=by
 induction i with
 |zero=>rfl
 |succ i ih=>
  have:=nx (R.step i ops[i] (bT (by omega)));exact this.1.trans (ih (by omega))
theorem acH{ops:List Oper}{x y:Oper}(h:su ops x y=true){t:Tmp}(hx:x.dst=some t):t∉uses ops y:=by
 unfold su at h;rw[hx]at h;simp only[aj,ei]at h;intro ht;have:=h.1.1 t ht;simp at this
theorem afY{ops:List Oper}{x y:Oper}(h:su ops x y=true){t:Tmp}(hx:x.dst=some t):y.dst≠some t:=by
 unfold su at h;rw[hx]at h;simp only[aj]at h;intro hy;have:=h.1.2;rw[hy]at this;simp at this
theorem acI{ops:List Oper}{x y:Oper}(h:su ops x y=true){t:Tmp}(hy:y.dst=some t):t∉uses ops x:=by
 unfold su at h;rw[hy]at h;simp only[aj,ei]at h;intro ht;have:=h.2 t ht;simp at this
theorem PN{a b:Log}(h:MK a b=true){o:Nat}{w w':Bool}(ha:(o,w)∈a)(hb:(o,w')∈b):w=false∧w'=false:=by
 unfold MK at h;simp only[ei]at h;have:=h _ ha _ hb;simpa using this
theorem alL(R:Run X ops base S Lg)(I:Inv ops S Lg listed s){j:Nat}{y:Oper}(hy:ops[j]? =some y)(hun:¬ da ops.size listed j)
  (XG:∀e∈y.after.toList,Region.binds .any e=true→da ops.size listed e.on):
  (∀t∈uses ops.toList y,look aJ t s.env=look aJ t (S j).env)∧(∀p∈Lg j,look .dead p.1 s.heap=look .dead p.1 (S j).heap):=by
 have hj:=R.lt hy;have aAf:∀i,Bef ops i j→da ops.size listed i:=fun i hb=>by
  obtain⟨e,he,hbe,h1⟩:=alK hy (R.back j y hy) hb;rcases h1 with h1 |h1
  ·exact h1▸XG e he hbe
  ·exact I.closed i _ (XG e he hbe) h1
 have alM:∀i,da ops.size listed i→¬ Bef ops j i:=fun i hi hb=>hun (I.closed j i hi hb);refine⟨fun t ht=> ?_,fun p hp=> ?_⟩
 ·refine ap8 (fun i=>look aJ t (S i).env) _ (MP ops t) (da ops.size listed) ops.size j (by omega) (fun i hi hw=> ?_) (I.ax5 t) (I.ax6 t) (fun i hi hw=> ?_) (fun k hk hw=> ?_)
  ·exact(nx (R.step i ops[i] (bT hi))).2.1 t (fun h=>hw ⟨_,bT hi,h⟩)
  ·obtain⟨x,hx,hxd⟩:=hw;rcases Nat.lt_or_ge i j with h |h
   ·exact h
   ·have hne:i≠j:=fun h=>hun (h▸hi);rcases R.apart j i y x hy hx (by omega)with h1 |h1
    ·exact absurd h1 (alM i hi)
    ·exact absurd ht (acI h1.1 hxd)
  ·obtain⟨x,hx,hxd⟩:=hw;rcases R.apart k j x y hx hy hk with h1 |h1
   ·exact aAf k h1
   ·exact absurd ht (acH h1.1 hxd)
 ·obtain⟨o,w⟩:=p;refine ap8 (fun i=>look .dead o (S i).heap) _ (MQ Lg ops.size o) (da ops.size listed) ops.size j (by omega) (fun i hi hw=> ?_) (I.asV o) (I.asW o) (fun i hi hw=> ?_) (fun k hk hw=> ?_)
  ·exact(nx (R.step i ops[i] (bT hi))).2.2.1 o (fun h=>hw ⟨hi,h⟩)
  ·rcases Nat.lt_or_ge i j with h |h
   ·exact h
   ·have hne:i≠j:=fun h=>hun (h▸hi);rcases R.apart j i y _ hy (bT hw.1) (by omega)with h1 |h1
    ·exact absurd h1 (alM i hi)
    ·have:=PN h1.2 hp hw.2
     cases this.2
  ·rcases R.apart k j _ y (bT hw.1) hy hk with h1 |h1
   ·exact aAf k h1
   ·have:=PN h1.2 hw.2 hp
    cases this.1
theorem Ai{n j k:Nat}{listed:Array Bool}(hs:listed.size=n)(hj:j<n):da n (listed.setIfInBounds j true) k↔da n listed k∨k=j:=by
 unfold da;simp only[bJ]
 by_cases h:j=k
 ·subst h;have:j<listed.size:=by omega
  simp[this,hj]
 ·rw[Array.getElem?_setIfInBounds_ne h];constructor
  ·exact .inl
  ·rintro(h1 |h1)
   ·exact h1
   ·exact absurd h1.symm h
theorem asX(R:Run X ops base S Lg)(I:Inv ops S Lg listed s){j:Nat}{y:Oper}(hy:ops[j]? =some y)(hun:¬ da ops.size listed j)
  (XG:∀e∈y.after.toList,Region.binds .any e=true→da ops.size listed e.on):
  ∃s',Cy X ops.toList (base+j) y s=some (s',Lg j)∧Inv ops S Lg (listed.setIfInBounds j true) s':=by
 have hj:=R.lt hy;obtain⟨hu,hl⟩:=alL R I hy hun XG;obtain⟨_,l1,l2,l3⟩:=nx (R.step j y hy);obtain⟨s',e1,e2,e3,e4,e5,e6⟩:=l3 s (I.next.trans (R.next (by omega)).symm) hu hl;have alM:∀i,da ops.size listed i→¬ Bef ops j i:=fun i hi hb=>hun (I.closed j i hi hb);have LS:∀k,da ops.size (listed.setIfInBounds j true) k↔da ops.size listed k∨k=j:=fun k=>Ai I.size hj;have hwT:∀t k,y.dst=some t→da ops.size listed k→MP ops t k→k<j:=by
  intro t k hyd hk ⟨x,hx,hxd⟩;rcases Nat.lt_or_ge k j with h |h
  ·exact h
  ·have hne:k≠j:=fun h=>hun (h▸hk);rcases R.apart j k y x hy hx (by omega)with h1 |h1
   ·exact absurd h1 (alM k hk)
   ·exact absurd hxd (afY h1.1 hyd)
 have hwO:∀o k,(o,true)∈Lg j→da ops.size listed k→MQ Lg ops.size o k→k<j:=by
  intro o k ho hk hw;rcases Nat.lt_or_ge k j with h |h
  ·exact h
  ·have hne:k≠j:=fun h=>hun (h▸hk);rcases R.apart j k y _ hy (bT hw.1) (by omega)with h1 |h1
   ·exact absurd h1 (alM k hk)
   ·have:=PN h1.2 ho hw.2
    cases this.1
 refine⟨s',e1,by simp[I.size],e2.trans (R.next (by omega)),fun t h0=> ?_,fun t i hi hw asY=> ?_,fun o h0=> ?_,fun o i hi hw asY=> ?_,fun i k hk hb=> ?_⟩
 ·have hyd:y.dst≠some t:=fun h=>h0 j ((LS j).2 (.inr rfl)) ⟨y,hy,h⟩;rw[e4 t hyd];exact I.ax5 t fun i hi=>h0 i ((LS i).2 (.inl hi))
 ·by_cases hyd:y.dst=some t
  ·have hij:j≤i:=asY j ((LS j).2 (.inr rfl)) ⟨y,hy,hyd⟩;have:i=j:=by
    rcases(LS i).1 hi with h |h
    ·have:=hwT t i hyd h hw;omega
    ·exact h
   subst this;exact e3 t hyd
  ·rw[e4 t hyd];have hil:da ops.size listed i:=by
    rcases(LS i).1 hi with h |h
    ·exact h
    ·subst h;obtain⟨x,hx,hxd⟩:=hw;rw[hy]at hx;cases hx;exact absurd hxd hyd
   exact I.ax6 t i hil hw fun k hk hwk=>asY k ((LS k).2 (.inl hk)) hwk
 ·have hyd:(o,true)∉Lg j:=fun h=>h0 j ((LS j).2 (.inr rfl)) ⟨hj,h⟩;rw[e6 o hyd];exact I.asV o fun i hi=>h0 i ((LS i).2 (.inl hi))
 ·by_cases hyd:(o,true)∈Lg j
  ·have hij:j≤i:=asY j ((LS j).2 (.inr rfl)) ⟨hj,hyd⟩;have:i=j:=by
    rcases(LS i).1 hi with h |h
    ·have:=hwO o i hyd h hw;omega
    ·exact h
   subst this;exact e5 o hyd
  ·rw[e6 o hyd];have hil:da ops.size listed i:=by
    rcases(LS i).1 hi with h |h
    ·exact h
    ·subst h;exact absurd hw.2 hyd
   exact I.asW o i hil hw fun k hk hwk=>asY k ((LS k).2 (.inl hk)) hwk
 ·rcases(LS k).1 hk with h |h
  ·exact(LS i).2 (.inl (I.closed i k h hb))
  ·subst h;obtain⟨e,he,hbe,h1⟩:=alK hy (R.back k y hy) hb;rcases h1 with h1 |h1
   ·exact(LS i).2 (.inl (h1▸XG e he hbe))
   ·exact(LS i).2 (.inl (I.closed i _ (XG e he hbe) h1))
theorem ap9(R:Run X ops base S Lg)(I:Inv ops S Lg listed s)(hall:∀i,i<ops.size→da ops.size listed i):aAc s (S ops.size):=by
 refine⟨I.next.trans (R.next (aA _)).symm,fun t=> ?_,fun o=> ?_⟩
 ·exact ap8 (fun i=>look aJ t (S i).env) _ (MP ops t) (da ops.size listed) ops.size ops.size (aA _)
   (fun i hi hw=>(nx (R.step i ops[i] (bT hi))).2.1 t (fun h=>hw ⟨_,bT hi,h⟩)) (I.ax5 t) (I.ax6 t) (fun i hi _=>hi.1) (fun k hk _=>hall k hk)
 ·exact ap8 (fun i=>look .dead o (S i).heap) _ (MQ Lg ops.size o) (da ops.size listed) ops.size ops.size (aA _)
   (fun i hi hw=>(nx (R.step i ops[i] (bT hi))).2.2.1 o (fun h=>hw ⟨hi,h⟩)) (I.asV o) (I.asW o) (fun i hi _=>hi.1) (fun k hk _=>hall k hk)
end
section
variable {P:Program} {w0:W0} {w w':World} {Z0 Zp:cD} {g:G} {X:Cx} {a:Act} {s s':St} {ops:Array Oper} {Q:Exit→Act→World→Prop} {S:Nat→St} {Lg:Nat→Log} {listed:Array Bool} {base:Nat}
theorem SR.same(h:SR w0 Z0 Zp X s g a w)(e:aAc s s'):SR w0 Z0 Zp X s' g a w:=
 ⟨fun t=>by rw[←e.env t];exact AR.mono (Le.same e.heap) _ _ (h.env t),h.hr.same e.heap,h.nt,h.defers⟩
def unl(n:Nat)(listed:Array Bool):Nat:=(List.range n).countP fun i=> !listed.getD i true
theorem ahN{α:Type}{p q:α→Bool}:∀{l:List α},(∀x∈l,q x=true→p x=true)→(∃x∈l,p x=true∧q x=false)→l.countP q<l.countP p
 |[],_,⟨x,hx,_⟩=>by cases hx
 |y::l,h,⟨x,hx,hp,hq⟩=>by
  have hle:l.countP q≤l.countP p:=List.countP_mono_left fun z hz=>h z (by simp[hz]);rw[List.countP_cons,List.countP_cons]
  by_cases hxy:x=y
  ·subst hxy;simp[hp,hq];omega
  ·have hxl:x∈l:=by simpa[hxy]using hx
   have ih:=ahN (p:=p) (q:=q) (fun z hz=>h z (by simp[hz])) ⟨x,hxl,hp,hq⟩;have hy:=h y (by simp)
   cases hqy:q y
   ·cases p y<;>simp<;>omega
   ·rw[hy hqy];simp;exact ih
theorem ave(hX:Ze P X)(R:Run X ops base S Lg):∀(fuel:Nat) (listed:Array Bool) (s:St) (g:G) (a:Act) (w:World),Inv ops S Lg listed s→SR w0 Z0 Zp X s g a w→
  (∀p,g.al p→p<base+ops.size∧∀i,¬ da ops.size listed i→i<ops.size→p≠base+i)→unl ops.size listed≤fuel→
  (∀a' w' g',SR w0 Z0 Zp X (S ops.size) g' a' w'→(∀p,g'.al p→p<base+ops.size)→Q .normal a' w')→wpAny P .any ops Q fuel listed a w:=by
 intro fuel
 induction fuel with
 |zero=>
  intro listed s g a w I hS hal hf hQ;have hall:∀i,i<ops.size→da ops.size listed i:=fun i hi=>⟨hi,by
   cases hl:listed.getD i true with
   |true=>rfl
   |false=>
    have:0<unl ops.size listed:=List.countP_pos_iff.2 ⟨i,by simpa using hi,by simp only[hl,Bool.not_false]⟩;omega⟩
  refine⟨?_,hQ a w g (hS.same (ap9 R I hall)) fun p hp=>(hal p hp).1⟩;rw[Region.ready,List.filter_eq_nil_iff];intro i hi;have:=(hall i (by simpa using hi)).2;simp[this]
 |succ fuel ih=>
  intro listed s g a w I hS hal hf hQ;refine⟨fun hr=> ?_,fun j hj=> ?_⟩
  ·have hall:∀i,i<ops.size→da ops.size listed i:=by
    intro i
    induction i using Nat.strongRecOn with
    |_ i ih2=>
     intro hi;refine⟨hi,?_⟩
     cases hl:listed.getD i true with
     |true=>rfl
     |false=>
      exfalso;have hmem:i∈Region.ready .any ops listed:=by
       rw[mem_ready];refine⟨hl,ops[i],bT hi,fun e he hb=> ?_⟩;have hlt:=R.back i ops[i] (bT hi) e (by simpa using he) hb;have h1:=(ih2 e.on hlt (by omega)).2;have:e.on<listed.size:=by rw[I.size];omega
       simpa[bJ,this]using h1
      rw[hr]at hmem
      cases hmem
   exact hQ a w g (hS.same (ap9 R I hall)) fun p hp=>(hal p hp).1
  ·rw[mem_ready]at hj;obtain⟨aAg,y,hy,XG⟩:=hj;have hjn:=R.lt hy;have hun:¬ da ops.size listed j:=fun h=>by have:=h.2;rw[aAg]at this;cases this
   obtain⟨s',e1,I'⟩:=asX R I hy hun fun e he hb=>⟨by have:=R.back j y hy e he hb;omega,by
    have h1:=XG e (by simpa using he) hb;have hlt:e.on<listed.size:=by have:=R.back j y hy e he hb;rw[I.size];omega
    simpa[bJ,hlt]using h1⟩
   refine alI hX hy hS (fun h=>(hal _ h).2 j hun hjn rfl) e1 fun a' w' g' hS' acr=> ?_;refine ih _ s' g' a' w' I' hS' (fun p hp=> ?_) ?_ hQ
   ·rcases acr p hp with h |h
    ·exact⟨(hal p h).1,fun i hi hin=>(hal p h).2 i (fun hl=>hi ((Ai I.size hjn).2 (.inl hl))) hin⟩
    ·subst h;exact⟨by omega,fun i hi hin he=>hi ((Ai I.size hjn).2 (.inr (by omega)))⟩
   ·have:unl ops.size (listed.setIfInBounds j true)<unl ops.size listed:=by
     refine ahN (fun i hi hq=> ?_) ⟨j,by simpa using hjn,by simp only[aAg,Bool.not_false],?_⟩
     ·cases hl:listed.getD i true with
      |false=>rfl
      |true=>
       exfalso;have:=((Ai (k:=i) I.size hjn).2 (.inl ⟨by simpa using hi,hl⟩)).2;rw[this]at hq
       cases hq
     ·have:=((Ai (k:=j) I.size hjn).2 (.inr rfl)).2;rw[this];rfl
    omega
theorem Le.drew:Le Zp s.heap g w s.heap g w.drew:=
 ⟨fun _ h=>h,fun _ _ h=>⟨h,rfl⟩,fun _ _ h=>⟨h,rfl⟩,fun _ _=>Ob.to.refl _,fun _ _ _=>rfl,fun _ _ _=>⟨rfl,fun _ _=>rfl⟩,fun _ _ _ h=>h⟩
theorem SR.drew(h:SR w0 Z0 Zp X s g a w):SR w0 Z0 Zp X s g a w.drew:=by
 have hr:=h.hr;exact⟨fun t=>AR.mono Le.drew _ _ (h.env t),⟨hr.ext.drew,fun o=>QZ.mono Le.drew (.inr rfl) (fun _ _ _=>rfl) (hr.ob o),hr.dead,hr.home,hr.oa,hr.lq,hr.Na,hr.Nb,hr.JZ,hr.z0,hr.zp,
  hr.gh.keep Le.drew (fun _ _ _ _ h=>h) rfl (fun _ _ _ _=>rfl) (aA _) hr.gh.lq hr.gh.loc⟩,h.nt,h.defers⟩
theorem SR.reserve(h:SR w0 Z0 Zp X s g a w)(n:Nat):SR w0 Z0 Zp X { s with next:=n } g a w:=⟨h.env,h.hr,h.nt,h.defers⟩
theorem PO{R:Type}(hX:Ze P X)(hm:P.follows .mixedOrders=true){id:Nat}{draw:Bool}{K:St→Option R}{r:R}(e:GO X ops draw K s=some r)(hS:SR w0 Z0 Zp X s g a w)(hal:∀p,g.al p→p<s.next)
  (hQ:∀s' a' w' g',K s'=some r→SR w0 Z0 Zp X s' g' a' w'→(∀p,g'.al p→p<s'.next)→Q .normal a' w'):(Code.region id ops draw).wp P Q a w:=by
 unfold GO at e;simp only at e;rw[zb]at e
 cases he:afX X ops.toList s.next ops.toList { s with next:=s.next+ops.toList.length } []with
 |none=>rw[he]at e;cases e
 |some q=>
  obtain⟨s1,Ls⟩:=q;rw[he]at e;simp only[aa]at e;obtain⟨S,Lg,h0,h1,h2,h3⟩:=acG X ops.toList ops.toList s.next _ [] s1 Ls he;have hnext:s1.next=s.next+ops.size:=by
   have h4:∀i,i≤ops.toList.length→(S i).next=s.next+ops.size:=by
    intro i
    induction i with
    |zero=>intro _;rw[h0];simp
    |succ i ih=>
     intro hi;have:=nx (h2 i (ops.toList[i]'(by omega)) (ah (by omega)));rw[this.1];exact ih (by omega)
   rw[←h1];exact h4 _ (aA _)
  cases draw with
  |false=>
   refine wp_region ?_;rw[List.range_eq_range'];refine alJ hX ops.size 0 s.next ops.toList _ [] s1 Ls g a w (by simp) (fun j=>by simp) he (hS.reserve _) hal fun a' w' g' hS' acr=> ?_;exact hQ s1 a' w' g' e hS' (fun p hp=>by rw[hnext];exact acr p hp)
  |true=>
   simp only at e
   split at e
   ·rename_i hd;have aC9:Ls.reverse=(List.range ops.size).map Lg:=by
     rw[h3];simp
    rw[aC9]at hd;unfold an8 at hd;simp only[ei]at hd;have alO:∀(j:Nat) (o:Oper),ops[j]? =some o→ops.toList[j]? =some o∧((List.range ops.size).map Lg)[j]? =some (Lg j)∧j<ops.size:=fun j o ho=>by
     have hj:j<ops.size:=(Array.getElem?_eq_some_iff.1 ho).1;exact⟨by simpa using ho,by simp[hj],hj⟩
    have Rn:Run X ops s.next S Lg:=by
     refine⟨fun i o ho=>h2 i o (by simpa using ho),fun j o ho e he hb=> ?_,fun i j x y hx hy hij=> ?_⟩
     ·obtain⟨g1,g2,g3⟩:=alO j o ho;have:=hd j (by simpa using g3);rw[g1,g2]at this;simp only[aj]at this;have h5:=this.1;rw[Array.all_eq_true_iff_forall_mem]at h5;have h6:=h5 e (by simpa using he);rw[hb]at h6;simp[fl]at h6;exact h6
     ·obtain⟨g1,g2,g3⟩:=alO j y hy;obtain⟨k1,k2,k3⟩:=alO i x hx;have:=hd j (by simpa using g3);rw[g1,g2]at this;simp only[aj,ei]at this;have h5:=this.2 i (by simpa using hij);rw[k1,k2]at h5;simp only[aB,aj]at h5;rcases h5 with h5 |h5
      ·exact .inl h5
      ·exact .inr h5
    refine wp_region_any hm ?_;have hS0:SR w0 Z0 Zp X (S 0) g a w.drew:=by rw[h0];exact(hS.reserve _).drew
    have hun:∀i,¬ da ops.size (Array.replicate ops.size false) i:=fun i h=>by
     have h6:=h.2;simp[bJ,h.1]at h6
    refine ave hX Rn ops.size _ (S 0) g a w.drew ⟨by simp,rfl,fun _ _=>rfl,fun t i hi=>absurd hi (hun i),fun _ _=>rfl,fun o i hi=>absurd hi (hun i),fun i j hj=>absurd hj (hun j)⟩ hS0
     (fun p hp=>⟨by have:=hal p hp;omega,fun i _ _ h=>by have:=hal p hp;omega⟩) ?_ fun a' w' g' hS' acr=> ?_
    ·exact eA List.countP_le_length (by simp)
    ·have:S ops.size=s1:=by rw[←h1];simp
     rw[this]at hS';exact hQ s1 a' w' g' e hS' (fun p hp=>by rw[hnext];exact acr p hp)
   ·cases e
end
end Go.Am
