import Derived.Test.YtllhngpojglipaaGreatDoorA7
import Derived.Laws.Sem
import Derived.Calls
import Derived.LoopN
import Derived.Scope
set_option linter.unusedVariables false
set_option linter.unusedSimpArgs false
open Bool renaming and_eq_true→aj,false_eq_true→cp
open List renaming all_eq_true→ei,append_assoc→bn,append_nil→cK,getElem?_append_left→aQ,getElem?_append_right→bh,getElem?_cons_zero→eY,getElem?_eq_getElem→ah,getElem_mem→ak,length_append→ag,mem_append_left→aR,mem_append_right→bo,mem_cons_of_mem→aF,mem_of_getElem?→eu
open Nat renaming add_assoc→fu,add_sub_cancel_left→eZ,beq→bU,blt_eq→fl,eq_of_beq_eq_true→az,le_of_ble_eq_true→eQ,le_refl→aA,lt_of_lt_of_le→ca
open Option renaming bind_some→aa
namespace Go.Am
open Go
section
variable {P:Program} {w0:W0} {w:World} {Z0 Zp:cD} {g G2:G} {X:Cx} {a:Act} {s s':St} {H H2 h h1:bg} {base next n0:Nat}
structure Hand (g:G) (G2:G) (n0:Nat) (ts:List (Option Nat)):Prop where
 tok:∀(i:Nat) (t:Option Nat),ts[i]? =some t→G2.al (n0+i)∧G2.hm (n0+i)=t.bind g.hm∧∀o,t=some o→G2.lo (n0+i)=g.lo o
structure Kept (g:G) (H:bg) (next:Nat) (G2:G) (H2:bg):Prop where
 al:∀o,o<next→g.al o→G2.al o
 ob:∀o,o<next→(look .dead o H).to (look .dead o H2)
 hm:∀o,o<next→G2.hm o=g.hm o
 z:G2.Z=g.Z
 pm:G2.pm=g.pm
theorem Hand.left{ts us:List (Option Nat)}(h:Hand g G2 n0 (ts++us)):Hand g G2 n0 ts:=
 ⟨fun i t hi=>h.tok i t (by rw[aQ (List.getElem?_eq_some_iff.1 hi).1];exact hi)⟩
theorem Hand.right{ts us:List (Option Nat)}(h:Hand g G2 n0 (ts++us)):Hand g G2 (n0+ts.length) us:=
 ⟨fun i t hi=>by
  have:=h.tok (ts.length+i) t (by rw[bh (by omega)];simpa using hi);rw[fu];exact this⟩
def ee(h h1:bg):Prop:=∀o,look .dead o h1=look .dead o h∨look .dead o h1= .dead
theorem ee.refl:ee h h:=fun _=> .inl rfl
theorem ee.trans{h2:bg}(a:ee h h1)(b:ee h1 h2):ee h h2:=fun o=>by
 rcases b o with hb |hb
 ·rcases a o with ha |ha
  ·exact .inl (hb.trans ha)
  ·exact .inr (hb.trans ha)
 ·exact .inr hb
theorem ee.dead{h1:bg}(a:ee h h1){o:Nat}(hd:look .dead o h= .dead):look .dead o h1= .dead:=by
 rcases a o with ha |ha
 ·exact ha.trans hd
 ·exact ha
theorem ee.back{h1:bg}(a:ee h h1){o:Nat}(hd:look .dead o h1≠.dead):look .dead o h=look .dead o h1:=by
 rcases a o with ha |ha
 ·exact ha.symm
 ·exact absurd ha hd
theorem ee.aos(o:Nat):ee h ((o,.dead)::h):=fun p=>by
 rw[aU]
 split
 ·exact .inr rfl
 ·exact .inl rfl
structure gn (h h1:bg) (ts:List (Option Nat)):Prop where
 was:∀o,some o∈ts→look .dead o h≠.dead
 gone:∀o,some o∈ts→look .dead o h1= .dead
 sub:ee h h1
 nodup:(ts.filterMap id).Nodup
theorem gn.nil:gn h h []:=⟨fun _ h=>by simp at h,fun _ h=>by simp at h,ee.refl,by simp⟩
theorem gn.one{o:Nat}(ho:look .dead o h≠.dead):gn h ((o,.dead)::h) [some o]:=
 ⟨fun p hp=>by simp at hp;subst hp;exact ho,fun p hp=>by simp at hp;subst hp;rw[aU,if_pos rfl],ee.aos o,by simp⟩
theorem gn.app{h2:bg}{ts us:List (Option Nat)}(a:gn h h1 ts)(b:gn h1 h2 us):gn h h2 (ts++us):=by
 refine⟨fun o ho=> ?_,fun o ho=> ?_,a.sub.trans b.sub,?_⟩
 ·rcases List.mem_append.1 ho with ho |ho
  ·exact a.was o ho
  ·have:=b.was o ho;rw[←a.sub.back this]at this;exact this
 ·rcases List.mem_append.1 ho with ho |ho
  ·exact b.sub.dead (a.gone o ho)
  ·exact b.gone o ho
 ·rw[List.filterMap_append,List.nodup_append];refine⟨a.nodup,b.nodup,fun x hx y hy hxy=> ?_⟩;subst hxy;exact b.was x (by simpa using hy) (a.gone x (by simpa using hx))
theorem CR.kept(K:Kept g H next G2 H2){c:C}(hb:U5 next c=true){v:Value}(hc:CR w base Zp H g c v):CR w base Zp H2 G2 c v:=by
 cases c<;>simp only[U5,cp]at hb
 case vec o=>
  have ho:o<next:=by simpa[fl]using hb
  obtain⟨h1,h2,h3⟩:=hc;exact⟨K.al o ho h1,h2,fun e n he=>by
   obtain⟨b,h4,h5⟩:=h3 e n ((K.ob o ho).row he);exact⟨b,(K.hm o ho).trans h4,h5⟩⟩
 case ptr o off=>
  have ho:o<next:=by simpa[fl]using hb
  obtain⟨h1,h2,h3⟩:=hc;exact⟨K.al o ho h1,h2,fun he=>by
   obtain⟨b,h4,h5⟩:=h3 ((K.ob o ho).alive he);exact⟨b,(K.hm o ho).trans h4,h5⟩⟩
 case clos f ids=>
  obtain⟨caps,h1,h2⟩:=hc;refine⟨caps,h1,?_⟩;have:∀(ids:List Nat) (vs:List Value),(∀o∈ids,o<next)→dY (fun o es=>g.al o∧∃u,es=[u]∧NF u∧(look .dead o H≠.dead→∃b,g.hm o=some b∧u= .pointer (some ⟨b,0,none⟩))) ids vs→
    dY (fun o es=>G2.al o∧∃u,es=[u]∧NF u∧(look .dead o H2≠.dead→∃b,G2.hm o=some b∧u= .pointer (some ⟨b,0,none⟩))) ids vs:=by
   intro ids
   induction ids with
   |nil=>intro vs _ h;exact h
   |cons o ids ih=>
    intro vs hlt ⟨es,rest,e,⟨h1,u,h2,h3,h4⟩,h5⟩;have ho:=hlt o (by simp);exact⟨es,rest,e,⟨K.al o ho h1,u,h2,h3,fun he=>by
     obtain⟨b,h6,h7⟩:=h4 ((K.ob o ho).alive he);exact⟨b,(K.hm o ho).trans h6,h7⟩⟩,ih rest (fun p hp=>hlt p (by simp[hp])) h5⟩
  exact this ids _ (fun o ho=>by
   simp only[ei]at hb;simpa[fl]using hb o ho) h2
 case nilfn=>exact hc
 case nilp=>exact hc
 case mp o=>
  have ho:o<next:=by simpa[U5,fl]using hb
  obtain⟨h1,h2,h3⟩:=hc;exact⟨K.al o ho h1,h2,fun hd=>by
   obtain⟨b,h4,h5⟩:=h3 ((K.ob o ho).alive hd);exact⟨b,(K.hm o ho).trans h4,h5⟩⟩
theorem alP{c d:C}(h:apW c d=true):c=d:=by
 cases c<;>cases d<;>simp only[apW,cp,aj]at h
 case vec.vec=>rw[az h]
 case ptr.ptr=>rw[az h.1,az h.2]
 case clos.clos=>rw[az h.1,eq_of_beq h.2]
 case nilfn.nilfn=>rfl
 case nilp.nilp=>rfl
 case mp.mp=>rw[az h]
theorem aot{a:A}(h:ai0 next a=true):∃c,a= .v false [c]∧U5 next c=true:=by
 unfold ai0 at h
 split at h
 ·exact⟨_,rfl,h⟩
 ·cases h
theorem asZ{a b:A}(h:apX a b=true):a=b:=by
 unfold apX at h
 split at h
 ·rw[alP h]
 ·cases h
def lP(h:bg)(ts:List (Option Nat)):Prop:=∀o,some o∈ts→look .dead o h= .tok
theorem lP.nil:lP h []:=fun _ h=>by simp at h
theorem lP.app{ts us:List (Option Nat)}(a:lP h ts)(b:lP h1 us)(d:ee h h1):lP h (ts++us):=fun o ho=>by
 rcases List.mem_append.1 ho with ho |ho
 ·exact a o ho
 ·have:=b o ho;rw[d.back (by rw[this];simp)];exact this
theorem alQ(hsub:ee H h){e:Ty}{c:C}{l:List e.den}{v:Value}(hc:CR w base Zp H g c v)(ho:alg e c h=some (l,h1)):
  ∃t:Option Nat,gn h h1 [t]∧lP h [t]∧∀H2 G2 n0,Hand g G2 n0 [t]→G2.Z=g.Z→CR w base Zp H2 G2 (.sl e l (.own n0)) v:=by
 unfold alg at ho
 split at ho
 ·cases ho;simp only[CR]at hc;subst hc;refine⟨none,⟨fun o h=>by simp at h,fun o h=>by simp at h,ee.refl,by simp⟩,fun o h=>by simp at h,fun H2 G2 n0 hh hz=> ?_⟩;obtain⟨h2,h3,_⟩:=hh.tok 0 none rfl;exact⟨⟨none,0,[],rfl,aA _,rfl,fun h=>absurd rfl h⟩,h2,fun _=> .inl ⟨h3,rfl,rfl⟩⟩
 ·rename_i e' l' o
  split at ho
  ·rename_i afZ
   split at ho
   ·rename_i l2 sQ;obtain⟨he,hl3⟩:=oE sQ;subst he;subst hl3
    cases ho;refine⟨some o,gn.one (by rw[afZ];simp),fun p hp=>by simp at hp;subst hp;exact afZ,fun H2 G2 n0 hh hz=> ?_⟩;obtain⟨h3,h4,h5⟩:=hh.tok 0 (some o) rfl;obtain⟨hp,hal,ht⟩:=hc;refine⟨?_,h3,fun _=> ?_⟩
    ·rw[hz];exact hp
    ·rcases ht ((hsub.back (by rw[afZ];simp)).trans afZ)with⟨a1,a2,a3⟩|⟨b,cap,cur,e0,a1,a2,a3,a4,a5,a6,a7,a8⟩
     ·exact .inl ⟨by rw[←Nat.add_zero n0,h4];exact a1,a2,a3⟩
     ·exact .inr ⟨b,cap,cur,e0,by rw[←Nat.add_zero n0,h4];exact a1,a2,a3,a4,a5,a6,a7,by rw[←Nat.add_zero n0,h5 o rfl];exact a8⟩
   ·cases ho
  ·cases ho
 ·cases ho
theorem AR.list{agg:Bool}{cs:List C}{v:Value}{τ:Ty}{x:τ.den}(hg:agg=τ.isAgg)(hh:AR w base Zp H g (.v agg cs) v)(Zb:τ.cI=true)(hx:τ.dG cs=some x)(hz:G2.Z=g.Z):AR w base Zp H2 G2 (.v τ.isAgg (τ.cells x)) v:=by
 obtain⟨vs,h1,h2,h3⟩:=VR.list hh;have hp:=eM Zb h1 hx;rw[←hz]at hp;have:=dT.uZ (base:=base) (h:=H2) (g:=G2) τ x vs hp;rw[←hg]
 cases agg with
 |true=>exact⟨vs,h2 rfl,this⟩
 |false=>rw[h3 rfl]at this;exact this
theorem as0(hsub:ee H h){k:CK}{c:C}{x:k.den}{v:Value}(hb:CR w base Zp H g c v)(ho:axv next k c h=some (x,h1)):
  ∃ts:List (Option Nat),gn h h1 ts∧lP h ts∧(∀n0,(axx k x n0).2=n0+ts.length)∧∀H2 G2 n0,Hand g G2 n0 ts→Kept g H next G2 H2→dT w base Zp H2 G2 (axx k x n0).1 [v]:=by
 unfold axv at ho
 split at ho
 ·rename_i τ
  split at ho
  ·rename_i hc;simp only[aj]at hc
   split at ho
   ·rename_i y hy
    cases ho;refine⟨[],gn.nil,lP.nil,fun _=>rfl,fun H2 G2 n0 _ hk=> ?_⟩;have hcs:dT w base Zp H g [c] [v]:=⟨v,[],rfl,hb,rfl⟩;have hp:=eM hc.2 hcs hy;rw[←hk.z]at hp;exact dT.uZ τ _ [v] hp
   ·cases ho
  ·cases ho
 ·rename_i e;obtain⟨t,h2,h3,h4⟩:=alQ hsub hb ho;exact⟨[t],h2,h3,fun _=>rfl,fun H2 G2 n0 hh hk=>⟨v,[],rfl,h4 H2 G2 n0 hh hk.z,rfl⟩⟩
 ·rename_i d
  split at ho
  ·rename_i hc;simp only[aj]at hc
   cases ho;have:=alP hc.1;subst this;exact⟨[],gn.nil,lP.nil,fun _=>rfl,fun H2 G2 n0 _ hk=>⟨v,[],rfl,CR.kept hk hc.2 hb,rfl⟩⟩
  ·cases ho
theorem Vj:∀(ks:List CK) (cs:List C) (vs:List Value) (h h1:bg) (x:U4 ks),ee H h→dT w base Zp H g cs vs→Xz next ks cs h=some (x,h1)→
  ∃ts:List (Option Nat),gn h h1 ts∧lP h ts∧(∀n0,(JX ks x n0).2=n0+ts.length)∧∀H2 G2 n0,Hand g G2 n0 ts→Kept g H next G2 H2→dT w base Zp H2 G2 (JX ks x n0).1 vs
 |[],cs,vs,h,h1,x,hsub,hc,ho=>by
  cases cs with
  |nil=>cases ho;exact⟨[],gn.nil,lP.nil,fun _=>rfl,fun _ _ _ _ _=>hc⟩
  |cons _ _=>cases ho
 |k::ks,cs,vs,h,h1,x,hsub,hc,ho=>by
  cases cs with
  |nil=>cases ho
  |cons c cs=>
   obtain⟨v,rest,rfl,YZ,Nf⟩:=hc;simp only[Xz]at ho
   split at ho
   ·rename_i y h2 hy
    split at ho
    ·rename_i z h3 hz
     cases ho;obtain⟨ts,a1,a2,a3,a4⟩:=as0 hsub YZ hy;obtain⟨us,b1,b2,b3,b4⟩:=Vj ks cs rest h2 _ z (hsub.trans a1.sub) Nf hz;refine⟨ts++us,a1.app b1,a2.app b2 a1.sub,fun n0=>by simp only[JX,b3,a3,ag];omega,fun H2 G2 n0 hh hk=> ?_⟩;simp only[JX];rw[a3 n0];exact dT.append _ _ [v] rest (a4 H2 G2 n0 hh.left hk) (b4 H2 G2 _ hh.right hk)
    ·cases ho
   ·cases ho
theorem aq9{τ:Ty}{gg:Bool}{cs:List C}:alh next (.data τ) (.v gg cs) h=(match gg==τ.isAgg&&τ.cI with
 |true=>match τ.dG cs with
  |some x=>some (x,h)
  |none=>none
 |false=>none):=rfl
theorem as1{e:Ty}{c:C}:alh next (.own e) (.v false [c]) h=alg e c h:=rfl
theorem as3{a0 b:A}:alh next (.fix a0) b h=(match apX a0 b&&ai0 next a0 with
 |true=>some ((),h)
 |false=>none):=rfl
theorem as4{ks:List CK}{o off:Nat}:alh next (.box ks) (.v false [.ptr o off]) h=(match bU off 0,look .dead o h with
 |true,.cells cs=>Xz next ks cs ((o,.dead)::h)
 |_,_=>none):=rfl
theorem CR.aAh{G2:G}{H2:bg}{a:Ty}{x:a.den}{c:Nat}{v:Value}(hz:G2.Z=g.Z)(hh:CR w base Zp H g (.JR a x c) v):CR w base Zp H2 G2 (.JR a x c) v:=by
 obtain⟨b,off,us,e,hp,hu⟩:=hh;refine⟨b,off,us,e,?_,fun j u hj=> ?_⟩
 ·rw[hz];exact hp
 ·rw[hz];exact hu j u hj
theorem as5{a a':Ty}{x:a'.den}{c:Nat}:alh next (.ref a) (.v false [.JR a' x c]) h=(match bU c 0,sT a' a x with
 |true,some x=>some (x,h)
 |_,_=>none):=rfl
theorem CR.ax7{G2:G}{H2:bg}{f:FuncId}{a:Ty}{x:a.den}{v:Value}(hz:G2.Z=g.Z)(hh:CR w base Zp H g (.E4 f a x) v):CR w base Zp H2 G2 (.E4 f a x) v:=by
 obtain⟨caps,e,hp⟩:=hh;refine⟨caps,e,?_⟩;rw[hz];exact hp
theorem avg{f f':FuncId}{a a':Ty}{x:a'.den}:alh next (.cl f a) (.v false [.E4 f' a' x]) h=(match bU f f',sT a' a x with
 |true,some x=>some (x,h)
 |_,_=>none):=rfl
theorem as6(hsub:ee H h)(od:∀o,QZ w base Zp H g o (look .dead o H)){k:SK}{b:A}{x:k.den}{v:Value}(hb:AR w base Zp H g b v)(ho:alh next k b h=some (x,h1)):
  ∃ts:List (Option Nat),gn h h1 ts∧(∀n0,(aqL k x n0).2=n0+ts.length)∧
   (∀n0 p,look .dead p (Ae k x n0)≠.dead→n0≤p∧∃q cs cs',ts[p -n0]? =some (some q)∧look .dead q h= .cells cs∧look .dead p (Ae k x n0)= .cells cs')∧
   (∀n0 i q,ts[i]? =some (some q)→look .dead (n0+i) (Ae k x n0)= .dead→look .dead q h= .tok)∧
   ∀H2 G2 n0,Hand g G2 n0 ts→Kept g H next G2 H2→AR w base Zp H2 G2 (aqL k x n0).1 v∧∀p,QZ w base Zp H2 G2 p (look .dead p (Ae k x n0)):=by
 cases k with
 |data τ=>
  cases b with
  |lO _=>cases ho
  |v gg cs=>
   rw[aq9]at ho
   split at ho
   ·rename_i hc;rw[aj]at hc
    split at ho
    ·rename_i y hy
     cases ho;exact⟨[],gn.nil,fun _=>rfl,fun _ _ hh=>absurd rfl hh,fun _ _ _ hh _=>by simp at hh,fun H2 G2 n0 _ hk=>⟨AR.list (toBeq hc.1) hb hc.2 hy hk.z,fun _=>trivial⟩⟩
    ·cases ho
   ·cases ho
 |vt V=>
  cases b with
  |lO _=>cases ho
  |v gg cs=>
   have ho:(match gg==V.isAgg&&V.ok with
    |true=>match V.dG cs with
     |some x=>some (x,h)
     |none=>none
    |false=>none)=some (x,h1):=ho
   split at ho
   ·rename_i hc;rw[aj]at hc
    split at ho
    ·rename_i y hy
     cases ho;refine⟨[],gn.nil,fun _=>rfl,fun _ _ hh=>absurd rfl hh,fun _ _ _ hh _=>by simp at hh,fun H2 G2 n0 _ hk=>⟨?_,fun _=>trivial⟩⟩;obtain⟨vs,h1,h2,h3⟩:=VR.list hb;have wi:=VT.xp (w':=w) (base':=base) (NE:=Zp) (h':=H2) (g':=G2) (fun b i hb=>⟨hk.z▸hb,rfl⟩) (fun c id e he=>hk.pm▸he) V _ vs hc.2 (VT.sB hc.2 h1 hy);have hgg:=toBeq hc.1;show VR w base Zp H2 G2 V.isAgg (V.cells _) v;rw[←hgg]
     cases gg with
     |true=>exact⟨vs,h2 rfl,wi⟩
     |false=>rw[h3 rfl]at wi;exact wi
    ·cases ho
   ·cases ho
 |own e=>
  rcases b with⟨gg,cs⟩|ps
  ·rcases gg with _ |_
   ·rcases cs with _ |⟨c,_ |⟨c2,cs⟩⟩
    ·cases ho
    ·rw[as1]at ho;obtain⟨t,h2,h3,h4⟩:=alQ hsub hb.c ho;exact⟨[t],h2,fun _=>rfl,fun _ _ hh=>absurd rfl hh,fun _ _ q hh _=>h3 q (eu hh),fun H2 G2 n0 hh hk=>⟨AR.rg (h4 H2 G2 n0 hh hk.z),fun _=>trivial⟩⟩
    ·cases ho
   ·cases ho
  ·cases ho
 |fix a0=>
  rw[as3]at ho
  split at ho
  ·rename_i hc;rw[aj]at hc
   cases ho;have:=asZ hc.1;subst this;obtain⟨c,rfl,hbc⟩:=aot hc.2;exact⟨[],gn.nil,fun _=>rfl,fun _ _ hh=>absurd rfl hh,fun _ _ _ hh _=>by simp at hh,fun H2 G2 n0 _ hk=>⟨AR.rg (CR.kept hk hbc hb.c),fun _=>trivial⟩⟩
  ·cases ho
 |cl f e=>
  have hf:∃f' a' y,b= .v false [.E4 f' a' y]:=by
   rcases b with⟨gg,cs⟩|ps
   ·rcases gg with _ |_
    ·rcases cs with _ |⟨c,_ |⟨c2,cs⟩⟩
     ·cases ho
     ·cases c<;>first |cases ho |exact⟨_,_,_,rfl⟩
     ·cases c<;>cases ho
    ·cases ho
   ·cases ho
  obtain⟨f',a',y,rfl⟩:=hf;rw[avg]at ho
  cases hc0:bU f f' with
  |false=>rw[hc0]at ho;cases ho
  |true=>
   rw[hc0]at ho;have hc0:=az hc0;subst hc0
   cases hx:sT a' e y with
   |none=>rw[hx]at ho;cases ho
   |some z=>
    rw[hx]at ho
    cases ho;obtain⟨rfl,hyz⟩:=PL hx
    cases hyz;exact⟨[],gn.nil,fun _=>rfl,fun _ _ hh=>absurd rfl hh,fun _ _ _ hh _=>by simp at hh,fun H2 G2 n0 _ hk=>⟨AR.rg (CR.ax7 hk.z hb.c),fun _=>trivial⟩⟩
 |ref e=>
  have hf:∃a' y c,b= .v false [.JR a' y c]:=by
   rcases b with⟨gg,cs⟩|ps
   ·rcases gg with _ |_
    ·rcases cs with _ |⟨c,_ |⟨c2,cs⟩⟩
     ·cases ho
     ·cases c<;>first |cases ho |exact⟨_,_,_,rfl⟩
     ·cases c<;>cases ho
    ·cases ho
   ·cases ho
  obtain⟨a',y,c,rfl⟩:=hf;rw[as5]at ho
  cases hc0:bU c 0 with
  |false=>rw[hc0]at ho;cases ho
  |true=>
   rw[hc0]at ho;have hc0:=az hc0;subst hc0
   cases hx:sT a' e y with
   |none=>rw[hx]at ho;cases ho
   |some z=>
    rw[hx]at ho
    cases ho;obtain⟨rfl,hyz⟩:=PL hx
    cases hyz;exact⟨[],gn.nil,fun _=>rfl,fun _ _ hh=>absurd rfl hh,fun _ _ _ hh _=>by simp at hh,fun H2 G2 n0 _ hk=>⟨AR.rg (CR.aAh hk.z hb.c),fun _=>trivial⟩⟩
 |box ks=>
  have hf:∃o off,b= .v false [.ptr o off]:=by
   rcases b with⟨gg,cs⟩|ps
   ·rcases gg with _ |_
    ·rcases cs with _ |⟨c,_ |⟨c2,cs⟩⟩
     ·cases ho
     ·cases c<;>first |cases ho |exact⟨_,_,rfl⟩
     ·cases c<;>cases ho
    ·cases ho
   ·cases ho
  obtain⟨o,off,rfl⟩:=hf;rw[as4]at ho
  cases hoff:bU off 0 with
  |false=>rw[hoff]at ho;cases ho
  |true=>
   rw[hoff]at ho;obtain⟨cs,hcs⟩:∃cs,look .dead o h= .cells cs:=by
    cases hl:look Ob.dead o h with
    |cells cs=>exact⟨cs,rfl⟩
    |_=>rw[hl]at ho;cases ho
   rw[hcs]at ho;replace ho:Xz next ks cs ((o,.dead)::h)=some (x,h1):=ho
   have hoff:=az hoff;subst hoff;have hne:look .dead o h≠.dead:=by rw[hcs];simp
   have hH:look .dead o H= .cells cs:=(hsub.back hne).trans hcs;obtain⟨hal,hpt,hd⟩:=hb.c;obtain⟨bb,hb1,hv⟩:=hd (by rw[hH];simp);have avh:=od o;rw[hH]at avh;obtain⟨b',cur,e0,hb',er,hcr⟩:=avh;obtain⟨us,c1,c2,c3,c4⟩:=Vj ks cs cur.toList _ h1 x (hsub.trans (ee.aos o)) hcr ho;have hlk:∀n0 p,look .dead p (Ae (.box ks) x n0)=if n0=p then .cells (JX ks x (n0+1)).1 else .dead:=fun n0 p=>by
    show look Ob.dead p [(n0,Ob.cells (JX ks x (n0+1)).1)]=_;rw[aU];rfl
   refine⟨some o::us,(gn.one hne).app c1,fun n0=> ?_,fun n0 p hp=> ?_,fun n0 i q hi hd=> ?_,fun H2 G2 n0 hh hk=>⟨AR.rg ?_,fun p=> ?_⟩⟩
   ·show(JX ks x (n0+1)).2=_;rw[c3];simp;omega
   ·rw[hlk]at hp ⊢
    by_cases hp0:n0=p
    ·subst hp0;exact⟨aA _,o,cs,_,by simp,hcs,if_pos rfl⟩
    ·rw[if_neg hp0]at hp;exact absurd rfl hp
   ·cases i with
    |zero=>have:=(hlk n0 (n0+0)).symm.trans hd;simp at this
    |succ i=>
     have:=c2 q (eu (by simpa using hi:us[i]? =some (some q)));rw[(ee.aos o).back (by rw[this];simp)];exact this
   ·obtain⟨k1,k2,k3⟩:=hh.tok 0 (some o) rfl;exact⟨k1,hpt,fun _=>⟨bb,k2.trans hb1,hv⟩⟩
   ·rw[hlk]
    split
    ·rename_i hp0;subst hp0;obtain⟨k1,k2,k3⟩:=hh.tok 0 (some o) rfl;refine⟨b',cur,e0,k2.trans hb',er,c4 H2 G2 (n0+1) ?_ hk⟩;exact Hand.right (ts:=[some o]) hh
    ·trivial
end
noncomputable local instance aCa (x:Ob):Decidable (x= .dead):=Classical.propDecidable _
section
variable {P:Program} {w0:W0} {w:World} {Z0 Zp:cD} {g G2:G} {X:Cx} {a:Act} {s s':St} {H H2 h h1:bg} {base next n0:Nat}
def sE(E:bg):Prop:=∀p T,look .dead p (E++T)=if look .dead p E= .dead then look .dead p T else look .dead p E
theorem sE.nil:sE []:=fun _ _=>(if_pos rfl).symm
theorem sE.cons{E:bg}{o:Nat}{y:Ob}(hy:y≠.dead)(h:sE E):sE ((o,y)::E):=fun p T=>by
 show look .dead p ((o,y)::(E++T))=_;rw[aU,aU]
 by_cases ho:o=p
 ·rw[if_pos ho,if_pos ho,if_neg hy]
 ·rw[if_neg ho,if_neg ho];exact h p T
theorem sE.Ae(k:SK)(x:k.den)(n0:Nat):sE (Ae k x n0):=by
 cases k with
 |box ks=>exact sE.cons (by simp) sE.nil
 |_=>exact sE.nil
theorem sE.app{E F:bg}(h:sE E)(k:sE F):sE (E++F):=fun p T=>by
 rw[bn,h,h,k]
 by_cases h1:look .dead p E= .dead
 ·rw[if_pos h1,if_pos h1]
 ·rw[if_neg h1,if_neg h1,if_neg h1]
theorem as7(hsub:ee H h){k:OK}{o:Nat}{y:Ob}{x:k.den}(hb:QZ w base Zp H g o y)(ho:axw next k y h=some (x,h1)):
  ∃ts:List (Option Nat),gn h h1 ts∧lP h ts∧(∀n0,(za k x n0).2=n0+ts.length)∧
   (∀n0,y.to (za k x n0).1∧(za k x n0).1.open? =y.open? ∧(za k x n0).1≠.tok∧(za k x n0).1≠.dead∧y≠.dead∧y≠.tok∧∀wr K H',(za k x n0).1= .gh wr K H'→y= .gh wr K H')∧
   ∀H2 G2 n0,Hand g G2 n0 ts→Kept g H next G2 H2→G2.hm o=g.hm o→QZ w base Zp H2 G2 o (za k x n0).1:=by
 cases k with
 |row e=>
  cases y with
  |row e' l=>
   have hq:(match rY e' e l with |some l=>some (l,h)|none=>none)=some (x,h1):=ho
   cases sQ:rY e' e l with
   |none=>rw[sQ]at hq;cases hq
   |some l2=>
    rw[sQ]at hq;obtain⟨he,hl3⟩:=oE sQ;subst he;subst hl3;clear ho
    cases hq;refine⟨[],gn.nil,lP.nil,fun _=>rfl,fun _=>⟨Ob.to.refl _,rfl,by simp[za],by simp[za],by simp,by simp,fun _ _ _ h=>by cases h⟩,fun H2 G2 n0 _ hk hm=> ?_⟩;obtain⟨h2,h3,b,cur,e0,h4,h5,h6⟩:=hb;exact⟨h2,h3,b,cur,e0,hm.trans h4,h5,by rw[hk.z];exact h6⟩
  |_=>cases ho
 |x4 e=>
  cases y with
  |x4 e' l=>
   have hq:(match rY e' e l with |some l=>some (l,h)|none=>none)=some (x,h1):=ho
   cases sQ:rY e' e l with
   |none=>rw[sQ]at hq;cases hq
   |some l2=>
    rw[sQ]at hq;obtain⟨he,hl3⟩:=oE sQ;subst he;subst hl3;clear ho
    cases hq;refine⟨[],gn.nil,lP.nil,fun _=>rfl,fun _=>⟨Ob.to.refl _,rfl,by simp[za],by simp[za],by simp,by simp,fun _ _ _ h=>by cases h⟩,fun H2 G2 n0 _ hk hm=> ?_⟩;obtain⟨h2,h3,b,cur,e0,fz,h4,h5,h6,h7⟩:=hb;exact⟨h2,h3,b,cur,e0,fz,hm.trans h4,h5,by rw[hk.z];exact h6,by rw[hk.z];exact h7⟩
  |_=>cases ho
 |cells ks=>
  cases y with
  |cells cs=>
   have ho:Xz next ks cs h=some (x,h1):=ho
   obtain⟨b,cur,e0,h4,h5,h6⟩:=hb;obtain⟨ts,a1,a2,a3,a4⟩:=Vj ks cs cur.toList h h1 x hsub h6 ho;refine⟨ts,a1,a2,a3,fun _=>⟨.inr (.inr (.inl ⟨_,_,rfl,rfl⟩)),rfl,by simp[za],by simp[za],by simp,by simp,fun _ _ _ h=>by cases h⟩,fun H2 G2 n0 hh hk hm=> ?_⟩;exact⟨b,cur,e0,hm.trans h4,h5,a4 H2 G2 n0 hh hk⟩
  |_=>cases ho
 |map k v=>
  cases y with
  |map k' v' l=>
   have hq:(match GN k' v' k v l with |some l=>some (l,h)|none=>none)=some (x,h1):=ho
   cases sQ:GN k' v' k v l with
   |none=>rw[sQ]at hq;cases hq
   |some l2=>
    rw[sQ]at hq;obtain⟨hk',hv',hl3⟩:=PJ sQ;subst hk' hv';have hl3:l2=l:=hl3;subst hl3;clear ho
    cases hq;refine⟨[],gn.nil,lP.nil,fun _=>rfl,fun _=>⟨Ob.to.refl _,rfl,by simp[za],by simp[za],by simp,by simp,fun _ _ _ h=>by cases h⟩,fun H2 G2 n0 _ hk hm=> ?_⟩;obtain⟨h2,h3,h4,b,es,clock,h5,h6,h7⟩:=hb;exact⟨h2,h3,h4,b,es,clock,hm.trans h5,h6,h7⟩
  |_=>cases ho
 |gh wr K=>
  cases y with
  |gh wr' K' H0=>
   have hq:(match wr==wr',pu K' K H0 with |true,some H=>some (H,h)|_,_=>none)=some (x,h1):=ho;clear ho
   split at hq
   ·rename_i H2 hw hH;have hw:=toBeq hw;subst hw;obtain⟨hK,rfl⟩:=kd hH;subst hK
    cases hq;refine⟨[],gn.nil,lP.nil,fun _=>rfl,fun _=>⟨Ob.to.refl _,rfl,by simp[za],by simp[za],by simp,by simp,fun _ _ _ h=>h⟩,fun H2 G2 n0 _ hk hm=> ?_⟩;exact hm.trans hb
   ·cases hq
  |_=>cases ho
 |obj τ=>
  cases y with
  |cells cs=>
   have hq:(match τ.cI with |true=>(match τ.dG cs with |some x=>some (x,h)|none=>none)|false=>none)=some (x,h1):=ho;clear ho
   split at hq
   ·rename_i Zb
    split at hq
    ·rename_i x' hx
     cases hq;obtain⟨b,cur,e0,h4,h5,h6⟩:=hb;refine⟨[],gn.nil,lP.nil,fun _=>rfl,fun _=>⟨.inr (.inr (.inl ⟨_,_,rfl,rfl⟩)),rfl,by simp[za],by simp[za],by simp,by simp,fun _ _ _ h=>by cases h⟩,fun H2 G2 n0 _ hk hm=>⟨b,cur,e0,hm.trans h4,h5,?_⟩⟩;have hp:=eM Zb h6 hx;rw[←hk.z]at hp;exact dT.uZ τ _ _ hp
    ·cases hq
   ·cases hq
  |_=>cases ho
structure aou (H h:bg) (next:Nat) (ts:List (Option Nat)) (E:bg) (p:Nat):Prop where
 lt:p<next
 to:(look .dead p H).to (look .dead p E)
 opn:(look .dead p E).open? =(look .dead p H).open?
 aGZ:look .dead p E≠.tok
 was:look .dead p h≠.dead
 out:some p∉ts
 gh:∀wr K H',look .dead p E= .gh wr K H'→look .dead p H= .gh wr K H'
theorem acJ(od:∀o,QZ w base Zp H g o (look .dead o H)):∀(l:List (Nat×OK)) (h h1:bg) (x:acb l),ee H h→ai1 next l h=some (x,h1)→
  ∃ts:List (Option Nat),gn h h1 ts∧lP h ts∧(∀n0,(Af l x n0).2=n0+ts.length)∧
   (∀n0,sE (Af l x n0).1)∧
   (∀n0 o,look .dead o (Af l x n0).1≠.dead→aou H h next ts (Af l x n0).1 o)∧
   ∀H2 G2 n0,Hand g G2 n0 ts→Kept g H next G2 H2→∀o,QZ w base Zp H2 G2 o (look .dead o (Af l x n0).1)
 |[],h,h1,x,hsub,ho=>by
  cases ho;exact⟨[],gn.nil,lP.nil,fun _=>rfl,fun _=>sE.nil,fun _ _ hh=>absurd rfl hh,fun _ _ _ _ _ _=>trivial⟩
 |(o,k)::r,h,h1,x,hsub,ho=>by
  have ho:(match Nat.blt o next with
   |false=>none
   |true=>match axw next k (look .dead o h) h with
    |some (x,h)=>match ai1 next r h with
     |some (y,h)=>some ((x,y),h)
     |none=>none
    |none=>none)=some (x,h1):=ho
  split at ho
  ·cases ho
  ·rename_i hlt;have hlt:o<next:=by simpa[fl]using hlt
   split at ho
   ·rename_i y h2 hy
    split at ho
    ·rename_i z h3 hz
     cases ho;have avh:QZ w base Zp H g o (look .dead o h):=by
      rcases hsub o with h |h
      ·rw[h];exact od o
      ·rw[h];trivial
     obtain⟨ts,a1,a2,a3,a4,a5⟩:=as7 hsub avh hy;obtain⟨us,b1,b2,b3,b6,b4,b5⟩:=acJ od r h2 _ z (hsub.trans a1.sub) hz;have Ie:∀n0 p,look .dead p (Af ((o,k)::r) (y,z) n0).1=if o=p then(za k y n0).1 else look .dead p (Af r z (n0+ts.length)).1:=fun n0 p=>by
      show look .dead p ((o,(za k y n0).1)::(Af r z (za k y n0).2).1)=_;rw[aU,a3]
     have afZ:lP h (ts++us):=a2.app b2 a1.sub;refine⟨ts++us,a1.app b1,afZ,fun n0=> ?_,fun n0=> ?_,fun n0 p hp=> ?_,fun H2 G2 n0 hh hk p=> ?_⟩
     ·show(Af r z (za k y n0).2).2=_;rw[b3,a3,ag];omega
     ·exact sE.cons (a4 n0).2.2.2.1 (b6 _)
     ·by_cases he:o=p
      ·subst he;obtain⟨c1,c2,c3,c4,c5,c6,c7⟩:=a4 n0;have hl:=Ie n0 o;rw[if_pos rfl]at hl;have hH:=hsub.back c5;exact⟨hlt,by rw[hl,hH];exact c1,by rw[hl,hH];exact c2,by rw[hl];exact c3,c5,fun hm=>c6 (afZ o hm),fun wr K H' hx=>by rw[hl]at hx;rw[hH];exact c7 wr K H' hx⟩
      ·have hl:=Ie n0 p;rw[if_neg he]at hl;rw[hl]at hp;obtain⟨d1,d2,d3,d4,d5,d6,d7⟩:=b4 _ p hp;refine⟨d1,by rw[hl];exact d2,by rw[hl];exact d3,by rw[hl];exact d4,?_,fun hm=> ?_,fun wr K H' hx=>d7 wr K H' (hl▸hx)⟩
       ·rw[a1.sub.back d5];exact d5
       ·rcases List.mem_append.1 hm with hm |hm
        ·exact d5 (a1.gone p hm)
        ·exact d6 hm
     ·rw[Ie]
      split
      ·rename_i he;subst he;exact a5 H2 G2 n0 hh.left hk (hk.hm _ hlt)
      ·exact b5 H2 G2 _ hh.right hk p
    ·cases ho
   ·cases ho
theorem Rg(od:∀o,QZ w base Zp H g o (look .dead o H)){env:Env}{val:Nat→Value}(p7:∀t,AR w base Zp H g (look aJ t env) (val t))(obs:List (Nat×OK)):
  ∀(l:List (Nat×SK)) (h h1:bg) (x:JW l obs),ee H h→QY next env l obs h=some (x,h1)→
  ∃ts:List (Option Nat),gn h h1 ts∧(∀n0,(gV l obs x n0).2.2=n0+ts.length)∧
   (∀n0,sE (gV l obs x n0).2.1)∧
   (∀n0 p,look .dead p (gV l obs x n0).2.1≠.dead→aou H h next ts (gV l obs x n0).2.1 p∨
    (n0≤p∧∃q cs cs',ts[p -n0]? =some (some q)∧look .dead q h= .cells cs∧look .dead p (gV l obs x n0).2.1= .cells cs'))∧
   (∀n0 i q,ts[i]? =some (some q)→look .dead (n0+i) (gV l obs x n0).2.1= .dead→look .dead q h= .tok)∧
   ∀H2 G2 n0,Hand g G2 n0 ts→Kept g H next G2 H2→(∀o,QZ w base Zp H2 G2 o (look .dead o (gV l obs x n0).2.1))∧∀t,AR w base Zp H2 G2 (look aJ t (gV l obs x n0).1) (val t)
 |[],h,h1,x,hsub,ho=>by
  obtain⟨ts,a1,a2,a3,a6,a4,a5⟩:=acJ od obs h h1 x hsub ho;exact⟨ts,a1,a3,a6,fun n0 p hp=> .inl (a4 n0 p hp),fun n0 i q hi _=>a2 q (eu hi),fun H2 G2 n0 hh hk=>⟨a5 H2 G2 n0 hh hk,fun t=>⟨val t,[],rfl,trivial,rfl⟩⟩⟩
 |(t,k)::r,h,h1,x,hsub,ho=>by
  unfold QY at ho
  split at ho
  ·rename_i y h2 hy
   split at ho
   ·rename_i z h3 hz
    cases ho;obtain⟨ts,a1,a3,k1,k2,a4⟩:=as6 hsub od (p7 t) hy;obtain⟨us,b1,b3,b6,b4,b7,b5⟩:=Rg od p7 obs r h2 _ z (hsub.trans a1.sub) hz;have hE:∀n0,(gV ((t,k)::r) obs (y,z) n0).2.1=Ae k y n0++(gV r obs z (n0+ts.length)).2.1:=fun n0=>by
     rw[←a3];rfl
    have Ie:∀n0 p,look .dead p (gV ((t,k)::r) obs (y,z) n0).2.1=if look .dead p (Ae k y n0)= .dead then look .dead p (gV r obs z (n0+ts.length)).2.1 else look .dead p (Ae k y n0):=fun n0 p=>by
     rw[hE,sE.Ae k y n0]
    refine⟨ts++us,a1.app b1,fun n0=> ?_,fun n0=> ?_,fun n0 p hp=> ?_,fun n0 i q hi hd=> ?_,fun H2 G2 n0 hh hk=>⟨fun p=> ?_,fun p=> ?_⟩⟩
    ·show(gV r obs z (aqL k y n0).2).2.2=_;rw[b3,a3,ag];omega
    ·rw[hE];exact(sE.Ae k y n0).app (b6 _)
    ·by_cases hs:look .dead p (Ae k y n0)= .dead
     ·have hl:=Ie n0 p;rw[if_pos hs]at hl;rw[hl]at hp;rcases b4 _ p hp with⟨d1,d2,d3,d4,d5,d6,d7⟩|⟨d1,q,cs,cs',d2,d3,d4⟩
      ·refine .inl ⟨d1,by rw[hl];exact d2,by rw[hl];exact d3,by rw[hl];exact d4,?_,fun hm=> ?_,fun wr K H' hx=>d7 wr K H' (hl▸hx)⟩
       ·rw[a1.sub.back d5];exact d5
       ·rcases List.mem_append.1 hm with hm |hm
        ·exact d5 (a1.gone p hm)
        ·exact d6 hm
      ·refine .inr ⟨by omega,q,cs,cs',?_,?_,by rw[hl];exact d4⟩
       ·rw[bh (by omega),←d2];congr 1;omega
       ·rw[a1.sub.back (by rw[d3];simp)];exact d3
     ·have hl:=Ie n0 p;rw[if_neg hs]at hl;obtain⟨d1,q,cs,cs',d2,d3,d4⟩:=k1 n0 p hs;refine .inr ⟨d1,q,cs,cs',?_,d3,by rw[hl];exact d4⟩;rw[aQ (List.getElem?_eq_some_iff.1 d2).1];exact d2
    ·have hl:=Ie n0 (n0+i);rw[hd]at hl
     by_cases hs:look .dead (n0+i) (Ae k y n0)= .dead
     ·rw[if_pos hs]at hl
      by_cases hi2:i<ts.length
      ·rw[aQ hi2]at hi;exact k2 n0 i q hi hs
      ·rw[bh (by omega)]at hi;have:=b7 (n0+ts.length) (i -ts.length) q hi (by rw[show n0+ts.length+(i -ts.length)=n0+i by omega];exact hl.symm);rw[a1.sub.back (by rw[this];simp)];exact this
     ·rw[if_neg hs]at hl;exact absurd hl.symm hs
    ·rw[Ie]
     split
     ·exact(b5 H2 G2 _ hh.right hk).1 p
     ·exact(a4 H2 G2 n0 hh.left hk).2 p
    ·show AR w base Zp H2 G2 (look aJ p ((t,(aqL k y n0).1)::(gV r obs z (aqL k y n0).2).1)) (val p);rw[aU]
     split
     ·rename_i he;subst he;exact(a4 H2 G2 n0 hh.left hk).1
     ·rw[a3];exact(b5 H2 G2 _ hh.right hk).2 p
   ·cases ho
  ·cases ho
theorem ahO(p:Nat):∀n,look .dead p (toks n0 n)=if n0≤p∧p<n0+n then .tok else .dead
 |0=>by rw[if_neg (by omega)];rfl
 |n+1=>by
  show look .dead p ((n0+n,.tok)::toks n0 n)=_;rw[aU,ahO p n]
  by_cases h:n0+n=p
  ·rw[if_pos h,if_pos (by omega)]
  ·rw[if_neg h]
   by_cases h2:n0≤p∧p<n0+n
   ·rw[if_pos h2,if_pos (by omega)]
   ·rw[if_neg h2,if_neg (by omega)]
theorem Vk:∀(ts:List (Option Nat)) (i j t:Nat),(ts.filterMap id).Nodup→ts[i]? =some (some t)→ts[j]? =some (some t)→i=j
 |[],_,_,_,_,h,_=>by simp at h
 |none::ts,i,j,t,hn,hi,hj=>by
  cases i with
  |zero=>simp at hi
  |succ i=>
   cases j with
   |zero=>simp at hj
   |succ j=>
    have:=Vk ts i j t (by simpa using hn) (by simpa using hi) (by simpa using hj);omega
 |some u::ts,i,j,t,hn,hi,hj=>by
  simp only[List.filterMap_cons,id,List.nodup_cons]at hn;have hmem:∀k:Nat,ts[k]? =some (some t)→t∈ts.filterMap id:=fun k hk=>List.mem_filterMap.2 ⟨some t,eu hk,rfl⟩
  cases i with
  |zero=>
   cases j with
   |zero=>rfl
   |succ j=>
    simp only[eY,Option.some.injEq]at hi;subst hi;exact absurd (hmem j (by simpa using hj)) hn.1
  |succ i=>
   cases j with
   |zero=>
    simp only[eY,Option.some.injEq]at hj;subst hj;exact absurd (hmem i (by simpa using hi)) hn.1
   |succ j=>
    have:=Vk ts i j t hn.2 (by simpa using hi) (by simpa using hj);omega
theorem Rh{N:NS}{x:N.den}(S:SR w0 Z0 Zp X s g a w)(hd:dec N s=some x):
  ∃g2,SR w0 Z0 Zp X (enc N x) g2 a w∧∀p,g2.al p→p<(enc N x).next:=by
 unfold dec at hd
 split at hd
 ·cases hd
 split at hd
 ·rename_i y h1 hy
  cases hd;obtain⟨ts,c1,c3,c6,c4,c7,c5⟩:=Rg S.hr.ob (val:=fun t=>a.tmps.getD t undef) S.env N.obs N.slots s.heap h1 x ee.refl hy;obtain⟨n0,hn0⟩:∃n0,n0=N.next:=⟨_,rfl⟩;obtain⟨g2,Ng⟩:∃g2:G,g2=⟨fun p=>(p<n0∧g.al p)∨(n0≤p∧p<n0+ts.length),g.Z,fun p=>if p<n0 then g.hm p else((ts[p -n0]?).bind id).bind g.hm,fun p=>match(ts[p -n0]?).bind id with |some o=>g.lo o |none=>0,g.pm⟩:=⟨_,rfl⟩;obtain⟨E,hE⟩:∃E,E=(gV N.slots N.obs x n0).2.1:=⟨_,rfl⟩;have aAi:(enc N x).heap=E++toks n0 ts.length:=by
   show _++toks N.next ((gV N.slots N.obs x N.next).2.2 -N.next)=_;rw[c3,hE,hn0,eZ]
  have Ie:∀p,look .dead p (enc N x).heap=if look .dead p E= .dead then(if n0≤p∧p<n0+ts.length then .tok else .dead)else look .dead p E:=fun p=>by
   rw[aAi,←ahO,hE];exact c6 n0 p _
  have hnext:(enc N x).next=n0+ts.length:=by
   show(gV N.slots N.obs x N.next).2.2=_;rw[c3,hn0]
  have hz:g2.Z=g.Z:=by rw[Ng]
  have Nh:g2.pm=g.pm:=by rw[Ng]
  have hhm:∀p,p<n0→g2.hm p=g.hm p:=fun p hp=>by rw[Ng];exact if_pos hp
  have hE4:∀p,look .dead p E≠.dead→aou s.heap s.heap n0 ts E p∨(n0≤p∧∃q cs cs',ts[p -n0]? =some (some q)∧look .dead q s.heap= .cells cs∧look .dead p E= .cells cs'):=by
   intro p hp;rw[hE]at hp ⊢;rw[hn0]at hp ⊢;exact c4 N.next p hp
  have aw1:Hand g g2 n0 ts:=by
   refine⟨fun i t hi=> ?_⟩;have hlt:i<ts.length:=(List.getElem?_eq_some_iff.1 hi).1;refine⟨by rw[Ng];exact .inr (by omega),?_,fun o ho=> ?_⟩
   ·rw[Ng];show(if n0+i<n0 then g.hm (n0+i)else((ts[n0+i -n0]?).bind id).bind g.hm)=_;rw[if_neg (by omega),eZ,hi];rfl
   ·rw[Ng];show(match(ts[n0+i -n0]?).bind id with |some o=>g.lo o |none=>0)=_;rw[eZ,hi,ho];rfl
  have as8:∀p,look .dead p (enc N x).heap≠.dead→(p<n0∧look .dead p s.heap≠.dead∧(look .dead p s.heap).to (look .dead p (enc N x).heap)∧(look .dead p (enc N x).heap).open? =(look .dead p s.heap).open? ∧look .dead p (enc N x).heap≠.tok∧some p∉ts)∨
    (n0≤p∧p<n0+ts.length∧∀q,ts[p -n0]? =some (some q)→look .dead q s.heap≠.dead∧((look .dead p (enc N x).heap).open? =true→(look .dead q s.heap).open? =true)∧(look .dead p (enc N x).heap= .tok→look .dead q s.heap= .tok)):=by
   intro p hp;have hl:=Ie p
   by_cases hd:look .dead p E= .dead
   ·rw[if_pos hd]at hl
    by_cases hr:n0≤p∧p<n0+ts.length
    ·rw[if_pos hr]at hl;refine .inr ⟨hr.1,hr.2,fun q hq=> ?_⟩;have:=c7 n0 (p -n0) q hq (by rw[Nat.add_sub_cancel' hr.1,←hE];exact hd);refine⟨by rw[this];simp,fun ho=> ?_,fun _=>this⟩;rw[hl]at ho;cases ho
    ·rw[if_neg hr]at hl;exact absurd hl hp
   ·rw[if_neg hd]at hl;rcases hE4 p hd with⟨d1,d2,d3,d4,d5,d6,_⟩|⟨d1,q,cs,cs',d2,d3,d4⟩
    ·exact .inl ⟨d1,d5,by rw[hl];exact d2,by rw[hl];exact d3,by rw[hl];exact d4,d6⟩
    ·have hlt:=(List.getElem?_eq_some_iff.1 d2).1;refine .inr ⟨d1,by omega,fun q' hq'=> ?_⟩;rw[d2]at hq'
     cases hq';refine⟨by rw[d3];simp,fun _=>by rw[d3];rfl,fun ht=> ?_⟩;rw[hl,d4]at ht;cases ht
  have aAj:Kept g s.heap N.next g2 (enc N x).heap:=by
   rw[←hn0];refine⟨fun o ho h=> ?_,fun o ho=> ?_,fun o ho=>hhm o ho,hz,Nh⟩
   ·rw[Ng];exact .inl ⟨ho,h⟩
   ·by_cases hl:look .dead o (enc N x).heap= .dead
    ·exact .inl hl
    ·rcases as8 o hl with h |h
     ·exact h.2.2.1
     ·omega
  have Rb:∀p b,look .dead p (enc N x).heap≠.dead→g2.hm p=some b→∃o,g.hm o=some b∧look .dead o s.heap≠.dead∧((look .dead p (enc N x).heap).open? =true→(look .dead o s.heap).open? =true)∧(look .dead p (enc N x).heap= .tok→look .dead o s.heap= .tok∧g2.lo p=g.lo o)∧
    ((p=o∧some p∉ts)∨(n0≤p∧ts[p -n0]? =some (some o))):=by
   intro p b hp hb;rcases as8 p hp with⟨d1,d2,d3,d4,d5,d6⟩|⟨d1,d2,d3⟩
   ·exact⟨p,(hhm p d1)▸hb,d2,fun h=>d4▸h,fun h=>absurd h d5,.inl ⟨rfl,d6⟩⟩
   ·have hi:ts[p -n0]? =some ts[p -n0]:=ah (by omega)
    obtain⟨k1,k2,k3⟩:=aw1.tok (p -n0) ts[p -n0] hi;rw[Nat.add_sub_cancel' d1]at k2 k3;rw[k2]at hb
    cases ht:ts[p -n0]with
    |none=>rw[ht]at hb;cases hb
    |some o=>
     rw[ht]at hb hi;obtain⟨e1,e2,e3⟩:=d3 o hi;exact⟨o,hb,e1,e2,fun h=>⟨e3 h,k3 o ht⟩,.inr ⟨d1,hi⟩⟩
  have aDa:∀c wr K H',look .dead c (enc N x).heap= .gh wr K H'→look .dead c s.heap= .gh wr K H':=by
   intro c wr K H' hc;have hl:=Ie c
   by_cases hd:look .dead c E= .dead
   ·rw[if_pos hd,hc]at hl
    split at hl<;>cases hl
   ·rw[if_neg hd,hc]at hl;rcases hE4 c hd with d |⟨d1,q,cs,cs',d2,d3,d4⟩
    ·exact d.gh wr K H' hl.symm
    ·rw[d4]at hl;cases hl
  obtain⟨k1,k2⟩:=c5 (enc N x).heap g2 n0 aw1 aAj;refine⟨g2,⟨fun t=> ?_,?_,S.nt,S.defers⟩,fun p hp=> ?_⟩
  ·have:=k2 t;rw[hn0]at this;exact this
  ·refine⟨S.hr.ext,fun o=> ?_,fun o ho=> ?_,fun o b hl hb=> ?_,fun o p b ho hp hb hb'=> ?_,fun o b i ho hb=> ?_,fun o b i ho hb hzz=> ?_,fun b i h=>S.hr.Nb b i (by rw[←hz];exact h),fun b i hb h=>S.hr.JZ b i hb (by rw[←hz];exact h),fun b i h=>by rw[hz];exact S.hr.z0 b i h,S.hr.zp,S.hr.gh.awV aDa Nh (fun c id b i hG=>by rw[hz];exact S.hr.gh.lq c id b i hG) (fun c id b o hG hl hb=> ?_) (fun c id K x hk hc=>vp.move (w':=w) (g':=g2) (fun b i hb=>⟨hz▸hb,rfl⟩) (fun c id e he=>Nh▸he) (fun _ _=>rfl) K x hk hc)⟩
   ·rw[Ie]
    split
    ·split<;>trivial
    ·rw[hE];exact k1 o
   ·by_cases hl:look .dead o (enc N x).heap= .dead
    ·exact hl
    ·exfalso;rcases as8 o hl with⟨d1,d2,_⟩|⟨d1,d2,_⟩
     ·exact ho (by rw[Ng];exact .inl ⟨d1,Classical.byContradiction fun h=>d2 (S.hr.dead o h)⟩)
     ·exact ho (by rw[Ng];exact .inr ⟨d1,d2⟩)
   ·obtain⟨q,h1,h2,_⟩:=Rb o b hl hb;exact S.hr.home q b h2 h1
   ·obtain⟨q,h1,h2,_,_,h3⟩:=Rb o b ho hb;obtain⟨q',h1',h2',_,_,XB⟩:=Rb p b hp hb';have:=S.hr.oa q q' b h2 h2' h1 h1';subst this;rcases h3 with⟨h3,h4⟩|⟨h3,h4⟩
    ·rcases XB with⟨XB,h4'⟩|⟨XB,h4'⟩
     ·rw[h3,XB]
     ·rw[h3]at h4;exact absurd (eu h4') h4
    ·rcases XB with⟨XB,h4'⟩|⟨XB,h4'⟩
     ·rw[XB]at h4';exact absurd (eu h4) h4'
     ·have:=Vk ts _ _ q c1.nodup h4 h4';omega
   ·rw[hz];have hl:look .dead o (enc N x).heap≠.dead:=by intro h;rw[h]at ho;cases ho
    obtain⟨q,h1,h2,h3,_⟩:=Rb o b hl hb;exact S.hr.lq q b i (h3 ho) h1
   ·rw[hz]at hzz;have hl:look .dead o (enc N x).heap≠.dead:=by rw[ho];simp
    obtain⟨q,h1,h2,_,h3,_⟩:=Rb o b hl hb;obtain⟨h4,h5⟩:=h3 ho;rw[h5];exact S.hr.Na q b i h4 h1 hzz
   ·obtain⟨q,h1,h2,_⟩:=Rb o b hl hb;exact S.hr.gh.loc c id b q hG h2 h1
  ·rw[hnext];rw[Ng]at hp;rcases hp with⟨hp,_⟩|⟨_,hp⟩
   ·omega
   ·exact hp
 ·cases hd
end
section
variable {P:Program} {w0:W0} {w w':World} {Z0 Zp:cD} {g:G} {X:Cx} {a:Act} {s s':St} {ops:Array Oper} {Q:Exit→Act→World→Prop}
theorem ara{Ls:List Log}(h:clean Ls=true){L:Log}(hL:L∈Ls)(p:Nat):(p,true)∉L:=fun hp=>by
 unfold clean at h;rw[ei]at h;have:=h L hL;rw[ei]at this;have:=this _ hp;simp at this
theorem aov{s1:St}{Ls:List Log}{new:Nat}{l:List Oper}(he:afX X ops.toList new l s []=some (s1,Ls))(hc:clean Ls=true):
  s1.next=s.next∧(∀t,(∀o∈l,o.dst≠some t)→look aJ t s1.env=look aJ t s.env)∧∀p,look .dead p s1.heap=look .dead p s.heap:=by
 obtain⟨S,Lg,h0,h1,h2,h3⟩:=acG X ops.toList l new _ [] s1 Ls he;have key:∀i,i≤l.length→(S i).next=s.next∧(∀t,(∀o∈l,o.dst≠some t)→look aJ t (S i).env=look aJ t s.env)∧∀p,look .dead p (S i).heap=look .dead p s.heap:=by
  intro i
  induction i with
  |zero=>intro _;rw[h0];exact⟨rfl,fun _ _=>rfl,fun _=>rfl⟩
  |succ i ih=>
   intro hi;obtain⟨k1,k2,k3⟩:=ih (by omega);have hl:=nx (h2 i (l[i]'(by omega)) (ah (by omega)));have hL:Lg i∈Ls:=by
    rw[h3];simp only[cK,List.mem_reverse,List.mem_map,List.mem_range];exact⟨i,by omega,rfl⟩
   exact⟨hl.1.trans k1,fun t ht=>(hl.2.1 t (ht _ (ak _))).trans (k2 t ht),fun p=>(hl.2.2.1 p (ara hc hL p)).trans (k3 p)⟩
 have:=key l.length (aA _);rw[h1]at this;exact this
theorem XH{t:Nat}{env:Env}:∀{l:List Tmp},t∈l→look aJ t (JV l++env)=aJ
 |q::l,ht=>by
  show look aJ t ((q,aJ)::(JV l++env))=aJ;simp only[look]
  split
  ·rfl
  ·rename_i hb;rcases List.mem_cons.1 ht with rfl |ht
   ·rw[Nat.beq_refl]at hb;cases hb
   ·exact XH ht
theorem Ri{t:Nat}{env:Env}:∀{l:List Tmp},t∉l→look aJ t (JV l++env)=look aJ t env
 |[],_=>rfl
 |q::l,ht=>by
  show look aJ t ((q,aJ)::(JV l++env))=_;simp only[look]
  split
  ·rename_i hb;exact absurd (List.mem_cons.2 (.inl (az hb).symm)) ht
  ·exact Ri fun h=>ht (aF _ h)
theorem alR{h h2:bg}{base:Nat}{env:Env}{t:Nat}{τ:Ty}{x:τ.den}{v:Value}(hh:AR w base Zp h g (look aJ t env) v)(hx:apU env t τ=some x):AR w base Zp h2 g (YV τ x) v:=by
 unfold apU at hx
 split at hx
 ·rename_i gg cs hl;rw[hl]at hh
  split at hx
  ·rename_i hc;rw[aj]at hc;exact AR.list (toBeq hc.1) hh hc.2 hx rfl
  ·cases hx
 ·cases hx
theorem alS{h h2:bg}{base:Nat}{env:Env}{val:Nat→Value}(hh:∀t,AR w base Zp h g (look aJ t env) (val t)){e2:Env}(h0:∀t,AR w base Zp h2 g (look aJ t e2) (val t)):
  ∀(l:List (Nat×Ty)) (x:(lO (l.map Prod.snd)).den),ab9 env l=some x→∀t,AR w base Zp h2 g (look aJ t (aca l x e2)) (val t)
 |[],_,_,t=>h0 t
 |[(u,τ)],x,hx,t=>by
  show AR w base Zp h2 g (look aJ t ((u,YV τ x)::e2)) (val t);simp only[look]
  split
  ·rename_i hb;have:=az hb;subst this;exact alR (hh u) hx
  ·exact h0 t
 |(u,τ)::q::r,x,hx,t=>by
  unfold ab9 at hx
  split at hx
  ·rename_i y hy
   split at hx
   ·rename_i z hz
    cases hx;show AR w base Zp h2 g (look aJ t ((u,YV τ y)::aca (q::r) z e2)) (val t);simp only[look]
    split
    ·rename_i hb;have:=az hb;subst this;exact alR (hh u) hy
    ·exact alS hh h0 (q::r) z hz t
   ·cases hx
  ·cases hx
structure acK (s s2:St) (l:List Tmp):Prop where
 env:∀t,t∉l→look aJ t s2.env=look aJ t s.env
 heap:∀p,look .dead p s2.heap=look .dead p s.heap
theorem SR.aw2{l:List (Nat×Ty)}{ds:List Tmp}{v:(lO (l.map Prod.snd)).den}(h2:SR w0 Z0 Zp X s' g a w)(hn:acK s s' ds)(hv:ab9 s'.env l=some v)(n:Nat):SR w0 Z0 Zp X { env:=aca l v (JV ds++s.env),next:=n,heap:=s.heap } g a w:=by
 refine⟨fun t=> ?_,h2.hr.same hn.heap,h2.nt,h2.defers⟩;refine alS h2.env (fun t=> ?_) l v hv t
 by_cases ht:t∈ds
 ·rw[XH ht];exact AR.rg trivial
 ·rw[Ri ht];have:=h2.env t;rw[hn.env t ht]at this;exact AR.mono (Le.same hn.heap) _ _ this
theorem XI{R:Type}(hX:Ze P X)(hm:P.follows .mixedOrders=true){id:Nat}{draw:Bool}{K:St→Option R}{r:R}
  (hv:QW X ops draw K s=some r) (hS:SR w0 Z0 Zp X s g a w) (hal:∀p,g.al p→p<s.next)
  (hQ:∀s' a' w' g',K s'=some r→acK s s' (QX ops)→s'.next=s.next+ops.toList.length→SR w0 Z0 Zp X s' g' a' w'→(∀p,g'.al p→p<s'.next)→Q .normal a' w'):
  (Code.region id ops draw).wp P Q a w:=by
 unfold QW at hv;simp only at hv;rw[zb]at hv
 cases he:afX X ops.toList s.next ops.toList { s with next:=s.next+ops.toList.length } []with
 |none=>rw[he]at hv;cases hv
 |some q=>
  obtain⟨s1,Ls⟩:=q;rw[he]at hv;simp only[aa]at hv
  split at hv
  ·cases hv
  ·rename_i hcl;obtain⟨k1,k2,k3⟩:=aov he hcl;have hr:GO X ops draw (fun s'=>(K s').map fun v=>(v,s')) s=some (r,s1):=by
    unfold GO;simp only;rw[zb,he];simp only[aa]
    cases draw with
    |false=>simp only at hv ⊢;rw[hv];rfl
    |true=>
     simp only at hv ⊢
     split at hv
     ·rename_i hd;rw[hv];rfl
     ·cases hv
   refine PO hX hm hr hS hal fun s' a' w' g' h1 h2 h3=> ?_;simp only[Option.map_eq_some_iff,Prod.mk.injEq]at h1;obtain⟨v',hv',rfl,rfl⟩:=h1;refine hQ s' a' w' g' hv' ⟨fun t ht=>k2 t fun o ho hd=>ht ?_,k3⟩ k1 h2 h3;unfold QX;exact List.mem_filterMap.2 ⟨o,ho,hd⟩
theorem alT{R:Type}(hX:Ze P X)(hm:P.follows .mixedOrders=true){id:Nat}{draw:Bool}{l:List (Nat×Ty)}{K:(lO (l.map Prod.snd)).den→Option R}{r:R}
  (e:(QW X ops draw (fun s'=>ab9 s'.env l) s).bind K=some r) (hS:SR w0 Z0 Zp X s g a w) (hal:∀p,g.al p→p<s.next)
  (hQ:∀v a' w' g',K v=some r→SR w0 Z0 Zp X { env:=aca l v (JV (QX ops)++s.env),next:=s.next+ops.toList.length,heap:=s.heap } g' a' w'→(∀p,g'.al p→p<s.next+ops.toList.length)→Q .normal a' w'):
  (Code.region id ops draw).wp P Q a w:=by
 obtain⟨v,hv,hK⟩:=Option.bind_eq_some_iff.1 e;exact XI hX hm hv hS hal fun s' a' w' g' h1 h2 h3 h4 h5=>hQ v a' w' g' hK (h4.aw2 h2 h1 _) fun p hp=>h3▸h5 p hp
theorem acK.trans{s1 s2 s3:St}{l m:List Tmp}(h:acK s1 s2 l)(k:acK s2 s3 m):acK s1 s3 (l++m):=
 ⟨fun t ht=>(k.env t fun h=>ht (bo _ h)).trans (h.env t fun h=>ht (aR _ h)),fun p=>(k.heap p).trans (h.heap p)⟩
theorem acK.wide{s1 s2:St}{l m:List Tmp}(h:acK s1 s2 l)(k:∀t∈l,t∈m):acK s1 s2 m:=⟨fun t ht=>h.env t fun h=>ht (k t h),h.heap⟩
theorem ahP(hX:Ze P X)(hm:P.follows .mixedOrders=true):∀(c:Code) {R:Type} (K:St→Option R) (r:R) (Q:Exit→Act→World→Prop) (s:St) (g:G) (a:Act) (w:World),
  Xy X c K s=some r→SR w0 Z0 Zp X s g a w→(∀p,g.al p→p<s.next)→(∀s' g a w,K s'=some r→acK s s' (sV c)→SR w0 Z0 Zp X s' g a w→(∀p,g.al p→p<s'.next)→Q .normal a w)→c.wp P Q a w:=by
 intro c
 induction c with
 |skip=>intro R K r Q s g a w e hS hal hQ;exact wp_skip (hQ _ _ _ _ e ⟨fun _ _=>rfl,fun _=>rfl⟩ hS hal)
 |region id ops draw=>intro R K r Q s g a w e hS hal hQ;exact XI hX hm e hS hal fun s' a' w' g' h1 h2 _ h4 h5=>hQ s' g' a' w' h1 h2 h4 h5
 |seq x y ihx ihy=>
  intro R K r Q s g a w e hS hal hQ;refine wp_seq (ihx _ r _ s g a w e hS hal fun s1 g a w hk hn hS hal=> ?_);exact ihy K r _ s1 g a w hk hS hal fun s2 g a w hk hn2 hS hal=>hQ s2 g a w hk (hn.trans hn2) hS hal
 |cond c x y ihx ihy=>
  intro R K r Q s g a w e hS hal hQ;unfold Xy at e
  split at e
  ·rename_i t ht;have hc:=ea hS.env c;rw[ht]at hc;have hc:a.eval c= .bool t:=hc.c
   cases t with
   |true=>exact wp_cond_true hc (ihx K r _ s g a w e hS hal fun s' g a w h1 h2=>hQ s' g a w h1 (h2.wide fun t ht=>aR _ ht))
   |false=>exact wp_cond_false hc (ihy K r _ s g a w e hS hal fun s' g a w h1 h2=>hQ s' g a w h1 (h2.wide fun t ht=>bo _ ht))
  ·cases e
 |_=>intro R K r Q s g a w e hS hal hQ;cases e
end
section
variable {P:Program} {w0:W0} {w:World} {Z0 Zp:cD} {g:G} {X:Cx} {a:Act} {s:St}
def Ex.out:Ex→Exit
 |.normal=> .normal
 |.ret=> .ret
 |.exit id=> .exit id
theorem ahQ{e f:Ex}(h:ai2 e f=true):e=f:=by
 cases e<;>cases f<;>simp only[ai2,cp]at h
 case normal.normal=>rfl
 case ret.ret=>rfl
 case exit.exit=>rw[az h]
theorem acL{R:Type}{K:Ex→St→Option R}{r:R}{e:Ex}:∀(l:List (Ex×NS)) (out:JY l),U6 l e s=some out→ai3 l out K=some r→∃(N:NS) (x:N.den),dec N s=some x∧K e (enc N x)=some r
 |[],out,h,_=>by cases h
 |[o],out,h,hg=>by
  unfold U6 at h
  split at h
  ·rename_i he;rw[←ahQ he];exact⟨o.2,out,h,hg⟩
  ·cases h
 |o::p::l,out,h,hg=>by
  unfold U6 at h
  split at h
  ·rename_i he
   split at h
   ·rename_i x hx
    cases h;rw[←ahQ he];exact⟨o.2,x,hx,hg⟩
   ·cases h
  ·split at h
   ·rename_i x hx
    cases h;exact acL (p::l) x hx hg
   ·cases h
theorem acM(hX:Ze P X)(hm:P.follows .mixedOrders=true):∀(c:Code) {R:Type} (K:Ex→St→Option R) (r:R) (Q:Exit→Act→World→Prop) (s:St) (g:G) (a:Act) (w:World),
  qq X c K s=some r→SR w0 Z0 Zp X s g a w→(∀p,g.al p→p<s.next)→(∀e s g a w,K e s=some r→SR w0 Z0 Zp X s g a w→(∀p,g.al p→p<s.next)→Q e.out a w)→c.wp P Q a w:=by
 intro c
 induction c with
 |skip=>intro R K r Q s g a w e hS hal hQ;exact wp_skip (hQ _ _ _ _ _ e hS hal)
 |region id ops draw=>
  intro R K r Q s g a w e hS hal hQ;unfold qq at e
  split at e
  ·rename_i N hN
   cases hv:GO X ops draw (fun s=>dec N s) s with
   |none=>rw[hv]at e;cases e
   |some v=>
    rw[hv]at e;have e:K .normal (enc N v)=some r:=e;exact PO hX hm hv hS hal fun s' a' w' g' h1 h2 h3=>by
     obtain⟨g2,h4,h5⟩:=Rh h2 h1;exact hQ .normal _ g2 a' w' e h4 h5
  ·split at e
   ·rename_i l hl;exact alT hX hm e hS hal fun v a' w' g' h1 h2 h3=>hQ .normal _ g' a' w' h1 h2 h3
   ·exact PO hX hm e hS hal fun s' a' w' g' h1 h2 h3=>hQ .normal s' g' a' w' h1 h2 h3
 |seq x y ihx ihy=>
  intro R K r Q s g a w e hS hal hQ;refine wp_seq (ihx _ r _ s g a w e hS hal fun e s g a w hk hS hal=> ?_)
  cases e with
  |normal=>exact ihy _ r _ s g a w hk hS hal hQ
  |ret=>exact hQ .ret s g a w hk hS hal
  |exit id=>exact hQ (.exit id) s g a w hk hS hal
 |cond c x y ihx ihy=>
  intro R K r Q s g a w e hS hal hQ;unfold qq at e
  split at e
  ·rename_i t ht;have hc:=ea hS.env c;rw[ht]at hc;have hc:a.eval c= .bool t:=hc.c
   split at e
   ·rename_i N hN
    cases hv:av t (qq X x (ML N) s) (qq X y (ML N) s)with
    |none=>rw[hv]at e;cases e
    |some v=>
     rw[hv]at e;have e:K .normal (enc N v)=some r:=e;have hj:∀(e':Ex) (s':St) (g':G) (a':Act) (w':World),ML N e' s'=some v→SR w0 Z0 Zp X s' g' a' w'→(∀p,g'.al p→p<s'.next)→Q e'.out a' w':=by
      intro e' s' g' a' w' h1 h2 h3;unfold ML at h1
      split at h1
      ·obtain⟨g2,h4,h5⟩:=Rh h2 h1;exact hQ .normal _ g2 a' w' e h4 h5
      ·cases h1
     cases t with
     |true=>exact wp_cond_true hc (ihx _ v _ s g a w hv hS hal hj)
     |false=>exact wp_cond_false hc (ihy _ v _ s g a w hv hS hal hj)
   ·split at e
    ·rename_i l k hl;obtain⟨v,hv,hK⟩:=Option.bind_eq_some_iff.1 e;have hj:∀(ds:List Tmp) (s':St) (g':G) (a':Act) (w':World),apV l (s.next+k) s'=some v→(∀t∈ds,t∈sV x++sV y)→acK s s' ds→SR w0 Z0 Zp X s' g' a' w'→(∀p,g'.al p→p<s'.next)→Q Exit.normal a' w':=by
      intro ds s' g' a' w' h1 hds h2 h3 h4;unfold apV at h1
      split at h1
      ·rename_i hle;have hle:=eQ hle;exact hQ .normal _ g' a' w' hK (h3.aw2 (h2.wide hds) h1 _) fun p hp=>ca (h4 p hp) hle
      ·cases h1
     cases t with
     |true=>exact wp_cond_true hc (ahP hX hm x _ v _ s g a w hv hS hal fun s' g' a' w' h1 h2 h3 h4=>hj _ s' g' a' w' h1 (fun t ht=>aR _ ht) h2 h3 h4)
     |false=>exact wp_cond_false hc (ahP hX hm y _ v _ s g a w hv hS hal fun s' g' a' w' h1 h2 h3 h4=>hj _ s' g' a' w' h1 (fun t ht=>bo _ ht) h2 h3 h4)
    ·cases t with
     |true=>exact wp_cond_true hc (ihx _ r _ s g a w e hS hal hQ)
     |false=>exact wp_cond_false hc (ihy _ r _ s g a w e hS hal hQ)
  ·cases e
 |block id x ih=>
  intro R K r Q s g a w e hS hal hQ;refine wp_block (ih _ r _ s g a w e hS hal fun e s g a w hk hS hal=> ?_)
  cases e with
  |normal=>exact hQ .normal s g a w hk hS hal
  |ret=>exact hQ .ret s g a w hk hS hal
  |exit j=>
   have hk:(match bU j id with
    |true=>K .normal s
    |false=>K (.exit j) s)=some r:=hk
   split at hk
   ·rename_i hj;rw[az hj];have:=hQ .normal s g a w hk hS hal;simpa[Ex.out,Exit.inBlock]using this
   ·rename_i hj;have:=hQ (.exit j) s g a w hk hS hal;have hne:¬ j=id:=by intro h;subst h;simp at hj
    simpa[Ex.out,Exit.inBlock,hne]using this
 |loop x ih=>
  intro R K r Q s g a w e hS hal hQ;unfold qq at e
  split at e
  ·rename_i S hSl
   split at e
   ·rename_i v hv
    cases hl:ahw S (fun K s=>qq X x K s) X.fuel v with
    |none=>rw[hl]at e;cases e
    |some out=>
     rw[hl]at e;have e:ai3 S.outs out K=some r:=e;have key:∀(n:Nat) (v:S.vin.den) (g:G) (a:Act) (w:World),ahw S (fun K s=>qq X x K s) n v=some out→SR w0 Z0 Zp X (enc S.vin v) g a w→(∀p,g.al p→p<(enc S.vin v).next)→Code.rounds P x Q n a w:=by
      intro n
      induction n with
      |zero=>intro v g a w h;cases h
      |succ n ihn=>
       intro v g a w h hS hal;rw[rounds_succ];refine ih _ out _ _ g a w h hS hal fun e' s' g' a' w' hk hS' acr=> ?_;have hout:U6 S.outs e' s'=some out→Q e'.out a' w':=by
        intro hk;obtain⟨N,x,h1,h2⟩:=acL _ out hk e;obtain⟨g2,h4,h5⟩:=Rh hS' h1;exact hQ e' _ g2 a' w' h2 h4 h5
       cases e' with
       |normal=>
        have hk:(match dec S.vin s' with
         |some v=>ahw S (fun K s=>qq X x K s) n v
         |none=>none)=some out:=hk
        split at hk
        ·rename_i v' hv';obtain⟨g2,h4,h5⟩:=Rh hS' hv';exact ihn v' g2 a' w' hk h4 h5
        ·cases hk
       |ret=>exact hout hk
       |exit j=>exact hout hk
     obtain⟨g2,h4,h5⟩:=Rh hS hv;exact wp_loop_rounds X.fuel (key X.fuel v g2 a w hl h4 h5)
   ·cases e
  ·cases e
 |exit id=>intro R K r Q s g a w e hS hal hQ;exact wp_exit (hQ (.exit id) _ _ _ _ e hS hal)
 |ret=>intro R K r Q s g a w e hS hal hQ;exact wp_ret (hQ .ret _ _ _ _ e hS hal)
 |scope x ih=>
  intro R K r Q s g a w e hS hal hQ;refine wp_scope_straight (ih K r _ s g a w e hS hal fun e s g a w hk hS hal=> ?_);have:=hQ e s g a w hk hS hal
  cases e<;>exact this
 |label l=>intro R K r Q s g a w e hS hal hQ;exact wp_label (hQ .normal _ _ _ _ e hS hal)
 |_=>intro R K r Q s g a w e hS hal hQ;cases e
end
end Go.Am
