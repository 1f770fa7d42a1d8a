import Derived.Test.YtllhngpojglipaaGreatDoorA8
import Derived.ProofKit
import Derived.JoinedCond
import Derived.WideKeyArgs
import Derived.ChangeArms
set_option linter.unusedVariables false
set_option linter.unusedSimpArgs false
open Array renaming getD_eq_getD_getElem?→bJ
open Bool renaming and_eq_true→aj
open List renaming all_eq_true→ei,append_nil→cK,drop_zero→dC,getElem?_append_left→aQ,getElem?_append_right→bh,getElem?_cons_zero→eY,length_drop→dI,length→ae,map_cons→cj,mem_append_left→aR,mem_append_right→bo,sum_cons→dS,take_append_drop→cH,take_length→ch
open Nat renaming beq→bU,blt_eq→fl,eq_of_beq_eq_true→az,le_refl→aA,le_trans→eA,zero_add→dN
namespace Go.Am
open Go
section
variable {P:Program} {w0:W0} {w:World} {Z0 Zp:cD} {g:G} {X:Cx} {a:Act} {s:St} {h:bg}
def as9:List Value→Value
 |[v]=>v
 |vs=> .tuple vs.toArray
def Rj(tmps:Array Value):ResultVar→Sem Value
 |.tmp t=>pure (tmps.getD t undef)
 |.cell a t=>do loadVar t (←asAddr (tmps.getD a undef))
theorem Cz(fn:Func)(tmps:Array Value)(vs:List Value)(h:(fn.results.toList.mapM (Rj tmps)).run P w= .ok vs w):
  (results fn tmps).run P w= .ok (as9 vs) w:=by
 have he:results fn tmps=(fn.results.mapM (Rj tmps) >>= fun vs=>pure (if h:vs.size=1 then vs[0]else .tuple vs)):=rfl;have h2:(fn.results.mapM (Rj tmps)).run P w= .ok vs.toArray w:=by
  rw[Array.mapM_eq_mapM_toList,map_eq_pure_bind,Sem.run_bind,h];rfl
 rw[he,Sem.run_bind,h2];simp only[Result.andThen_ok,Sem.run_pure]
 match vs with
 |[]=>rfl
 |[v]=>rfl
 |u::v::vs=>rfl
theorem alU{R:Type}{r:R}{τ:Ty}{A0:A}{v:Value}{k:τ.den→bg→Option R}(hR:HR w0 Z0 Zp h g w)(ha:AR w w0.heap.size Zp h g A0 v)(e:xk.valK s τ A0 h k=some r):
  ∃x h1 g1,k x h1=some r∧HR w0 Z0 Zp h1 g1 w∧Le Zp h g w h1 g1 w∧Fz h g h1 g1∧yv w g1.Z jT τ x v:=by
 unfold xk.valK at e
 split at e
 ·rename_i σ c x k
  split at e
  ·rename_i K H ho
   split at e
   ·rename_i H' hH hn
    cases hr:gsF H' x with
    |none=>rw[hr]at e;cases e
    |some q=>
     rw[hr]at e;obtain⟨g1,R1,sC,f1,hp⟩:=ap1 hR ha.c ho hH hn hr;exact⟨q.1,_,g1,e,R1,sC,f1,PR.cI (.sl σ) _ _ (by simpa[Ty.cI]using hn) hp⟩
   ·cases e
  ·cases e
 ·rename_i gg cs _
  split at e
  ·rename_i hc;rw[aj]at hc;rw[HM.run_eq]at e;obtain⟨vs,hcs,h1,h2⟩:=VR.list ha
   cases he:(jM true cs fun cs=> .ret (.v gg cs)).eval s.next h []with
   |none=>rw[he]at e;cases e
   |some q=>
    rw[he]at e;obtain⟨cs',h3,g3,L3,e3,R3,Le3,hg3,aoq⟩:=fq _ _ h g _ _ _ hR hcs he;have:=gW e3;subst this;have e:(match τ.dG cs' with
     |some x=>k x h3
     |none=>none)=some r:=e
    split at e
    ·rename_i x hx;exact⟨x,h3,g3,e,R3,Le3,hg3,yv.cI hc.2 (yv.list (toBeq hc.1) h1 h2 (eM hc.2 aoq hx))⟩
    ·cases e
  ·cases e
 ·cases e
theorem ahR{t:TypeId}{v u:Value}(h:(Instr.loadAt t v).run P w= .ok u w):Sem.run P (do loadVar t (←asAddr v)) w= .ok u w:=by
 unfold Instr.loadAt at h;rw[Sem.run_bind]at h ⊢;unfold Instr.sureAddr at h
 split at h
 ·exact h
 ·exfalso;have:Sem.run P (stuck "an address expected (no nilCheck in front?)":Sem Addr) w= .halt (.stuck "an address expected (no nilCheck in front?)") w:=rfl;rw[this]at h
  cases h
theorem alV{R:Type}{r:R}(hX:YX P X.tt){τ:Ty}{rv:ResultVar}{k:τ.den→bg→Option R}(hR:HR w0 Z0 Zp h g w)(p7:∀t,AR w w0.heap.size Zp h g (look aJ t s.env) (a.tmps.getD t undef))(e:xk.resK X s τ rv h k=some r):
  ∃v x h1 g1,(Rj a.tmps rv).run P w= .ok v w∧k x h1=some r∧HR w0 Z0 Zp h1 g1 w∧Le Zp h g w h1 g1 w∧Fz h g h1 g1∧yv w g1.Z jT τ x v:=by
 unfold xk.resK at e
 split at e
 ·rename_i t;obtain⟨x,h1,g1,h2⟩:=alU hR (p7 t) e;exact⟨_,x,h1,g1,rfl,h2⟩
 ·rename_i b t
  split at e
  ·rename_i d hd;have T:=hX _ (E6 hd);rw[HM.run_eq]at e
   cases he:(ab5 d (look aJ b s.env)).eval s.next h []with
   |none=>rw[he]at e;cases e
   |some q=>
    obtain⟨r1,h1,L1⟩:=q;rw[he]at e;obtain⟨rfl,u,h2,h3⟩:=U9 hR T (p7 b) he;obtain⟨x,h4,g1,h5⟩:=alU hR h3 e;exact⟨u,x,h4,g1,ahR h2,h5⟩
  ·cases e
theorem XJ{R:Type}{r:R}(hX:YX P X.tt):∀(rs:List Ty) (rvs:List ResultVar) (h:bg) (g:G) (k:(lO rs).den→bg→Option R),HR w0 Z0 Zp h g w→(∀t,AR w w0.heap.size Zp h g (look aJ t s.env) (a.tmps.getD t undef))→xk X s rs rvs h k=some r→
  ∃vs x h1 g1,(rvs.mapM (Rj a.tmps)).run P w= .ok vs w∧k x h1=some r∧HR w0 Z0 Zp h1 g1 w∧Le Zp h g w h1 g1 w∧yw w g1.Z jT rs x vs
 |[],[],h,g,k,hR,p7,e=>⟨[],(),h,g,rfl,e,hR,Le.refl _ _ _ _,rfl⟩
 |[],_::_,h,g,k,hR,p7,e=>by cases e
 |[τ],[],h,g,k,hR,p7,e=>by cases e
 |[τ],[rv],h,g,k,hR,p7,e=>by
  obtain⟨v,x,h1,g1,h2,h3,h4,h5,h6,h7⟩:=alV hX hR p7 e;exact⟨[v],x,h1,g1,by simp[h2],h3,h4,h5,v,rfl,h7⟩
 |[τ],_::_::_,h,g,k,hR,p7,e=>by cases e
 |τ::σ::rs,[],h,g,k,hR,p7,e=>by cases e
 |τ::σ::rs,rv::rvs,h,g,k,hR,p7,e=>by
  obtain⟨v,x,h1,g1,h2,h3,h4,h5,h6,h7⟩:=alV hX hR p7 e;obtain⟨vs,y,h8,g2,k2,k3,k4,k5,k6⟩:=XJ hX (σ::rs) rvs h1 g1 _ h4 (fun t=>AR.mono h5 _ _ (p7 t)) h3;exact⟨v::vs,(x,y),h8,g2,by simp[Sem.run_bind,h2,k2],k3,k4,h5.trans k5,v,vs,rfl,yv.mono k5.z (fun _ _ h=>h.elim) h7,k6⟩
theorem PK.avj{Z Zq:cD}(rs:List Ty)(x:(lO rs).den)(vs:List Value)(h:yw w Z Zq rs x vs):PK w Z Zq rs x (as9 vs):=by
 match rs,x,h with
 |[],x,h=>have h:vs=[]:=h;subst h;exact⟨[],rfl,rfl⟩
 |[τ],x,⟨v,e,hv⟩=>subst e;exact hv
 |[τ,σ],x,⟨v,rest,e,hv,u,e2,hu⟩=>subst e2;subst e;exact⟨[v,u],rfl,v,[u],rfl,hv,u,rfl,hu⟩
 |τ::σ::ρ::rs,x,⟨v,rest,e,hv,u,aw5,e2,hu⟩=>subst e2;subst e;exact⟨v::u::aw5,rfl,v,_,rfl,hv,u,aw5,rfl,hu⟩
theorem alW:∀(ps:List Ty) (x:(lO ps).den) (vs:List Value) (n:Nat),yw w g.Z Zp ps x vs→∀t,∃v,AR w w0.heap.size Zp h g (look aJ t (nB n (GM ps x))) v∧(t<n∨n+vs.length≤t∨vs[t -n]? =some v)∧(t<n∨n+vs.length≤t→look aJ t (nB n (GM ps x))=aJ)
 |[],x,vs,n,hv,t=>by
  have hv:vs=[]:=hv;subst hv;exact⟨undef,⟨_,[],rfl,trivial,rfl⟩,by simp;omega,fun _=>rfl⟩
 |[τ],x,vs,n,⟨v,e,hv⟩,t=>by
  subst e;show ∃v',AR w w0.heap.size Zp h g (look aJ t [(n,YV τ x)]) v'∧_∧(_→look aJ t [(n,YV τ x)]=aJ);rw[aU]
  by_cases ht:n=t
  ·subst ht;rw[if_pos rfl];exact⟨v,hv.toVR,by simp,fun h=>by simp at h;omega⟩
  ·rw[if_neg ht];exact⟨undef,⟨_,[],rfl,trivial,rfl⟩,by simp;omega,fun _=>rfl⟩
 |τ::σ::ps,x,vs,n,⟨v,rest,e,hv,hr⟩,t=>by
  subst e;show ∃v',AR w w0.heap.size Zp h g (look aJ t ((n,YV τ x.1)::nB (n+1) (GM (σ::ps) x.2))) v'∧_∧(_→look aJ t ((n,YV τ x.1)::nB (n+1) (GM (σ::ps) x.2))=aJ);rw[aU]
  by_cases ht:n=t
  ·subst ht;rw[if_pos rfl];exact⟨v,hv.toVR,by simp,fun h=>by simp at h;omega⟩
  ·rw[if_neg ht];obtain⟨u,h1,h2,h3⟩:=alW (σ::ps) x.2 rest (n+1) hr t;refine⟨u,h1,?_,fun h=>h3 (by simp at h ⊢;omega)⟩;rcases h2 with h2 |h2 |h2
   ·exact .inl (by omega)
   ·exact .inr (.inl (by simp;omega))
   ·by_cases h5:t<n+1
    ·exact .inl (by omega)
    ·refine .inr (.inr ?_);rw[show t -n=(t -(n+1))+1 by omega];simpa using h2
theorem ax8{Z:cD}{e0:Ty}(hs:0<e0.size){x:List e0.den}{v:Value}(hv:yv w Z Zp (.sl e0) x v)(hz:g.Z=Z):
  AR w w0.heap.size Zp h g (.v false [.sl e0 x .nn]) v∨(x=[]∧AR w w0.heap.size Zp h g (.v false [.sl e0 [] .nl]) v):=by
 have hv:PR w Z Zp (.sl e0) x [v]:=hv;have hv0:=hv;obtain⟨base,cap,us,e1,e2,e3,e4⟩:=hv
 cases e1
 cases base with
 |some b=>exact .inl (AR.rg ⟨by rw[hz];exact hv0,⟨_,_,_,rfl⟩⟩)
 |none=>
  have hus:us=[]:=by
   cases us with
   |nil=>rfl
   |cons u us=>
    obtain⟨b,off,hb,_⟩:=e4 (by simp)
    cases hb
  subst hus;have hx:x=[]:=by
   have:=dY.length (PR.length e0) _ _ e3
   cases x with
   |nil=>rfl
   |cons y l=>
    have h2:0<ae (y::l)*e0.size:=Nat.mul_pos (Nat.succ_pos _) hs;rw[←this]at h2;exact absurd h2 (by simp)
  subst hx;exact .inr ⟨rfl,AR.rg ⟨by rw[hz];exact hv0,⟨_,_,rfl⟩⟩⟩
def acN(w:World):W0:=⟨w,fun _=>False,fun _ _=>none,fun _=>none,fun _=>True⟩
def acO(Z:cD)(l:List (Nat×GK)):G:=⟨fun o=>o∈l.map (·.1),Z,fun _=>none,fun _=>0,fun _ _=>none⟩
theorem Rk(p:Nat):∀l:List (Nat×GK),look .dead p (sW l)= .dead∨(p∈l.map (·.1)∧∃K,(p,K)∈l∧look .dead p (sW l)= .gh true K [])
 |[]=> .inl rfl
 |(c,K)::r=>by
  show look .dead p ((c,.gh true K [])::sW r)= .dead∨(p∈((c,K)::r).map (·.1)∧∃K',(p,K')∈(c,K)::r∧look .dead p ((c,.gh true K [])::sW r)= .gh true K' []);rw[aU]
  split
  ·rename_i hc;subst hc;exact .inr ⟨by simp,K,by simp,rfl⟩
  ·rcases Rk p r with h |⟨h1,K',h2,h3⟩
   ·exact .inl h
   ·exact .inr ⟨by simp only[cj,List.mem_cons];exact .inr h1,K',by simp[h2],h3⟩
theorem HR.start(w:World)(Z Zp:cD)(hz:∀b i,Z b i→b<w.heap.size)(hzp:∀b i,Zp b i→b<w.heap.size)(l:List (Nat×GK))(hk:l.all (fun k=>k.2.ok)=true):HR (acN w) Z Zp (sW l) (acO Z l) w:=by
 have hgh:∀c wr K H,look .dead c (sW l)= .gh wr K H→wr=true∧H=[]∧K.ok=true:=by
  intro c wr K H hc;rcases Rk c l with h |⟨h1,K',h2,h3⟩
  ·rw[h]at hc;cases hc
  ·rw[h3]at hc;cases hc;rw[ei]at hk;exact⟨rfl,rfl,hk _ h2⟩
 have hG:∀c id b,¬ GL (sW l) (acO Z l) c id b:=fun c id b ⟨wr,K,H,x,e,h1,h2,h3,h4⟩=>by cases h3
 refine⟨⟨rfl,rfl,rfl,aA _,fun _ _ _=>rfl⟩,fun o=> ?_,fun o ha=> ?_,fun o b _ hb=>(by cases hb),fun o p b _ _ hb _=>(by cases hb),fun o b i _ hb=>(by cases hb),fun o b i _ hb=>(by cases hb),hz,fun b i _ h=> .inl h,fun b i h=>h,fun b i h=>⟨hzp b i h,fun h=>h⟩,
  ⟨fun c wr K H id x h1 h2=> ?_,fun _ _ _ _ _ _ _=>rfl,fun c id b h=>absurd h (hG c id b),fun c K H id x e _ _ h=>(by cases h),fun c id c' id' b h=>absurd h (hG c id b),fun c id b i h=>absurd h (hG c id b),fun c id b o h=>absurd h (hG c id b),fun c wr V H id e _ h=>(by cases h),fun c id e h=>h,fun c K H h=> ?_,fun c id b i h=>absurd h (hG c id b),fun c wr K H h=>(hgh c wr K H h).2.2,fun _ _ _ _=>trivial,fun c id e h=>(by cases h)⟩⟩
 ·rcases Rk o l with h |⟨_,K',_,h⟩
  ·rw[h];trivial
  ·rw[h];rfl
 ·rcases Rk o l with h |⟨h1,_⟩
  ·exact h
  ·exact absurd h1 ha
 ·rw[(hgh c wr K H h1).2.1]at h2;simp at h2
 ·have:=(hgh c false K H h).1;cases this
theorem tj{f:FuncId}{fn:Func}{e0 eT:Ty}{F:List e0.den→Option (List eT.den)}(hm:P.follows .mixedOrders=true)(hX:Ze P X)(hf:P.funcs[f]? =some fn)(hn:(fn.name=="runtime.NumGoroutine")=false)(hb:fn.body.isNone=false)(Zb:eT.cI=true)(hs:0<e0.size)
  (hF:∀x l,F x=some l→xl X fn eT [.v false [.sl e0 x .nn]]=some l∧(x=[]→xl X fn eT [.v false [.sl e0 [] .nl]]=some l)):
  x7 P f ⟨[.sl e0],eT,F⟩:=by
 refine⟨⟨fn,hf,hn,hb⟩,Zb,fun w0 Z Zp x r args hz hzp ha e1=> ?_⟩;obtain⟨g0,hg0⟩:∃g0:G,g0=acO Z []:=⟨_,rfl⟩;have hZ:g0.Z=Z:=by rw[hg0];rfl
 obtain⟨v,rfl,hv⟩:=ha;obtain⟨A0,hA0,e⟩:∃A0,AR w0 w0.heap.size Zp [] g0 A0 v∧xl X fn eT [A0]=some r:=by
  rcases ax8 (w0:=acN w0) (h:=[]) hs hv hZ with h1 |⟨h1,h2⟩
  ·exact⟨_,h1,(hF x r e1).1⟩
  ·exact⟨_,h2,(hF x r e1).2 h1⟩
 unfold xl at e
 split at e
 ·rename_i c t hc hnt aAk;refine calls_of_wp hf hc ?_;have hnt:X.nt≤fn.ntmps:=by simpa[Nat.ble_eq]using hnt
  have hR:HR (acN w0) Z Zp [] g0 w0:=by rw[hg0];exact HR.start w0 Z Zp hz hzp [] rfl
  have p7:∀t,AR w0 w0.heap.size Zp [] g0 (look aJ t (nB 0 [A0])) (([v].toArray++Array.replicate (fn.ntmps - [v].toArray.size) undef).getD t undef):=by
   intro t;show AR w0 w0.heap.size Zp [] g0 (look aJ t [(0,A0)]) _;rw[aU]
   by_cases ht:0=t
   ·subst ht;rw[if_pos rfl];have:([v].toArray++Array.replicate (fn.ntmps - [v].toArray.size) undef).getD 0 undef=v:=by
     rw[bJ,Array.getElem?_append_left (by simp)];simp
    rw[this];exact hA0
   ·rw[if_neg ht];exact⟨_,[],rfl,trivial,rfl⟩
  refine acM hX hm c _ r _ _ g0 _ w0 e ⟨p7,hR,?_,rfl⟩ (fun p hp=>by rw[hg0]at hp;exact(by simp[acO]at hp)) fun ex s g a w hk hS hal=> ?_
  ·simp;omega
  ·have hres:(match look aJ t s.env with
     |.v false [c]=>(alg eT c s.heap).map (·.1)
     |_=>none)=some r→a.defers=[]∧∃v,(results fn a.tmps).run P w= .ok v w∧∃v' ob,Ending.returned v= .returned v'∧w0.Extends w∧PR w (asH Z w0 w ob (r.length*eT.size)) jT (.sl eT) r [v']∧asI w0 w eT.size r.length ob v':=by
    intro hk;have hrun:(fn.results.toList.mapM (Rj a.tmps)).run P w= .ok [a.tmps.getD t undef] w:=by
     rw[aAk];simp[Rj]
    have hst:=hS.env t
    split at hk
    ·rename_i c hc;rw[hc]at hst;have hst:=hst.c;unfold alg at hk
     split at hk
     ·cases hk;have hst:a.tmps.getD t undef= .slice none 0 0:=hst;refine⟨hS.defers,_,Cz fn a.tmps _ hrun,_,none,rfl,hS.hr.ext.world (fun _ h=>h),?_,.inl ⟨rfl,hst,rfl⟩⟩;show PR w _ _ (.sl eT) [] [a.tmps.getD t undef];rw[hst];exact⟨none,0,[],rfl,aA _,rfl,fun h=>absurd rfl h⟩
     ·rename_i e' l' o _
      split at hk
      ·rename_i afZ
       split at hk
       ·rename_i l hl
        cases hk;obtain⟨rfl,rfl⟩:=oE hl;obtain⟨hp,ht⟩:=hst;have hT:=ht.2 afZ;refine⟨hS.defers,_,Cz fn a.tmps _ hrun,_,g.hm o,rfl,hS.hr.ext.world (fun _ h=>h),?_,?_⟩
        ·refine PR.cI (.sl e') _ _ (by simpa[Ty.cI]using Zb) (PR.mono (Z:=g.Z) (fun b i hb=>⟨?_,rfl⟩) (dK.refl _ _) _ _ _ hp)
         by_cases hlt:b<w0.heap.size
         ·exact .inl ((hS.hr.JZ b i hlt hb).resolve_right (fun h=>h))
         ·refine .inr ⟨by omega,hS.hr.Nb b i hb,fun od=> ?_⟩;have h1:=hS.hr.Na o b i afZ od hb;rcases hT with⟨h2,_⟩|⟨b',cap,cur,e0',h2,_,_,_,_,_,_,h9⟩
          ·rw[h2]at od;cases od
          ·rw[h9]at h1;exact h1
        ·rcases hT with⟨h2,h3,h4⟩|⟨b',cap,cur,e0',h2,h3,h4,h5,h6,h7,h8,h9⟩
         ·exact .inl ⟨h2,h3,h4⟩
         ·exact .inr ⟨b',cap,cur,e0',h2,h3,h4,h5,h6,h7,h8⟩
       ·cases hk
      ·cases hk
     ·cases hk
    ·cases hk
   cases ex with
   |normal=>exact hres hk
   |ret=>exact hres hk
   |exit id=>cases hk
 ·cases e
theorem dL{f:FuncId}{fn:Func}{ps rs:List Ty}(hm:P.follows .mixedOrders=true)(hX:Ze P X)(hf:P.funcs[f]? =some fn)(hn:(fn.name=="runtime.NumGoroutine")=false)(hb:fn.body.isNone=false)(Zb:rs.all Ty.cI=true):
  aq P f ⟨ps,rs,am X fn ps rs⟩:=by
 refine⟨⟨fn,hf,hn,hb⟩,Zb,fun w0 Z Zp x r args hz hzp ha e=> ?_⟩;replace e:am X fn ps rs x=some r:=e;unfold am at e
 split at e
 ·cases e
 ·cases e
 ·rename_i c hc hnt;refine calls_of_wp hf hc ?_;rw[aj]at hnt;obtain⟨hnt,hlo⟩:=hnt;have hnt:X.nt≤fn.ntmps:=by simpa[Nat.ble_eq]using hnt
  unfold apY at hlo;rw[aj]at hlo;have hlo:=hlo.2;have hlk:X.loc.all (fun k=>k.2.ok)=true:=by
   rw[ei]at hlo ⊢;intro k hk;have:=hlo k hk;rw[aj]at this;exact this.2
  have GG:∀p,p∈X.loc.map (·.1)→p<X.nc:=by
   intro p hp;obtain⟨k,hk,rfl⟩:=List.mem_map.1 hp;rw[ei]at hlo;have:=hlo k hk;rw[aj]at this;simpa[fl]using this.1
  obtain⟨g0,hg0⟩:∃g0:G,g0=acO Z X.loc:=⟨_,rfl⟩;have hZ:g0.Z=Z:=by rw[hg0];rfl
  have hR:HR (acN w0) Z Zp (sW X.loc) g0 w0:=by rw[hg0];exact HR.start w0 Z Zp hz hzp X.loc hlk
  have p7:∀t,AR w0 w0.heap.size Zp (sW X.loc) g0 (look aJ t (nB 0 (GM ps x))) ((args.toArray++Array.replicate (fn.ntmps -args.toArray.size) undef).getD t undef):=by
   intro t;obtain⟨v,h1,h2,h3⟩:=alW (w:=w0) (w0:=acN w0) (Zp:=Zp) (g:=g0) (h:=sW X.loc) ps x args 0 (by rw[hZ];exact ha) t
   by_cases ht:0+args.length≤t
   ·rw[h3 (.inr ht)];exact⟨_,[],rfl,trivial,rfl⟩
   ·have h2:args[t]? =some v:=by
     rcases h2 with h2 |h2 |h2
     ·omega
     ·omega
     ·exact h2
    have hlt:t<args.length:=by omega
    have:(args.toArray++Array.replicate (fn.ntmps -args.toArray.size) undef).getD t undef=v:=by
     rw[bJ,Array.getElem?_append_left (by simpa using hlt)];simp[h2]
    rw[this];exact h1
  refine acM hX hm c _ r _ _ g0 _ w0 e ⟨p7,hR,?_,rfl⟩ (fun p hp=>by rw[hg0]at hp;exact GG p hp) fun ex s g a w hk hS hal=> ?_
  ·simp;omega
  ·have hres:xk X s rs fn.results.toList s.heap (fun r _=>some r)=some r→a.defers=[]∧∃v,(results fn a.tmps).run P w= .ok v w∧∃v',Ending.returned v= .returned v'∧w0.Extends w∧PK w (Zc Z w0 w) jT rs r v':=by
    intro hk;obtain⟨vs,y,h1,g1,k1,k2,k3,k4,k5⟩:=XJ hX.tt rs _ _ _ _ hS.hr hS.env hk
    cases k2;refine⟨hS.defers,_,Cz fn a.tmps vs k1,_,rfl,hS.hr.ext.world (fun _ h=>h),?_⟩;have hzz:dK w w g1.Z (Zc Z w0 w):=fun b i hb=>⟨by
     by_cases hlt:b<w0.heap.size
     ·exact .inl ((k3.JZ b i hlt hb).resolve_right (fun h=>h))
     ·exact .inr ⟨by omega,k3.Nb b i hb⟩,rfl⟩
    exact PK.map (p:=fun _=>true) (fun τ x v _ hh=>yv.mono hzz (dK.refl _ _) hh) _ _ _ (by simp) (PK.avj rs r vs k5)
   cases ex with
   |normal=>exact hres hk
   |ret=>exact hres hk
   |exit id=>cases hk
end
section
variable {P:Program} {w0:W0} {w:World} {Z0 Zp:cD} {g:G} {X:Cx} {a:Act} {s:St} {h h':bg}
theorem HR.only(R:HR w0 Z0 Zp h g w)(hs:∀o,look .dead o h'=look .dead o h∨look .dead o h'= .dead):HR w0 Z0 Zp h' g w:=by
 have back:∀o,look .dead o h'≠.dead→look .dead o h'=look .dead o h:=fun o ho=>(hs o).resolve_right ho;have bd:∀o,look .dead o h'≠.dead→look .dead o h≠.dead:=fun o ho=>back o ho▸ho;have L:Le Zp h g w h' g w:=⟨fun _ h=>h,dK.refl _ _,dK.refl _ _,fun o _=>by
  rcases hs o with h1 |h1
  ·rw[h1];exact Ob.to.refl _
  ·exact .inl h1,fun _ _ _=>rfl,fun _ _ _=>⟨rfl,fun _ _=>rfl⟩,fun _ _ _ h=>h⟩
 refine⟨R.ext,fun o=> ?_,fun o ho=> ?_,fun o b hd hb=>R.home o b (bd o hd) hb,fun o p b hd hd' hb hb'=>R.oa o p b (bd o hd) (bd p hd') hb hb',fun o b i ho hb=>R.lq o b i (back o (fun hd=>by rw[hd]at ho;cases ho)▸ho) hb,fun o b i ho hb=>R.Na o b i (back o (fun hd=>by rw[hd]at ho;cases ho)▸ho) hb,R.Nb,R.JZ,R.z0,R.zp,
  R.gh.awV (fun c wr K H hc=>(back c (by rw[hc];simp))▸hc) rfl R.gh.lq (fun c id b o hG hd=>R.gh.loc c id b o hG (bd o hd)) (fun c id K x hk hc=>vp.move (w':=w) (g':=g) (fun _ _ h=>⟨h,rfl⟩) (fun _ _ _ h=>h) (fun _ _=>rfl) K x hk hc)⟩
 ·rcases hs o with h1 |h1
  ·rw[h1];exact QZ.mono L (.inr rfl) (fun _ _ _=>rfl) (R.ob o)
  ·rw[h1];trivial
 ·rcases hs o with h1 |h1
  ·rw[h1];exact R.dead o ho
  ·exact h1
theorem ahS{R:Type}{r:R}{V:VT}{A0:A}{v:Value}{k:V.den→bg→Option R}(hR:HR w0 Z0 Zp h g w)(ha:AR w w0.heap.size Zp h g A0 v)(e:sx.valK s V A0 h k=some r):
  ∃x h1 g1,k x h1=some r∧HR w0 Z0 Zp h1 g1 w∧Le Zp h g w h1 g1 w∧AR w w0.heap.size Zp h1 g1 (E5 V x) v:=by
 unfold sx.valK at e
 split at e
 ·rename_i gg cs
  split at e
  ·rename_i hc;rw[aj]at hc;rw[HM.run_eq]at e;obtain⟨vs,hcs,h1,h2⟩:=VR.list ha
   cases he:(jM true cs fun cs=> .ret (.v gg cs)).eval s.next h []with
   |none=>rw[he]at e;cases e
   |some q=>
    rw[he]at e;obtain⟨cs',h3,g3,L3,e3,R3,Le3,hg3,aoq⟩:=fq _ _ h g _ _ _ hR hcs he;have:=gW e3;subst this;have e:(match V.dG cs' with
     |some x=>k x h3
     |none=>none)=some r:=e
    split at e
    ·rename_i x hx;refine⟨x,h3,g3,e,R3,Le3,?_⟩;have wi:=VT.sB hc.2 aoq hx;have hgg:=toBeq hc.1;show VR w w0.heap.size Zp h3 g3 V.isAgg (V.cells x) v;rw[←hgg]
     cases gg with
     |true=>exact⟨vs,h1 rfl,wi⟩
     |false=>rw[h2 rfl]at wi;exact wi
    ·cases e
  ·cases e
 ·cases e
theorem ahT{R:Type}{r:R}(hX:YX P X.tt){V:VT}{rv:ResultVar}{k:V.den→bg→Option R}(hR:HR w0 Z0 Zp h g w)(p7:∀t,AR w w0.heap.size Zp h g (look aJ t s.env) (a.tmps.getD t undef))(e:sx.resK X s V rv h k=some r):
  ∃v x h1 g1,(Rj a.tmps rv).run P w= .ok v w∧k x h1=some r∧HR w0 Z0 Zp h1 g1 w∧Le Zp h g w h1 g1 w∧AR w w0.heap.size Zp h1 g1 (E5 V x) v:=by
 unfold sx.resK at e
 split at e
 ·rename_i t;obtain⟨x,h1,g1,h2⟩:=ahS hR (p7 t) e;exact⟨_,x,h1,g1,rfl,h2⟩
 ·rename_i b t
  split at e
  ·rename_i d hd;have T:=hX _ (E6 hd);rw[HM.run_eq]at e
   cases he:(ab5 d (look aJ b s.env)).eval s.next h []with
   |none=>rw[he]at e;cases e
   |some q=>
    obtain⟨r1,h1,L1⟩:=q;rw[he]at e;obtain⟨rfl,u,h2,h3⟩:=U9 hR T (p7 b) he;obtain⟨x,h4,g1,h5⟩:=ahS hR h3 e;exact⟨u,x,h4,g1,ahR h2,h5⟩
  ·cases e
theorem Rl{R:Type}{r:R}(hX:YX P X.tt):∀(rs:List VT) (rvs:List ResultVar) (h:bg) (g:G) (k:(Ck rs).den→bg→Option R),HR w0 Z0 Zp h g w→(∀t,AR w w0.heap.size Zp h g (look aJ t s.env) (a.tmps.getD t undef))→sx X s rs rvs h k=some r→
  ∃vs x h1 g1,(rvs.mapM (Rj a.tmps)).run P w= .ok vs w∧k x h1=some r∧HR w0 Z0 Zp h1 g1 w∧Le Zp h g w h1 g1 w∧PM w w0.heap.size Zp h1 g1 rs x vs
 |[],[],h,g,k,hR,p7,e=>⟨[],(),h,g,rfl,e,hR,Le.refl _ _ _ _,rfl⟩
 |[],_::_,h,g,k,hR,p7,e=>by cases e
 |[V],[],h,g,k,hR,p7,e=>by cases e
 |[V],[rv],h,g,k,hR,p7,e=>by
  obtain⟨v,x,h1,g1,h2,h3,h4,h5,h6⟩:=ahT hX hR p7 e;exact⟨[v],x,h1,g1,by simp[h2],h3,h4,h5,v,rfl,h6⟩
 |[V],_::_::_,h,g,k,hR,p7,e=>by cases e
 |V::U::rs,[],h,g,k,hR,p7,e=>by cases e
 |V::U::rs,rv::rvs,h,g,k,hR,p7,e=>by
  obtain⟨v,x,h1,g1,h2,h3,h4,h5,h6⟩:=ahT hX hR p7 e;obtain⟨vs,y,h8,g2,k2,k3,k4,k5,k6⟩:=Rl hX (U::rs) rvs h1 g1 _ h4 (fun t=>AR.mono h5 _ _ (p7 t)) h3;exact⟨v::vs,(x,y),h8,g2,by simp[Sem.run_bind,h2,k2],k3,k4,h5.trans k5,v,vs,rfl,AR.mono k5 _ _ h6,k6⟩
theorem ahU{base:Nat}:∀(rs:List VT) (x:(Ck rs).den) (vs:List Value),PM w base Zp h g rs x vs→dY (fun(p:Bool×List C) es=>∃u,es=[u]∧VR w base Zp h g p.1 p.2 u) (ab2 rs x) vs
 |[],_,_,hh=>hh
 |[V],x,_,⟨v,e,hv⟩=>⟨[v],[],by simp[e],⟨v,rfl,hv⟩,rfl⟩
 |V::U::r,x,_,⟨v,rest,e,hv,hr⟩=>⟨[v],rest,by simp[e],⟨v,rfl,hv⟩,ahU (U::r) x.2 rest hr⟩
theorem aox{base:Nat}(rs:List VT)(x:(Ck rs).den)(vs:List Value)(hh:PM w base Zp h g rs x vs):AR w base Zp h g (MJ rs x) (as9 vs):=by
 match rs,x,hh with
 |[],x,hh=>have hh:vs=[]:=hh;subst hh;exact⟨[],rfl,rfl⟩
 |[V],x,⟨v,e,hv⟩=>subst e;exact hv
 |V::U::r,x,hh=>
  have h2:=ahU _ _ _ hh;obtain⟨v,rest,e,hv,hr⟩:=hh;have:∃u r2,rest=u::r2:=by
   cases r with
   |nil=>obtain⟨u,e2,_⟩:=hr;exact⟨u,[],e2⟩
   |cons _ _=>obtain⟨u,r2,e2,_⟩:=hr;exact⟨u,r2,e2⟩
  obtain⟨u,r2,rfl⟩:=this;subst e;exact⟨v::u::r2,rfl,h2⟩
theorem ahV:∀(ps:List VT) (x:(Ck ps).den) (vs:List Value) (n:Nat),PM w w0.heap.size Zp h g ps x vs→∀t,∃v,AR w w0.heap.size Zp h g (look aJ t (nB n (Ad ps x))) v∧(t<n∨n+vs.length≤t∨vs[t -n]? =some v)∧(t<n∨n+vs.length≤t→look aJ t (nB n (Ad ps x))=aJ)
 |[],x,vs,n,hv,t=>by
  have hv:vs=[]:=hv;subst hv;exact⟨undef,⟨_,[],rfl,trivial,rfl⟩,by simp;omega,fun _=>rfl⟩
 |[V],x,vs,n,⟨v,e,hv⟩,t=>by
  subst e;show ∃v',AR w w0.heap.size Zp h g (look aJ t [(n,E5 V x)]) v'∧_∧(_→look aJ t [(n,E5 V x)]=aJ);rw[aU]
  by_cases ht:n=t
  ·subst ht;rw[if_pos rfl];exact⟨v,hv,by simp,fun h=>by simp at h;omega⟩
  ·rw[if_neg ht];exact⟨undef,⟨_,[],rfl,trivial,rfl⟩,by simp;omega,fun _=>rfl⟩
 |V::U::ps,x,vs,n,⟨v,rest,e,hv,hr⟩,t=>by
  subst e;show ∃v',AR w w0.heap.size Zp h g (look aJ t ((n,E5 V x.1)::nB (n+1) (Ad (U::ps) x.2))) v'∧_∧(_→look aJ t ((n,E5 V x.1)::nB (n+1) (Ad (U::ps) x.2))=aJ);rw[aU]
  by_cases ht:n=t
  ·subst ht;rw[if_pos rfl];exact⟨v,hv,by simp,fun h=>by simp at h;omega⟩
  ·rw[if_neg ht];obtain⟨u,h1,h2,h3⟩:=ahV (U::ps) x.2 rest (n+1) hr t;refine⟨u,h1,?_,fun h=>h3 (by simp at h ⊢;omega)⟩;rcases h2 with h2 |h2 |h2
   ·exact .inl (by omega)
   ·exact .inr (.inl (by simp;omega))
   ·by_cases h5:t<n+1
    ·exact .inl (by omega)
    ·refine .inr (.inr ?_);rw[show t -n=(t -(n+1))+1 by omega];simpa using h2
theorem XK:∀(l:List (Nat×GK)) (y:gU l),acd h l=some y→∀p ob,iE true l y p=some ob→look .dead p h=ob
 |[],_,_,p,ob,ho=>by cases ho
 |(c,K)::r,y,hg,p,ob,ho=>by
  unfold acd at hg
  split at hg
  ·rename_i K' H hc
   split at hg
   ·rename_i H' z hH hz
    cases hg;obtain⟨hK,rfl⟩:=kd hH;subst hK;have ho2:(if c=p then some (Ob.gh true K' H)else iE true r z p)=some ob:=ho;clear ho
    by_cases hcp:c=p
    ·rw[if_pos hcp]at ho2;subst hcp
     cases ho2;exact hc
    ·rw[if_neg hcp]at ho2;exact XK r z hz p ob ho2
   ·cases hg
  ·cases hg
theorem my{f:FuncId}{fn:Func}{ps rs:List VT}{ws os:List (Nat×GK)}(hm:P.follows .mixedOrders=true)(hX:Ze P X)(hf:P.funcs[f]? =some fn)(hn:(fn.name=="runtime.NumGoroutine")=false)(hb:fn.body.isNone=false)(hok:rs.all VT.ok=true):
  qv P f ⟨ps,rs,ws,os,sZ X fn ps rs ws os⟩:=by
 refine⟨⟨fn,hf,hn,hb⟩,hok,fun w0 Z0 Zp g0 x hs ho r hs' args hR aDc ha e=> ?_⟩;replace e:sZ X fn ps rs ws os x hs ho=some (r,hs'):=e;unfold sZ at e
 split at e
 ·rename_i c hc hnt hlo;refine calls_of_wp hf hc ?_;have hnt:X.nt≤fn.ntmps:=by simpa[Nat.ble_eq]using hnt
  unfold apY at hlo;rw[aj]at hlo;have GG:∀p,p∈(ws++os).map (·.1)→p<X.nc:=by
   intro p hp;obtain⟨k,hk,rfl⟩:=List.mem_map.1 hp;have h2:=hlo.2;rw[ei]at h2;have:=h2 k hk;rw[aj]at this;simpa[fl]using this.1
  have p7:∀t,AR w0.toWorld w0.heap.size Zp (dJ true ws hs++dJ false os ho) g0 (look aJ t (nB 0 (Ad ps x))) ((args.toArray++Array.replicate (fn.ntmps -args.toArray.size) undef).getD t undef):=by
   intro t;obtain⟨v,h1,h2,h3⟩:=ahV (w:=w0.toWorld) (w0:=w0) (Zp:=Zp) (g:=g0) (h:=dJ true ws hs++dJ false os ho) ps x args 0 ha t
   by_cases ht:0+args.length≤t
   ·rw[h3 (.inr ht)];exact⟨_,[],rfl,trivial,rfl⟩
   ·have h2:args[t]? =some v:=by
     rcases h2 with h2 |h2 |h2
     ·omega
     ·omega
     ·exact h2
    have hlt:t<args.length:=by omega
    have:(args.toArray++Array.replicate (fn.ntmps -args.toArray.size) undef).getD t undef=v:=by
     rw[bJ,Array.getElem?_append_left (by simpa using hlt)];simp[h2]
    rw[this];exact h1
  refine acM hX hm c _ (r,hs') _ _ g0 _ w0.toWorld e ⟨p7,hR,?_,rfl⟩ (fun p hp=>GG p (aDc p hp)) fun ex s g a w hk hS hal=> ?_
  ·simp;omega
  ·have hres:(sx X s rs fn.results.toList s.heap fun r h=>match acd h ws with
     |some y=>some (r,y)
     |none=>none)=some (r,hs')→a.defers=[]∧∃v,(results fn a.tmps).run P w= .ok v w∧∃v' g',Ending.returned v= .returned v'∧HR w0 Z0 Zp (dJ true ws hs') g' w∧AR w w0.heap.size Zp (dJ true ws hs') g' (MJ rs r) v':=by
    intro hk;obtain⟨vs,y,h1,g1,k1,k2,k3,k4,k5⟩:=Rl hX.tt rs _ _ _ _ hS.hr hS.env hk
    split at k2
    ·rename_i z hz
     cases k2;have hlk:∀p,look .dead p (dJ true ws hs')=look .dead p h1∨look .dead p (dJ true ws hs')= .dead:=fun p=>by
      have:=J7 true p [] ws hs';rw[cK]at this;rw[this]
      cases od:iE true ws hs' p with
      |none=>exact .inr rfl
      |some ob=>exact .inl (XK ws hs' hz p ob od).symm
     refine⟨hS.defers,_,Cz fn a.tmps vs k1,_,g1,rfl,k3.only hlk,?_⟩;exact Rc (g:=g1) (g1:=g1) (fun _ _ h=>⟨h,rfl⟩) (fun _ _ _ h=>h) rs r _ hok (aox rs r vs k5)
    ·cases k2
   cases ex with
   |normal=>exact hres hk
   |ret=>exact hres hk
   |exit id=>cases hk
 ·cases e
theorem alX{f:FuncId}{fn:Func}{ps rs:List VT}{ws os:List (Nat×GK)}(hf:P.funcs[f]? =some fn)(hn:(fn.name=="runtime.NumGoroutine")=false)(hb:fn.body.isNone=false)(hok:rs.all VT.ok=true):
  qv P f ⟨ps,rs,ws,os,fun _ _ _=>none⟩:=
 ⟨⟨fn,hf,hn,hb⟩,hok,fun _ _ _ _ _ _ _ _ _ _ _ _ _ e=>by cases e⟩
end
open Go Go.ChangeShapes Go.WideShapes Go.ChangeAt Go.RowKit
def wfT:(τ:Ty)→τ.den→Prop
 |.int k,n=>k.min≤(show Int from n)∧(show Int from n)≤k.max
 |.sl e,l=>∀x:e.den,x∈(show List e.den from l)→wfT e x
 |.pair a b,x=>wfT a x.1∧wfT b x.2
 |.ref a,x=>wfT a x
 |_,_=>True
def bC:(τ:Ty)→τ.den→Nat
 |.bool,_=>1
 |.int _,_=>1
 |.str,s=>ae s+1
 |.sl e,l=>1+((l:List e.den).map (bC e)).sum
 |.pair a b,x=>bC a x.1+bC b x.2
 |.unit,_=>0
 |.ref a,x=>bC a x
 |.fn _,_=>0
 |.cl _ _,_=>0
def partsOf:Nat→Ty→Option (List Ty)
 |0,_=>some []
 |1,τ=>some [τ]
 |k+2,.pair a b=>(partsOf (k+1) b).map (a::·)
 |_+2,_=>none
def avk:Nat→Ty→Option (List Ty)
 |1,.pair a _=>some [a]
 |k,τ=>partsOf k τ
def acP(P:Program)(f:Ty→TypeId→Bool):Nat→List Field→List Ty→Bool
 |_,[],[]=>true
 |off,fd::fs,τ::τs=>bU fd.offset off&&bU (P.cellsOf fd.type) τ.size&&f τ fd.type&&acP P f (off+τ.size) fs τs
 |_,_,_=>false
def U8(a b:Ty):Bool:=match decEq a b with
 |.isTrue _=>true
 |.isFalse _=>false
theorem CA{a b:Ty}(h:U8 a b=true):a=b:=by
 unfold U8 at h
 split at h
 ·assumption
 ·cases h
def ajn(P:Program):Nat→Ty→TypeId→Bool
 |0,_,_=>false
 |n+1,τ,t=>match P.underlying t with
  |some .bool=>U8 τ .bool
  |some (.int k)=>U8 τ (.int k)
  |some .string=>U8 τ .str
  |some (.slice e)=>match τ with
   |.sl σ=>bU (P.cellsOf e) σ.size&&Nat.blt 0 σ.size&&ajn P n σ e
   |_=>false
  |some (.struct fs)=>bU (P.cellsOf t) τ.size&&(match avk fs.size τ with
   |some l=>U8 (azI l) τ&&acP P (ajn P n) 0 fs.toList l
   |none=>false)
  |_=>false
structure Blk {H:Type} (bk:DataW H→Nat):Prop where
 lit:∀l,1≤bk (.lit l)
 str:∀s,s.length+1≤bk (.lit (.string s))
 nil:1≤bk .nil
 slice:∀es sp,1+(es.map bk).sum≤bk (.slice es sp)
 agg:∀ps,(ps.map bk).sum≤bk (.agg ps)
section
variable {H:Type} {enc:TypeId×Value→H} {P:Program} {w:World} {Zp:cD} {sp:Nat→Bool} {bk:DataW H→Nat}
theorem arb{a:Addr}{n:Nat}{cs:List Value}(h:w.cells? 0 a n=some cs):cs.length=n∧∀j,j<n→w.cell? (a.add j)=cs[j]? :=by
 unfold World.cells? at h;rw[if_pos (Nat.zero_le _)]at h;exact⟨by simpa using mapM_some_length h,fun j hj=>mapM_some_get h j j (by simp[hj])⟩
theorem arc{a:Addr}{v:Value}(h:w.cell? a=some v):a.spot=none∧a.block<w.heap.size:=by
 refine⟨?_,World.block_lt_of_cell? w a h⟩;unfold World.cell? at h
 split at h
 ·split at h
  ·cases h
  ·rename_i hs;simpa using hs
 ·cases h
theorem aqb{f:Ty→TypeId→Bool}{n:Nat}{cs:List Value}(hf:∀τ t cs d ps,f τ t=true→DataW.trod enc P w 0 sp true n t cs=some (d,ps)→∃x:τ.den,PR w (All w) Zp τ x cs∧wfT τ x∧bC τ x≤bk d):
  ∀(fs:List Field) (l:List Ty) (off:Nat) (xs:List (DataW H×List MemPlace)),acP P f off fs l=true→xs.length=fs.length→cs.length=off+(lO l).size→
   (∀(i:Nat) (fd:Field),fs[i]? =some fd→DataW.trod enc P w 0 sp true n fd.type ((cs.drop fd.offset).take (P.cellsOf fd.type))=xs[i]?)→
   ∃x:(lO l).den,PR w (All w) Zp (lO l) x (cs.drop off)∧wfT (lO l) x∧bC (lO l) x≤((xs.map (·.1)).map bk).sum
 |[],[],off,xs,_,hx,hc,_=>⟨(),by
   have:cs.length=off:=by simpa[lO,Ty.size]using hc
   show cs.drop off=[];simp[this],trivial,Nat.zero_le _⟩
 |[],_::_,_,_,h,_,_,_=>by cases h
 |_::_,[],_,_,h,_,_,_=>by cases h
 |fd::fs,[τ],off,xs,h,hx,hc,ht=>by
  simp only[acP,aj]at h;obtain⟨⟨⟨h1,h2⟩,h3⟩,h4⟩:=h
  cases fs with
  |cons _ _=>cases h4
  |nil=>
   match xs,hx with
   |[x0],_=>
    have h5:=ht 0 fd rfl;rw[az h1,az h2]at h5;obtain⟨x,a1,a2,a3⟩:=hf τ fd.type _ x0.1 x0.2 h3 (by rw[h5];rfl);have hlen:(cs.drop off).length=τ.size:=by rw[dI,hc];show off+τ.size -off=τ.size;omega
    rw[←hlen,ch]at a1;exact⟨x,a1,a2,by show bC τ x≤_;simpa using a3⟩
 |fd::fs,τ::σ::l,off,xs,h,hx,hc,ht=>by
  simp only[acP,aj]at h;obtain⟨⟨⟨h1,h2⟩,h3⟩,h4⟩:=h
  match xs,hx with
  |x0::xs,hx=>
   have h5:=ht 0 fd rfl;rw[az h1,az h2]at h5;obtain⟨x,a1,a2,a3⟩:=hf τ fd.type _ x0.1 x0.2 h3 (by rw[h5];rfl);obtain⟨y,b1,b2,b3⟩:=aqb hf fs (σ::l) (off+τ.size) xs h4 (by simpa using hx) (by rw[hc];show off+(τ.size+(lO (σ::l)).size)=_;omega) (fun i fd hi=>ht (i+1) fd hi);refine⟨(x,y),⟨_,_,?_,a1,b1⟩,⟨a2,b2⟩,?_⟩
   ·rw[←List.drop_drop,cH]
   ·show bC τ x+bC (lO (σ::l)) y≤_;simp only[cj,dS];omega
theorem aw6{n:Nat}{σ:Ty}{e:TypeId}{a:Addr}(hs:0<σ.size)(he:P.cellsOf e=σ.size)(hf:∀cs d ps,DataW.trod enc P w 0 sp true n e cs=some (d,ps)→∃x:σ.den,PR w (All w) Zp σ x cs∧wfT σ x∧bC σ x≤bk d):
  ∀(elems:List (DataW H×List MemPlace)) (k:Nat),(∀i,i<elems.length→(w.cells? 0 (a.add ((k+i)*P.cellsOf e)) (P.cellsOf e)).bind (DataW.trod enc P w 0 sp true n e)=elems[i]?)→
   ∃(l:List σ.den) (us:List Value),l.length=elems.length∧dY (PR w (All w) Zp σ) l us∧(∀x,x∈l→wfT σ x)∧(l.map (bC σ)).sum≤((elems.map (·.1)).map bk).sum∧∀j u,us[j]? =some u→w.cell? (a.add (k*σ.size+j))=some u
 |[],k,_=>⟨[],[],rfl,rfl,fun _ h=>(by cases h),aA _,fun j u h=>(by simp at h)⟩
 |x0::r,k,h=>by
  have h0:=h 0 (by simp);simp only[Nat.add_zero,eY,Option.bind_eq_some_iff]at h0;obtain⟨cs,h1,h2⟩:=h0;obtain⟨x,a1,a2,a3⟩:=hf cs x0.1 x0.2 h2;obtain⟨hcl,hcg⟩:=arb h1;obtain⟨l,us,b1,b2,b3,b4,b5⟩:=aw6 hs he hf r (k+1) (fun i hi=>by have:=h (i+1) (by simpa using hi);rw[show k+1+i=k+(i+1)by omega];exact this);refine⟨x::l,cs++us,by simp[b1],⟨cs,us,rfl,a1,b2⟩,?_,?_,?_⟩
  ·intro z hz;rcases List.mem_cons.1 hz with rfl |hz
   ·exact a2
   ·exact b3 z hz
  ·simp only[cj,dS];omega
  ·intro j u hj;rw[he]at hcl hcg
   by_cases hlt:j<cs.length
   ·rw[aQ hlt]at hj;have:=hcg j (by omega);rw[←hj,←this,Addr.add_add]
   ·rw[bh (by omega)]at hj;have:=b5 _ u hj;rw[←this,hcl,Nat.succ_mul];congr 2;omega
theorem ajo(B:Blk bk):∀(fuel n:Nat) (τ:Ty) (t:TypeId) (cs:List Value) (d:DataW H) (ps:List MemPlace),ajn P n τ t=true→DataW.trod enc P w 0 sp true fuel t cs=some (d,ps)→
  ∃x:τ.den,PR w (All w) Zp τ x cs∧wfT τ x∧bC τ x≤bk d
 |fuel,0,_,_,_,_,_,h,_=>by cases h
 |fuel,n+1,τ,t,cs,d,ps,h,ht=>by
  unfold ajn at h
  split at h
  ·rename_i hu;obtain⟨b,rfl,hx⟩:=DataW.trod_bool hu ht
   cases hx;have:=CA h;subst this;exact⟨b,rfl,trivial,B.lit _⟩
  ·rename_i k hu;obtain⟨m,rfl,hx,hw⟩:=DataW.trod_int hu ht
   cases hx;have:=CA h;subst this;simp only[Lit.wf,aj,decide_eq_true_eq]at hw;exact⟨m,rfl,hw,B.lit _⟩
  ·rename_i hu;obtain⟨s,rfl,hx,_⟩:=DataW.trod_string hu ht
   cases hx;have:=CA h;subst this;refine⟨s.data.toList,?_,trivial,B.str _⟩;show[Value.string s]=[.string ⟨s.data.toList.toArray⟩];simp
  ·rename_i e hu
   split at h
   ·rename_i σ;simp only[aj]at h;obtain⟨⟨h1,h2⟩,h3⟩:=h;have h1:=az h1;have h2:0<σ.size:=by simpa[fl]using h2
    rcases DataW.trod_slice hu ht with⟨rfl,hx⟩|⟨a,len,cap,elems,rest,m,rfl,rfl,hx,_,hlc,_,hel,hall,_⟩
    ·cases hx;exact⟨[],⟨none,0,[],rfl,aA _,rfl,fun h=>absurd rfl h⟩,fun x hx=>(by cases hx),B.nil⟩
    ·cases hx;obtain⟨l,us,b1,b2,b3,b4,b5⟩:=aw6 (Zp:=Zp) (bk:=bk) (a:=a) h2 h1 (fun cs d ps h=>ajo B m n σ e cs d ps h3 h) elems 0 (fun i hi=>by rw[dN];exact hall i (by omega));refine⟨l,?_,b3,?_⟩
     ·refine⟨some a,cap,us,?_,by omega,b2,fun hne=> ?_⟩
      ·rw[show len=ae l by omega]
      ·cases us with
       |nil=>exact absurd rfl hne
       |cons u us=>
        have h0:=b5 0 u rfl;rw[Nat.zero_mul,Nat.add_zero]at h0;have hsp:=arc h0;simp only[Addr.add,if_true]at hsp;refine⟨a.block,a.off,?_,fun j u hj=> ?_⟩
        ·obtain⟨b,o,s⟩:=a;simp only at hsp;rw[hsp.1]
        ·have h1:=b5 j u hj;rw[Nat.zero_mul,dN]at h1;have h3:a.add j=⟨a.block,a.off+j,none⟩:=by
          obtain⟨b,o,s⟩:=a;simp only at hsp;rw[hsp.1];unfold Addr.add
          split
          ·rename_i h;subst h;rfl
          ·rfl
         rw[h3]at h1;exact⟨h1,hsp.2⟩
     ·have:=B.slice (elems.map (·.1)) (rest.map (·.1));show 1+(l.map (bC σ)).sum≤_;omega
   ·cases h
  ·rename_i fs hu;simp only[aj]at h;obtain⟨h1,h2⟩:=h;have h1:=az h1
   split at h2
   ·rename_i l hl;simp only[aj]at h2;have he:=CA h2.1;obtain⟨xs,m,rfl,hx,hcl,hxl,hall⟩:=DataW.trod_struct hu ht
    cases hx;have hsz:(lO l).size=τ.size:=by
     rw[←he]
     match l with
     |[]=>rfl
     |[a]=>simp[azI,lO,Ty.size]
     |_::_::_=>rfl
    obtain⟨x,a1,a2,a3⟩:=aqb (Zp:=Zp) (bk:=bk) (cs:=cs) (f:=ajn P n) (fun τ t cs d ps h h'=>ajo B m n τ t cs d ps h h') fs.toList l 0 xs h2.2 (by simpa using hxl) (by rw[hcl,h1,hsz];omega) (fun i fd hi=>hall i fd (by simpa using hi));have hb:=B.agg (xs.map (·.1));subst he;rw[dC]at a1
    match l,x,a1,a2,a3 with
    |[],x,a1,a2,a3=>exact⟨(),a1,trivial,Nat.zero_le _⟩
    |[a],x,a1,a2,a3=>exact⟨(x,()),⟨cs,[],by simp,a1,rfl⟩,⟨a2,trivial⟩,by show bC a x+0≤_;have a3:bC a x≤_:=a3;omega⟩
    |a::b::r,x,a1,a2,a3=>exact⟨x,a1,a2,eA a3 hb⟩
   ·cases h2
  ·cases h
termination_by _ n=>n
theorem alY{n:Nat}{τ:Ty}{t:TypeId}(h:ajn P n τ t=true):(τ.isAgg=true→∃fs,P.underlying t=some (.struct fs))∧(τ.isAgg=false→∀base v,Value.okWide P w .any base t v→v.cells= #[v]):=by
 cases n with
 |zero=>cases h
 |succ n=>
  unfold ajn at h
  split at h
  ·rename_i hu;have:=CA h;subst this;exact⟨fun h=>(by cases h),fun _ base v hv=>by
    cases v<;>first |rfl |simp[Value.okWide,hu,Cell.okWide,Cell.ok]at hv⟩
  ·rename_i k hu;have:=CA h;subst this;exact⟨fun h=>(by cases h),fun _ base v hv=>by
    cases v<;>first |rfl |simp[Value.okWide,hu,Cell.okWide,Cell.ok]at hv⟩
  ·rename_i hu;have:=CA h;subst this;exact⟨fun h=>(by cases h),fun _ base v hv=>by
    cases v<;>first |rfl |simp[Value.okWide,hu,Cell.okWide,Cell.ok]at hv⟩
  ·rename_i e hu
   split at h
   ·exact⟨fun h=>(by cases h),fun _ base v hv=>by
     cases v<;>first |rfl |simp[Value.okWide,hu,Cell.okWide,Cell.ok]at hv⟩
   ·cases h
  ·rename_i fs hu;refine⟨fun _=>⟨fs,hu⟩,fun hf=> ?_⟩;simp only[aj]at h;obtain⟨_,h2⟩:=h
   split at h2
   ·rename_i l _;simp only[aj]at h2;have he:=CA h2.1;rw[←he]at hf
    match l,hf with
    |[],hf=>cases hf
    |[_],hf=>cases hf
    |_::_::_,hf=>cases hf
   ·cases h2
  ·cases h
def ahW(P:Program)(n:Nat):List Ty→List TypeId→Bool
 |[],[]=>true
 |τ::τs,t::ts=>ajn P n τ t&&ahW P n τs ts
 |_,_=>false
theorem XL(B:Blk bk){n base:Nat}{τ:Ty}{t:TypeId}{v:Value}{d:DataW H}{ps:List MemPlace}(h:ajn P n τ t=true)(ht:DataW.Trod enc P w 0 sp true t v d ps)(hok:Value.okWide P w .any base t v):
  ∃x:τ.den,yv w (All w) Zp τ x v∧wfT τ x∧bC τ x≤bk d:=by
 obtain⟨fuel,ht⟩:=ht;obtain⟨x,h1,h2,h3⟩:=ajo (Zp:=Zp) B fuel n τ t _ d ps h ht;refine⟨x,?_,h2,h3⟩;unfold yv
 cases ha:τ.isAgg with
 |true=>
  obtain⟨fs,hu⟩:=(alY (w:=w) h).1 ha;unfold Value.okWide at hok;rw[hu]at hok;obtain⟨cs,rfl,_,_⟩:=hok;exact⟨cs.toList,by simp,h1⟩
 |false=>
  have:=(alY (w:=w) h).2 ha base v hok;rw[this]at h1;exact h1
theorem Rm(B:Blk bk){n base:Nat}:∀(τs:List Ty) (ts:List TypeId) (vs:List Value) (ds:List (DataW H)) (ps:List MemPlace),ahW P n τs ts=true→DataW.TrodAll enc P w 0 sp true ts vs ds ps→
  (∀(j:Nat) t v,ts[j]? =some t→vs[j]? =some v→Value.okWide P w .any base t v)→∃x:(lO τs).den,yw w (All w) Zp τs x vs∧wfT (lO τs) x∧bC (lO τs) x≤(ds.map bk).sum
 |[],[],vs,ds,ps,_,ht,_=>by
  obtain⟨rfl,rfl,_⟩:=trodAll_nil ht;exact⟨(),rfl,trivial,aA _⟩
 |[],_::_,_,_,_,h,_,_=>by cases h
 |_::_,[],_,_,_,h,_,_=>by cases h
 |[τ],t::ts,vs,ds,ps,h,ht,hok=>by
  simp only[ahW,aj]at h;obtain⟨h1,h2⟩:=h
  cases ts with
  |cons _ _=>cases h2
  |nil=>
   obtain⟨v,vs',d,ds',p,q,rfl,rfl,_,h3,h4⟩:=trodAll_cons ht;obtain⟨rfl,rfl,_⟩:=trodAll_nil h4;obtain⟨x,a1,a2,a3⟩:=XL (Zp:=Zp) B h1 h3 (hok 0 t v rfl rfl);exact⟨x,⟨v,rfl,a1⟩,a2,by show bC τ x≤_;simpa using a3⟩
 |τ::σ::τs,t::ts,vs,ds,ps,h,ht,hok=>by
  simp only[ahW,aj]at h;obtain⟨h1,h2⟩:=h;obtain⟨v,vs',d,ds',p,q,rfl,rfl,_,h3,h4⟩:=trodAll_cons ht;obtain⟨x,a1,a2,a3⟩:=XL (Zp:=Zp) B h1 h3 (hok 0 t v rfl rfl);obtain⟨y,b1,b2,b3⟩:=Rm B (σ::τs) ts vs' ds' q (by simpa[ahW]using h2) h4 (fun j t v h h'=>hok (j+1) t v h h');refine⟨(x,y),⟨v,vs',rfl,a1,b1⟩,⟨a2,b2⟩,?_⟩;show bC τ x+bC (lO (σ::τs)) y≤_;simp only[cj,dS];omega
theorem NI(hl:laidOutB P=true){W W':World}(he:W.Extends W'){sp':Nat→Bool}:∀(ts:List TypeId) (vs:List Value) (ds:List (DataW H)) (ps:List MemPlace),(ts.all fun t=>P.readableRec t&&decide (t<P.types.size))=true→
  DataW.TrodAll enc P W 0 (fun _=>true) true ts vs ds ps→(∀p∈ps,p.block<W.heap.size)→(∀p∈ps,sp' p.block=true)→DataW.TrodAll enc P W' 0 sp' true ts vs ds ps
 |[],vs,ds,ps,_,ht,_,_=>by
  obtain⟨rfl,rfl,rfl⟩:=trodAll_nil ht;rfl
 |t::ts,vs,ds,ps,hr,ht,hlt,hsp=>by
  obtain⟨v,vs',d,ds',p,q,rfl,rfl,rfl,h3,h4⟩:=trodAll_cons ht;simp only[List.all_cons,aj,decide_eq_true_eq]at hr;have hb:Below W.heap.size W W':=⟨he.os,he.tape,he.output,he.size,fun k hk=>he.block k hk⟩;exact⟨p,q,WideElems.Trod_stays hl hr.1.1 hr.1.2 h3 (fun x hx=>hb.same (hlt x (aR _ hx))) (fun x hx=>hsp x (aR _ hx)),
   NI hl he ts vs' ds' q hr.2 h4 (fun x hx=>hlt x (bo _ hx)) (fun x hx=>hsp x (bo _ hx)),rfl⟩
theorem ata{W W':World}(he:W.Extends W')(may:MemPlace→Prop):W.keptBut W' may:=by
 refine⟨he.os,he.output,fun i hi=> ?_⟩;rw[he.block i hi]
 cases W.heap[i]? with
 |none=>trivial
 |some o=>cases o<;>simp
theorem atb{f:Func}{s:ChangeSpec}{W W':World}{args:Array Value}{ds gs:List (DataW H)}{before:List MemPlace}{tb:TypeId}(hl:laidOutB P=true)(hr:(f.params.toList.all fun t=>P.readableRec t&&decide (t<P.types.size))=true)
  (hres:f.resultTypes= #[tb]) (htb:P.underlying tb=some .bool) (hv:s.vars=[]) (hs:(s.fn H (ds++gs)).results=[.lit (.bool true)]∧(s.fn H (ds++gs)).args=ds∧(s.fn H (ds++gs)).vars=[])
  (hW:DataW.Whole enc P f.params.toList s.vars false W args.toList ds gs before) (he:W.Extends W'):
  s.post enc P f false true false false W args (.bool true) W':=by
 have hlt:=hW.lt;have hW0:=hW;obtain⟨pa,pv,hA,hV,rfl,hz,hn⟩:=hW;rw[hv]at hV;have hV':gs=[]∧pv=[]:=by
  cases gs with
  |nil=>exact⟨rfl,hV⟩
  |cons _ _=>exact hV.elim
 obtain⟨rfl,rfl⟩:=hV';have hold:∀p∈pa++[],(fun b=>decide (b<W.heap.size)) p.block=true:=fun p hp=>by simpa using hlt p hp
 have hre:∀(b:Nat) (sp:Nat→Bool) (hd:Bool),DataW.TrodAll enc P W' b sp hd f.resultTypes.toList ((Value.bool true).resultList f.resultTypes.size) (s.fn H (ds++[])).results []:=fun b sp hd=>by
  rw[hres,hs.1];exact trodAll_mk1 (shut_bool htb true)
 have har:∀sp:Nat→Bool,(∀p∈pa++[],sp p.block=true)→DataW.TrodAll enc P W' 0 sp true f.params.toList args.toList (s.fn H (ds++[])).args pa:=fun sp hsp=>by
  rw[hs.2.1];exact NI hl he _ _ _ _ hr hA (fun p hp=>hlt p (aR _ hp)) (fun p hp=>hsp p (aR _ hp))
 have hva:∀sp:Nat→Bool,DataW.TrodVars enc P W' sp s.vars (s.fn H (ds++[])).vars []:=fun sp=>by
  rw[hs.2.2,hv];rfl
 have hps:pa++[]=pa++([]:List MemPlace):=rfl;refine⟨ds,[],pa++[],[],pa,[],hW0,hre _ _ _,har _ hold,hva _,World.keptBut_mono (fun p hp=>⟨hp,?_⟩) (ata he (·∈pa++[])),fun _=> ?_⟩
 ·exact Or.inr (by simpa using hp)
 ·refine⟨ok_one hres rfl (okWide_bool_mk htb true),_,_,([]++pa)++[],⟨[]++pa,[],trodAll_append (har _ (fun _ _=>rfl)) (hre _ _ _),hva _,rfl,?_,?_⟩,?_⟩
  ·intro b off hp;have hp':MemPlace.cell b off∈pa++[]:=by simpa using hp
   rw[he.frozen ⟨b,off,none⟩ (hlt _ hp')];exact hz b off hp'
  ·intro ha;cases ha
  ·intro p hp _;simpa using hp
theorem ahX{f:FuncId}{fn:Func}{τs:List Ty}{E:Nat→(lO τs).den→Option Bool}(S:∀n,aq P f ⟨τs,[.bool],E n⟩){n base N:Nat}{tb:TypeId}(B:Blk bk)(hl:laidOutB P=true)(hty:ahW P n τs fn.params.toList=true)
  (hr:(fn.params.toList.all fun t=>P.readableRec t&&decide (t<P.types.size))=true) (hres:fn.resultTypes= #[tb]) (htb:P.underlying tb=some .bool) {s:ChangeSpec} (hv:s.vars=[])
  {W:World} {args:Array Value} {ds gs:List (DataW H)} {before:List MemPlace} (hs:(s.fn H (ds++gs)).results=[.lit (.bool true)]∧(s.fn H (ds++gs)).args=ds∧(s.fn H (ds++gs)).vars=[])
  (hval:∀(j:Nat) t v,fn.params[j]? =some t→args[j]? =some v→Value.okWide P W .any base t v)
  (hW:DataW.Whole enc P fn.params.toList s.vars false W args.toList ds gs before) (hN:(ds.map bk).sum≤N)
  (pure:∀x:(lO τs).den,wfT (lO τs) x→bC (lO τs) x≤N→∃n,E n x=some true):
  Calls P f args W fun e W'=>∃v,e= .returned v∧s.post enc P fn false true false false W args v W':=by
 obtain⟨pa,pv,hA,_,_,_,_⟩:=id hW;obtain⟨x,h1,h2,h3⟩:=Rm (Zp:=jT) (base:=base) B τs _ _ _ _ hty hA (fun j t v h h'=>hval j t v (by simpa using h) (by simpa using h'));obtain⟨m,hm⟩:=pure x h2 (eA h3 hN);have hc:=(S m).calls W (All W) jT x true args.toList (fun b i h=>h) (fun b i h=>h.elim) h1 hm;rw[Array.toArray_toList]at hc;refine hc.mono fun e W' ⟨v,he,r9,hr'⟩=>⟨v,he,?_⟩;have hv':v= .bool true:=by
  have:PR W' (Zc (All W) W W') jT .bool true [v]:=hr';simp only[PR]at this;injection this
 subst hv';exact atb hl hr hres htb hv hs hW r9
end
section
variable {P:Program}
theorem eV.z{t:TypeId}{d:TD}{τ:Ty}(h1:(P.underlying t).map Ct=some d.desc)(h2:aqJ d.desc=d.agg)(h3:(P.info? t).map (fun i=>(i.size,i.bytes))=some (d.size,d.bytes))(h4:ase d=true)(h5:d.zero=true)(h6:d.ty=some τ)
 (h7:(P.info? t).map (fun i=>i.zero.map fun z=>(z.cells.toList,alk z))=some (some (τ.lr,d.agg))) (h8:d.eq=[]∨ahy P t d.eq=true):eV P t d:=⟨h1,h2,h3,h4,h8,by rw[h5,h6];exact h7⟩
theorem eV.n{t:TypeId}{d:TD}(h1:(P.underlying t).map Ct=some d.desc)(h2:aqJ d.desc=d.agg)(h3:(P.info? t).map (fun i=>(i.size,i.bytes))=some (d.size,d.bytes))(h4:ase d=true)(h5:d.zero=false)(h8:d.eq=[]∨ahy P t d.eq=true):eV P t d:=⟨h1,h2,h3,h4,h8,by rw[h5];trivial⟩
theorem t0:YX P []:=fun _ h=>by cases h
theorem tc{t:TypeId}{d:TD}{l:List (TypeId×TD)}(h:eV P t d)(k:YX P l):YX P ((t,d)::l):=fun p hp=>by
 rcases List.mem_cons.1 hp with rfl |hp
 ·exact h
 ·exact k p hp
theorem v0:afR P []:=fun _ h=>by cases h
theorem vc{t:TypeId}{d:VT}{l:List (TypeId×VT)}(h:VOK P t d)(k:afR P l):afR P ((t,d)::l):=fun p hp=>by
 rcases List.mem_cons.1 hp with rfl |hp
 ·exact h
 ·exact k p hp
theorem acQ{α:Type}{R:FuncId→α→Prop}{g:FuncId}{D:α}{l:List (FuncId×α)}(h:R g D)(k:∀f E,cZ f l=some E→R f E):∀f E,cZ f ((g,D)::l)=some E→R f E:=fun f E he=>by
 simp only[cZ]at he
 split at he
 ·rename_i hb
  cases he;rw[←az hb];exact h
 ·exact k f E he
theorem c0:∀f E,cZ f ([]:List (FuncId×Entry))=some E→aq P f E:=fun _ _ h=>by cases h
theorem cc{g:FuncId}{D:Entry}{l:List (FuncId×Entry)}(h:aq P g D)(k:∀f E,cZ f l=some E→aq P f E):∀f E,cZ f ((g,D)::l)=some E→aq P f E:=acQ h k
theorem o0:∀f E,cZ f ([]:List (FuncId×D7))=some E→x7 P f E:=fun _ _ h=>by cases h
theorem oc{g:FuncId}{D:D7}{l:List (FuncId×D7)}(h:x7 P g D)(k:∀f E,cZ f l=some E→x7 P f E):∀f E,cZ f ((g,D)::l)=some E→x7 P f E:=acQ h k
theorem s0:∀f E,cZ f ([]:List (FuncId×x6))=some E→qv P f E:=fun _ _ h=>by cases h
theorem sc{g:FuncId}{D:x6}{l:List (FuncId×x6)}(h:qv P g D)(k:∀f E,cZ f l=some E→qv P f E):∀f E,cZ f ((g,D)::l)=some E→qv P f E:=acQ h k
theorem alZ{f:FuncId}{fn:Func}{ps rs:List Ty}(hf:P.funcs[f]? =some fn)(hn:(fn.name=="runtime.NumGoroutine")=false)(hb:fn.body.isNone=false)(Zb:rs.all Ty.cI=true):aq P f ⟨ps,rs,fun _=>none⟩:=⟨⟨fn,hf,hn,hb⟩,Zb,fun _ _ _ _ _ _ _ _ _ h=>by cases h⟩
end
end Go.Am
