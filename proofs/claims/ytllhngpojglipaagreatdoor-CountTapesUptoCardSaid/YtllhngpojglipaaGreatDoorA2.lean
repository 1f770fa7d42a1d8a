import Derived.Test.YtllhngpojglipaaGreatDoorA1
import Derived.Deep.AppendSrc
set_option linter.unusedVariables false
set_option linter.unusedSimpArgs false
open Bool renaming and_eq_true→aj
open List renaming getElem?_append_left→aQ,getElem?_append_right→bh,getElem?_eq_none→bx,getElem?_set_ne→dw,mem_cons_of_mem→aF
open Nat renaming beq→bU,eq_of_beq_eq_true→az,le_refl→aA,lt_of_lt_of_le→ca
open Go.World renaming cell?_of_block→bW
namespace Go.Am
open Go
theorem aU{α:Type}(d:α)(t u:Nat)(x:α)(r:List (Nat×α)):look d t ((u,x)::r)=if u=t then x else look d t r:=by
 by_cases h:u=t
 ·subst h;simp[look]
 ·have:bU u t=false:=by
   cases hb:bU u t with
   |false=>rfl
   |true=>exact absurd (az hb) h
  simp[look,this,h]
def upd{α:Type}(f:Nat→α)(n:Nat)(x:α)(o:Nat):α:=if o=n then x else f o
theorem qH{α:Type}(f:Nat→α)(n:Nat)(x:α):upd f n x n=x:=by simp[upd]
theorem ka{α:Type}(f:Nat→α){n o:Nat}(x:α)(h:o≠n):upd f n x o=f o:=by simp[upd,h]
section
variable {w0:W0} {w w':World} {Z0 Zp:cD} {h h':bg} {g g':G}
theorem HR.alive(R:HR w0 Z0 Zp h g w){o:Nat}(hd:look .dead o h≠.dead):g.al o:=by
 by_cases ha:g.al o
 ·exact ha
 ·exact absurd (R.dead o ha) hd
theorem HR.iD(R:HR w0 Z0 Zp h g w):w0.heap.size≤w.heap.size:=R.ext.size
theorem HR.zpk(_:HR w0 Z0 Zp h g w)(hs:∀b,b<w0.heap.size→¬ w0.B b→w'.heap[b]? =w.heap[b]?)(hzp:∀b i,Zp b i→b<w0.heap.size∧¬ w0.B b):dK w w' Zp Zp:=
 fun b i hz=>⟨hz,bW (hs b (hzp b i hz).1 (hzp b i hz).2)⟩
theorem vp.mono{base:Nat}(L:Le Zp h g w h' g' w'){c id:Nat}(hb:∀e,g.pm c id=some e→w'.heap[e.1]? =w.heap[e.1]?):∀(K:GK) (x:K.xZ),vp w base Zp h g c id K x→vp w' base Zp h' g' c id K x
 |.st V,x,⟨h0,b,cap,cur,e0,h1,h2,h3⟩=>⟨h0,b,cap,cur,e0,L.pm _ _ _ h1,(hb _ h1).trans h2,dT.mono L _ _ h3⟩
 |.bf V,x,⟨h0,b,k,cap,cur,e0,h1,h2,h3,h4,h5,h6⟩=>⟨h0,b,k,cap,cur,e0,L.pm _ _ _ h1,(hb _ h1).trans h2,h3,h4,h5,dY.mono (fun _ es hx=>dT.mono L _ es hx) _ _ h6⟩
 |.mp k V,x,⟨h0,h00,b,es,clock,h1,h2,h3,h4⟩=>⟨h0,h00,b,es,clock,L.pm _ _ _ h1,(hb _ h1).trans h2,h3,fun j p e hj he=>⟨(h4 j p e hj he).1,VR.mono L _ _ _ (h4 j p e hj he).2⟩⟩
theorem GHR.keep(R:GHR w0 Zp h g w)(L:Le Zp h g w h' g' w')(hl:∀c wr K H,look .dead c h'= .gh wr K H→look .dead c h= .gh wr K H)(hp:g'.pm=g.pm)
  (hb:∀c id b,GL h g c id b→w'.heap[b]? =w.heap[b]?) (hs:w.heap.size≤w'.heap.size) (hz:∀c id b i,GL h g c id b→¬ g'.Z b i) (ho:∀c id b o,GL h g c id b→look .dead o h'≠.dead→g'.hm o=some b→False):
  GHR w0 Zp h' g' w':=by
 have hG:∀c id b,GL h' g' c id b→GL h g c id b:=fun c id b ⟨wr,K,H,x,e,h1,h2,h3,h4⟩=>⟨wr,K,H,x,e,hl _ _ _ _ h1,h2,hp▸h3,h4⟩;refine⟨fun c wr K H id x h1 h2=> ?_,fun c wr K H id h1 h2=> ?_,fun c id b h1=> ?_,fun c K H id x e h1 h2 h3=> ?_,fun c id c' id' b h1 h2=> ?_,fun c id b i h1=>hz c id b i (hG _ _ _ h1),fun c id b o h1=>ho c id b o (hG _ _ _ h1),fun c wr V H id e h1 h2=>R.psz c wr V H id e (hl _ _ _ _ h1) (hp▸h2),fun c id e h1=> ?_,fun c K H h1=>R.ro c K H (hl _ _ _ _ h1),fun c id b i h1=>R.zpx c id b i (hG _ _ _ h1),fun c wr K H h1=>R.kok c wr K H (hl _ _ _ _ h1),fun c K H h1=>R.wsr c K H (hl _ _ _ _ h1),fun c id e h1=>R.new c id e (hp▸h1)⟩
 ·exact vp.mono L (fun e he=>hb c id e.1 ⟨wr,K,H,x,e,hl _ _ _ _ h1,h2,he,rfl⟩) _ _ (R.xZ c wr K H id x (hl _ _ _ _ h1) h2)
 ·rw[hp];exact R.fresh c wr K H id (hl _ _ _ _ h1) h2
 ·exact ca (R.lt c id b (hG _ _ _ h1)) hs
 ·exact R.own c K H id x e (hl _ _ _ _ h1) h2 (hp▸h3)
 ·exact R.oa c id c' id' b (hG _ _ _ h1) (hG _ _ _ h2)
 ·rw[hp];exact R.old c id e h1
theorem QZ.mono{base:Nat}(L:Le Zp h g w h' g' w'){o:Nat}{x:Ob}(hx:x= .dead∨g'.hm o=g.hm o)(hb:x≠.dead→∀b,g.hm o=some b→w'.heap[b]? =w.heap[b]?)
  (hh:QZ w base Zp h g o x):QZ w' base Zp h' g' o x:=by
 cases x with
 |dead=>trivial
 |tok=>trivial
 |cells cs=>
  obtain⟨b,cur,e0,h1,h2,h3⟩:=hh;rcases hx with hx |hx
  ·cases hx
  ·exact⟨b,cur,e0,hx.trans h1,(hb (by simp) b h1).trans h2,dT.mono L _ _ h3⟩
 |row e l=>
  obtain⟨h0,h00,b,cur,e0,h1,h2,h3⟩:=hh;rcases hx with hx |hx
  ·cases hx
  ·exact⟨h0,h00,b,cur,e0,hx.trans h1,(hb (by simp) b h1).trans h2,dY.mono (fun x es hx=>PR.mono L.z L.zp _ _ _ hx) _ _ h3⟩
 |x4 e l=>
  obtain⟨h0,h00,b,cur,e0,fz,h1,h2,h3,h4⟩:=hh;rcases hx with hx |hx
  ·cases hx
  ·exact⟨h0,h00,b,cur,e0,fz,hx.trans h1,(hb (by simp) b h1).trans h2,dY.mono (fun x es hx=>PR.mono L.z L.zp _ _ _ hx) _ _ h3,fun i hi=>(L.z b i (h4 i hi)).1⟩
 |map k v l=>
  obtain⟨h0,h00,hnd,b,es,clock,h1,h2,h3⟩:=hh;rcases hx with hx |hx
  ·cases hx
  ·exact⟨h0,h00,hnd,b,es,clock,hx.trans h1,(hb (by simp) b h1).trans h2,h3⟩
 |gh wr K H=>
  rcases hx with hx |hx
  ·cases hx
  ·exact hx.trans hh
def Cn(g:G)(new:Nat)(b:Option Nat)(k:Nat):G:=
 { al:=fun o=>g.al o∨o=new,Z:=fun c i=>g.Z c i∨(b=some c∧i<k),hm:=upd g.hm new b,lo:=upd g.lo new k,pm:=g.pm }
theorem Le.alloc(R:HR w0 Z0 Zp h g w){y:Obj}{new:Nat}(hn:¬ g.al new)(x:Ob)(k:Nat)(hw:w'.heap=w.heap.push y):
  Le Zp h g w ((new,x)::h) (Cn g new (some w.heap.size) k) w':=by
 have hold:∀b:Nat,b<w.heap.size→w'.heap[b]? =w.heap[b]? :=fun b hb=>by rw[hw,Array.getElem?_push,if_neg (Nat.ne_of_lt hb)]
 refine⟨fun o ha=> .inl ha,fun b i hz=>⟨.inl hz,bW (hold b (R.Nb b i hz))⟩,
  R.zpk (fun b hb _=>hold b (ca hb R.iD)) R.zp,fun o ha=> ?_,fun o ha _=> ?_,fun o ha ht=> ?_,fun _ _ _ h=>h⟩
 ·have hne:new≠o:=fun e=>hn (e▸ha);rw[aU,if_neg hne];exact Ob.to.refl _
 ·have hne:o≠new:=fun e=>hn (e▸ha);exact ka _ _ hne
 ·have hne:o≠new:=fun e=>hn (e▸ha);rw[aU,if_neg (Ne.symm hne)]at ht;exact⟨ka _ _ hne,fun b hb=>hold b (R.home o b (by rw[ht];simp) hb).2⟩
theorem HR.alloc(R:HR w0 Z0 Zp h g w){y:Obj}{new:Nat}(hn:¬ g.al new)(x:Ob)(k:Nat)(hw:w'.heap=w.heap.push y)(he:w0.Extends w')
  (hx:QZ w' w0.heap.size Zp ((new,x)::h) (Cn g new (some w.heap.size) k) new x) (ho:x.open? =true→k=0):
  HR w0 Z0 Zp ((new,x)::h) (Cn g new (some w.heap.size) k) w':=by
 have L:=Le.alloc R hn x k hw;have hold:∀b:Nat,b<w.heap.size→w'.heap[b]? =w.heap[b]? :=fun b hb=>by rw[hw,Array.getElem?_push,if_neg (Nat.ne_of_lt hb)]
 have hsz:w'.heap.size=w.heap.size+1:=by rw[hw];simp
 have lk:∀o,o≠new→look .dead o ((new,x)::h)=look .dead o h:=fun o hne=>by rw[aU,if_neg (Ne.symm hne)]
 have lkn:look .dead new ((new,x)::h)=x:=by rw[aU,if_pos rfl]
 have hmo:∀o,o≠new→(Cn g new (some w.heap.size) k).hm o=g.hm o:=fun o hne=>ka _ _ hne;have hmn:(Cn g new (some w.heap.size) k).hm new=some w.heap.size:=qH _ _ _;refine⟨he,fun o=> ?_,fun o ha=> ?_,fun o b hd hb=> ?_,fun o p b hd hd' hb hb'=> ?_,fun o b i hop hb hz=> ?_,fun o b i ht hb hz=> ?_,fun b i hz=> ?_,fun b i hb hz=> ?_,fun b i hz=> .inl (R.z0 b i hz),R.zp,R.gh.keep L (fun c wr K H hc=> ?_) rfl (fun c id b hG=>hold b (R.gh.lt c id b hG)) (by omega) (fun c id b i hG hz=> ?_) (fun c id b o hG hd hb=> ?_)⟩
 ·by_cases hne:o=new
  ·subst hne;rw[lkn];exact hx
  ·rw[lk o hne];exact QZ.mono L (.inr (hmo o hne)) (fun hd b hb=>hold b (R.home o b hd hb).2) (R.ob o)
 ·have hne:o≠new:=fun e=>ha (.inr e);rw[lk o hne];exact R.dead o fun h=>ha (.inl h)
 ·by_cases hne:o=new
  ·subst hne;rw[hmn]at hb;cases hb;exact⟨R.iD,by omega⟩
  ·rw[lk o hne]at hd;rw[hmo o hne]at hb;have:=R.home o b hd hb;exact⟨this.1,by omega⟩
 ·by_cases h1:o=new
  ·by_cases h2:p=new
   ·rw[h1,h2]
   ·subst h1;rw[hmn]at hb;cases hb;rw[lk p h2]at hd';rw[hmo p h2]at hb';exact absurd (R.home p _ hd' hb').2 (Nat.lt_irrefl _)
  ·by_cases h2:p=new
   ·subst h2;rw[hmn]at hb';cases hb';rw[lk o h1]at hd;rw[hmo o h1]at hb;exact absurd (R.home o _ hd hb).2 (Nat.lt_irrefl _)
   ·rw[lk o h1]at hd;rw[hmo o h1]at hb;rw[lk p h2]at hd';rw[hmo p h2]at hb';exact R.oa o p b hd hd' hb hb'
 ·by_cases h1:o=new
  ·subst h1;rw[hmn]at hb;cases hb;rw[lkn]at hop;rcases hz with hz |⟨_,hz⟩
   ·exact absurd (R.Nb _ _ hz) (Nat.lt_irrefl _)
   ·have:=ho hop;omega
  ·rw[lk o h1]at hop;rw[hmo o h1]at hb;rcases hz with hz |⟨e,_⟩
   ·exact R.lq o b i hop hb hz
   ·cases e;exact absurd (R.home o _ (by intro hd;rw[hd]at hop;simp[Ob.open?]at hop) hb).2 (Nat.lt_irrefl _)
 ·by_cases h1:o=new
  ·subst h1;rw[hmn]at hb;cases hb;show i<upd g.lo o k o;rw[qH];rcases hz with hz |⟨_,hz⟩
   ·exact absurd (R.Nb _ _ hz) (Nat.lt_irrefl _)
   ·exact hz
  ·rw[lk o h1]at ht;rw[hmo o h1]at hb;show i<upd g.lo new k o;rw[ka _ _ h1];rcases hz with hz |⟨e,_⟩
   ·exact R.Na o b i ht hb hz
   ·cases e;exact absurd (R.home o _ (by rw[ht];simp) hb).2 (Nat.lt_irrefl _)
 ·rcases hz with hz |⟨e,_⟩
  ·have:=R.Nb b i hz;omega
  ·cases e;omega
 ·rcases hz with hz |⟨e,_⟩
  ·exact R.JZ b i hb hz
  ·cases e;exact absurd hb (Nat.not_lt.2 R.iD)
 ·by_cases hne:c=new
  ·subst hne;rw[lkn]at hc;rw[hc]at hx;have hx:(Cn g c (some w.heap.size) k).hm c=none:=hx;rw[hmn]at hx;cases hx
  ·rw[lk c hne]at hc;exact hc
 ·rcases hz with hz |⟨e,_⟩
  ·exact R.gh.lq c id b i hG hz
  ·cases e;exact absurd (R.gh.lt c id _ hG) (Nat.lt_irrefl _)
 ·by_cases hne:o=new
  ·subst hne;rw[hmn]at hb;cases hb;exact absurd (R.gh.lt c id _ hG) (Nat.lt_irrefl _)
  ·rw[lk o hne]at hd;rw[hmo o hne]at hb;exact R.gh.loc c id b o hG hd hb
theorem HR.axD(R:HR w0 Z0 Zp h g w){new:Nat}(hn:¬ g.al new):HR w0 Z0 Zp ((new,.tok)::h) (Cn g new none 0) w∧Le Zp h g w ((new,.tok)::h) (Cn g new none 0) w:=by
 have lk:∀o,o≠new→look .dead o ((new,.tok)::h)=look .dead o h:=fun o hne=>by rw[aU,if_neg (Ne.symm hne)]
 have lkn:look .dead new ((new,Ob.tok)::h)= .tok:=by rw[aU,if_pos rfl]
 have hmo:∀o,o≠new→(Cn g new none 0).hm o=g.hm o:=fun o hne=>ka _ _ hne;have hmn:(Cn g new none 0).hm new=none:=qH _ _ _;have L:Le Zp h g w ((new,.tok)::h) (Cn g new none 0) w:=by
  refine⟨fun o ha=> .inl ha,fun b i hz=>⟨.inl hz,rfl⟩,dK.refl _ _,fun o ha=> ?_,fun o ha _=> ?_,fun o ha ht=> ?_,fun _ _ _ h=>h⟩
  ·rw[lk o (fun e=>hn (e▸ha))];exact Ob.to.refl _
  ·exact hmo o (fun e=>hn (e▸ha))
  ·exact⟨ka _ _ (fun e=>hn (e▸ha)),fun _ _=>rfl⟩
 refine⟨⟨R.ext,fun o=> ?_,fun o ha=> ?_,fun o b hd hb=> ?_,fun o p b hd hd' hb hb'=> ?_,fun o b i hop hb hz=> ?_,fun o b i ht hb hz=> ?_,fun b i hz=> ?_,fun b i hb hz=> ?_,fun b i hz=> .inl (R.z0 b i hz),R.zp,R.gh.keep L (fun c wr K H hc=> ?_) rfl (fun c id b hG=>rfl) (aA _) (fun c id b i hG hz=> ?_) (fun c id b o hG hd hb=> ?_)⟩,L⟩
 ·by_cases hne:o=new
  ·subst hne;rw[lkn];trivial
  ·rw[lk o hne];exact QZ.mono L (.inr (hmo o hne)) (fun _ _ _=>rfl) (R.ob o)
 ·have hne:o≠new:=fun e=>ha (.inr e);rw[lk o hne];exact R.dead o fun h=>ha (.inl h)
 ·by_cases hne:o=new
  ·subst hne;rw[hmn]at hb;cases hb
  ·rw[lk o hne]at hd;rw[hmo o hne]at hb;exact R.home o b hd hb
 ·by_cases h1:o=new
  ·subst h1;rw[hmn]at hb;cases hb
  ·by_cases h2:p=new
   ·subst h2;rw[hmn]at hb';cases hb'
   ·rw[lk o h1]at hd;rw[hmo o h1]at hb;rw[lk p h2]at hd';rw[hmo p h2]at hb';exact R.oa o p b hd hd' hb hb'
 ·by_cases h1:o=new
  ·subst h1;rw[hmn]at hb;cases hb
  ·rw[lk o h1]at hop;rw[hmo o h1]at hb;rcases hz with hz |⟨e,_⟩
   ·exact R.lq o b i hop hb hz
   ·cases e
 ·by_cases h1:o=new
  ·subst h1;rw[hmn]at hb;cases hb
  ·rw[lk o h1]at ht;rw[hmo o h1]at hb;show i<upd g.lo new 0 o;rw[ka _ _ h1];rcases hz with hz |⟨e,_⟩
   ·exact R.Na o b i ht hb hz
   ·cases e
 ·rcases hz with hz |⟨e,_⟩
  ·exact R.Nb b i hz
  ·cases e
 ·rcases hz with hz |⟨e,_⟩
  ·exact R.JZ b i hb hz
  ·cases e
 ·by_cases hne:c=new
  ·subst hne;rw[lkn]at hc;cases hc
  ·rw[lk c hne]at hc;exact hc
 ·rcases hz with hz |⟨e,_⟩
  ·exact R.gh.lq c id b i hG hz
  ·cases e
 ·by_cases hne:o=new
  ·subst hne;rw[hmn]at hb;cases hb
  ·rw[lk o hne]at hd;rw[hmo o hne]at hb;exact R.gh.loc c id b o hG hd hb
theorem HR.axE(R:HR w0 Z0 Zp h g w){new b k:Nat}(hn:¬ g.al new)(hfree:∀o,look .dead o h≠.dead→g.hm o≠some b)(hgl:∀c id,¬ GL h g c id b)(hb1:w0.heap.size≤b)(J0:b<w.heap.size)
  (hw:∀c,c≠b→w'.heap[c]? =w.heap[c]?) (hs:w'.heap.size=w.heap.size) (he:w0.Extends w') (hk:∀i,g.Z b i→i<k∧w'.cell? ⟨b,i,none⟩=w.cell? ⟨b,i,none⟩):
  HR w0 Z0 Zp ((new,.tok)::h) (Cn g new (some b) k) w'∧Le Zp h g w ((new,.tok)::h) (Cn g new (some b) k) w':=by
 have lk:∀o,o≠new→look .dead o ((new,Ob.tok)::h)=look .dead o h:=fun o hne=>by rw[aU,if_neg (Ne.symm hne)]
 have lkn:look .dead new ((new,Ob.tok)::h)= .tok:=by rw[aU,if_pos rfl]
 have hmo:∀o,o≠new→(Cn g new (some b) k).hm o=g.hm o:=fun o hne=>ka _ _ hne;have hmn:(Cn g new (some b) k).hm new=some b:=qH _ _ _;have azP:∀o,look .dead o h≠.dead→∀c,g.hm o=some c→w'.heap[c]? =w.heap[c]? :=fun o hd c hc=>hw c (fun e=>hfree o hd (e▸hc))
 have L:Le Zp h g w ((new,.tok)::h) (Cn g new (some b) k) w':=by
  refine⟨fun o ha=> .inl ha,fun c i hz=>⟨.inl hz,?_⟩,R.zpk (fun c hc _=>hw c (by omega)) R.zp,fun o ha=> ?_,fun o ha _=> ?_,fun o ha ht=> ?_,fun _ _ _ h=>h⟩
  ·by_cases hc:c=b
   ·subst hc;exact(hk i hz).2
   ·exact bW (hw c hc)
  ·rw[lk o (fun e=>hn (e▸ha))];exact Ob.to.refl _
  ·exact hmo o (fun e=>hn (e▸ha))
  ·rw[lk o (fun e=>hn (e▸ha))]at ht;exact⟨ka _ _ (fun e=>hn (e▸ha)),fun c hc=>azP o (by rw[ht];simp) c hc⟩
 refine⟨⟨he,fun o=> ?_,fun o ha=> ?_,fun o c hd hc=> ?_,fun o p c hd hd' hc Nc=> ?_,fun o c i hop hc hz=> ?_,fun o c i ht hc hz=> ?_,fun c i hz=> ?_,fun c i hc hz=> ?_,fun c i hz=> .inl (R.z0 c i hz),R.zp,R.gh.keep L (fun c wr K H hc=> ?_) rfl (fun c id b' hG=>hw b' (fun e=>hgl c id (e▸hG))) (by omega) (fun c id b' i hG hz=> ?_) (fun c id b' o hG hd hc=> ?_)⟩,L⟩
 ·by_cases hne:o=new
  ·subst hne;rw[lkn];trivial
  ·rw[lk o hne];exact QZ.mono L (.inr (hmo o hne)) (fun hd c hc=>azP o hd c hc) (R.ob o)
 ·have hne:o≠new:=fun e=>ha (.inr e);rw[lk o hne];exact R.dead o fun h=>ha (.inl h)
 ·by_cases hne:o=new
  ·subst hne;rw[hmn]at hc;cases hc;exact⟨hb1,by omega⟩
  ·rw[lk o hne]at hd;rw[hmo o hne]at hc;have:=R.home o c hd hc;omega
 ·by_cases h1:o=new
  ·by_cases h2:p=new
   ·rw[h1,h2]
   ·subst h1;rw[hmn]at hc;cases hc;rw[lk p h2]at hd';rw[hmo p h2]at Nc;exact absurd Nc (hfree p hd')
  ·by_cases h2:p=new
   ·subst h2;rw[hmn]at Nc;cases Nc;rw[lk o h1]at hd;rw[hmo o h1]at hc;exact absurd hc (hfree o hd)
   ·rw[lk o h1]at hd;rw[hmo o h1]at hc;rw[lk p h2]at hd';rw[hmo p h2]at Nc;exact R.oa o p c hd hd' hc Nc
 ·by_cases h1:o=new
  ·subst h1;rw[lkn]at hop;simp[Ob.open?]at hop
  ·rw[lk o h1]at hop;rw[hmo o h1]at hc;rcases hz with hz |⟨e,_⟩
   ·exact R.lq o c i hop hc hz
   ·cases e;exact hfree o (by intro hd;rw[hd]at hop;simp[Ob.open?]at hop) hc
 ·by_cases h1:o=new
  ·subst h1;rw[hmn]at hc;cases hc;show i<upd g.lo o k o;rw[qH];rcases hz with hz |⟨_,hz⟩
   ·exact(hk i hz).1
   ·exact hz
  ·rw[lk o h1]at ht;rw[hmo o h1]at hc;show i<upd g.lo new k o;rw[ka _ _ h1];rcases hz with hz |⟨e,_⟩
   ·exact R.Na o c i ht hc hz
   ·cases e;exact absurd hc (hfree o (by rw[ht];simp))
 ·rcases hz with hz |⟨e,_⟩
  ·have:=R.Nb c i hz;omega
  ·cases e;omega
 ·rcases hz with hz |⟨e,_⟩
  ·exact R.JZ c i hc hz
  ·cases e;omega
 ·by_cases hne:c=new
  ·subst hne;rw[lkn]at hc;cases hc
  ·rw[lk c hne]at hc;exact hc
 ·rcases hz with hz |⟨e,_⟩
  ·exact R.gh.lq c id b' i hG hz
  ·cases e;exact hgl c id hG
 ·by_cases hne:o=new
  ·subst hne;rw[hmn]at hc;cases hc;exact hgl c id hG
  ·rw[lk o hne]at hd;rw[hmo o hne]at hc;exact R.gh.loc c id b' o hG hd hc
theorem HR.drop(R:HR w0 Z0 Zp h g w)(o:Nat):HR w0 Z0 Zp ((o,.dead)::h) g w∧Le Zp h g w ((o,.dead)::h) g w:=by
 have lk:∀p,p≠o→look .dead p ((o,Ob.dead)::h)=look .dead p h:=fun p hne=>by rw[aU,if_neg (Ne.symm hne)]
 have Nd:look .dead o ((o,Ob.dead)::h)= .dead:=by rw[aU,if_pos rfl]
 have key:∀p,look .dead p ((o,Ob.dead)::h)≠.dead→p≠o:=fun p hp e=>hp (by rw[e,Nd]);have L:Le Zp h g w ((o,.dead)::h) g w:=by
  refine⟨fun o ha=>ha,dK.refl _ _,dK.refl _ _,fun p _=> ?_,fun _ _ _=>rfl,fun _ _ _=>⟨rfl,fun _ _=>rfl⟩,fun _ _ _ h=>h⟩
  by_cases hp:p=o
  ·subst hp;rw[Nd];exact .inl rfl
  ·rw[lk p hp];exact Ob.to.refl _
 refine⟨⟨R.ext,fun p=> ?_,fun p ha=> ?_,fun p b hd hb=> ?_,fun p q b hd hd' hb hb'=> ?_,fun p b i hop hb hz=> ?_,fun p b i ht hb hz=> ?_,R.Nb,R.JZ,R.z0,R.zp,R.gh.keep L (fun c wr K H hc=> ?_) rfl (fun c id b hG=>rfl) (aA _) R.gh.lq (fun c id b p hG hd=>R.gh.loc c id b p hG (by rw[←lk p (key p hd)];exact hd))⟩,L⟩
 ·by_cases hp:p=o
  ·subst hp;rw[Nd];trivial
  ·rw[lk p hp];exact QZ.mono L (.inr rfl) (fun _ _ _=>rfl) (R.ob p)
 ·by_cases hp:p=o
  ·subst hp;exact Nd
  ·rw[lk p hp];exact R.dead p ha
 ·exact R.home p b (by rw[←lk p (key p hd)];exact hd) hb
 ·exact R.oa p q b (by rw[←lk p (key p hd)];exact hd) (by rw[←lk q (key q hd')];exact hd') hb hb'
 ·have hp:=key p (by intro e;rw[e]at hop;simp[Ob.open?]at hop);rw[lk p hp]at hop;exact R.lq p b i hop hb hz
 ·have hp:=key p (by rw[ht];simp);rw[lk p hp]at ht;exact R.Na p b i ht hb hz
 ·have hp:=key c (by rw[hc];simp);rw[lk c hp]at hc;exact hc
theorem HR.write(R:HR w0 Z0 Zp h g w){o b:Nat}{x:Ob}(hb:g.hm o=some b)(hop:(look .dead o h).open? =true)(hto:(look .dead o h).to x)(hox:x.open? =true)
  (hw:∀c,c≠b→w'.heap[c]? =w.heap[c]?) (hs:w'.heap.size=w.heap.size) (he:w0.Extends w')
  (hx:Le Zp h g w ((o,x)::h) g w'→QZ w' w0.heap.size Zp ((o,x)::h) g o x):
  HR w0 Z0 Zp ((o,x)::h) g w'∧Le Zp h g w ((o,x)::h) g w':=by
 have lk:∀p,p≠o→look .dead p ((o,x)::h)=look .dead p h:=fun p hne=>by rw[aU,if_neg (Ne.symm hne)]
 have Nd:look .dead o ((o,x)::h)=x:=by rw[aU,if_pos rfl]
 have hal:look .dead o h≠.dead:=by intro hd;rw[hd]at hop;simp[Ob.open?]at hop
 have hxd:x≠.dead:=by intro hd;rw[hd]at hox;simp[Ob.open?]at hox
 have hxt:x≠.tok:=by intro hd;rw[hd]at hox;simp[Ob.open?]at hox
 have hbb:=R.home o b hal hb;have alive:∀p,look .dead p ((o,x)::h)≠.dead→look .dead p h≠.dead:=fun p hp=>by
  by_cases e:p=o
  ·subst e;exact hal
  ·rw[←lk p e];exact hp
 have L:Le Zp h g w ((o,x)::h) g w':=by
  refine⟨fun o ha=>ha,fun c i hz=>⟨hz,bW (hw c (fun e=>R.lq o b i hop hb (e▸hz)))⟩,R.zpk (fun c hc _=>hw c (by omega)) R.zp,fun p _=> ?_,fun _ _ _=>rfl,fun p _ ht=>⟨rfl,fun c hc=> ?_⟩,fun _ _ _ h=>h⟩
  ·by_cases hp:p=o
   ·subst hp;rw[Nd];exact hto
   ·rw[lk p hp];exact Ob.to.refl _
  ·by_cases hp:p=o
   ·subst hp;rw[Nd]at ht;exact absurd ht hxt
   ·rw[lk p hp]at ht;exact hw c (fun e=>hp (R.oa p o b (by rw[ht];simp) hal (e▸hc) hb))
 refine⟨⟨he,fun p=> ?_,fun p ha=> ?_,fun p c hd hc=> ?_,fun p q c hd hd' hc Nc=> ?_,fun p c i hp hc hz=> ?_,fun p c i ht hc hz=> ?_,fun c i hz=> ?_,R.JZ,R.z0,R.zp,R.gh.keep L (fun c wr K H hc=> ?_) rfl (fun c id b' hG=>hw b' (fun e=>R.gh.loc c id b' o hG hal (e▸hb))) (by omega) R.gh.lq (fun c id b' p hG hd=>R.gh.loc c id b' p hG (alive p hd))⟩,L⟩
 ·by_cases hp:p=o
  ·subst hp;rw[Nd];exact hx L
  ·rw[lk p hp];exact QZ.mono L (.inr rfl) (fun hd c hc=>hw c (fun e=>hp (R.oa p o b hd hal (e▸hc) hb))) (R.ob p)
 ·have hp:p≠o:=fun e=>ha (e▸R.alive hal);rw[lk p hp];exact R.dead p ha
 ·have:=R.home p c (alive p hd) hc;omega
 ·exact R.oa p q c (alive p hd) (alive q hd') hc Nc
 ·by_cases e:p=o
  ·subst e;rw[hb]at hc;cases hc;exact R.lq p b i hop hb hz
  ·rw[lk p e]at hp;exact R.lq p c i hp hc hz
 ·by_cases e:p=o
  ·subst e;rw[Nd]at ht;exact absurd ht hxt
  ·rw[lk p e]at ht;exact R.Na p c i ht hc hz
 ·have:=R.Nb c i hz;omega
 ·by_cases e:c=o
  ·subst e;rw[Nd]at hc;rw[hc]at hox;cases hox
  ·rw[lk c e]at hc;exact hc
structure Fz (h:bg) (g:G) (h1:bg) (g1:G):Prop where
 al:g1.al=g.al
 gl:∀c id b,GL h1 g1 c id b→GL h g c id b
theorem Fz.refl(h:bg)(g:G):Fz h g h g:=⟨rfl,fun _ _ _ h=>h⟩
theorem Fz.trans{h1 h2:bg}{g1 g2:G}(a:Fz h g h1 g1)(b:Fz h1 g1 h2 g2):Fz h g h2 g2:=⟨b.al.trans a.al,fun c id x hx=>a.gl c id x (b.gl c id x hx)⟩
theorem HR.freeze(R:HR w0 Z0 Zp h g w){o:Nat}{e:Ty}{l:List e.den}(ho:look .dead o h= .row e l):
  ∃g',HR w0 Z0 Zp ((o,.x4 e l)::h) g' w∧Le Zp h g w ((o,.x4 e l)::h) g' w∧Fz h g ((o,.x4 e l)::h) g':=by
 have od:=R.ob o;rw[ho]at od;obtain⟨h0,h00,b,cur,e0,hb,er,mh⟩:=od;have hal:look .dead o h≠.dead:=by rw[ho];simp
 have hbb:=R.home o b hal hb;have lk:∀p,p≠o→look .dead p ((o,Ob.x4 e l)::h)=look .dead p h:=fun p hne=>by rw[aU,if_neg (Ne.symm hne)]
 have Nd:look .dead o ((o,Ob.x4 e l)::h)= .x4 e l:=by rw[aU,if_pos rfl]
 have alive:∀p,look .dead p ((o,Ob.x4 e l)::h)≠.dead→look .dead p h≠.dead:=fun p hp=>by
  by_cases e:p=o
  ·subst e;exact hal
  ·rw[←lk p e];exact hp
 let g':G:={ g with Z:=fun c i=>g.Z c i∨(c=b∧i<cur.size) }
 have L:Le Zp h g w ((o,.x4 e l)::h) g' w:=by
  refine⟨fun o ha=>ha,fun c i hz=>⟨.inl hz,rfl⟩,dK.refl _ _,fun p _=> ?_,fun _ _ _=>rfl,fun _ _ _=>⟨rfl,fun _ _=>rfl⟩,fun _ _ _ h=>h⟩
  by_cases hp:p=o
  ·subst hp;rw[Nd,ho];exact .inr (.inr (.inr (.inl ⟨_,rfl,rfl⟩)))
  ·rw[lk p hp];exact Ob.to.refl _
 refine⟨g',⟨R.ext,fun p=> ?_,fun p ha=> ?_,fun p c hd hc=>R.home p c (alive p hd) hc,fun p q c hd hd' hc Nc=>R.oa p q c (alive p hd) (alive q hd') hc Nc,fun p c i hp hc hz=> ?_,fun p c i ht hc hz=> ?_,fun c i hz=> ?_,fun c i hc hz=> ?_,fun c i hz=> .inl (R.z0 c i hz),R.zp,R.gh.keep L (fun c wr K H hc=> ?_) rfl (fun c id b hG=>rfl) (aA _) (fun c id b' i hG hz=> ?_) (fun c id b' p hG hd=>R.gh.loc c id b' p hG (alive p hd))⟩,L,rfl,fun c id b' ⟨wr,K,H,x,e',h1,h2,h3,h4⟩=>⟨wr,K,H,x,e',?_,h2,h3,h4⟩⟩
 ·by_cases hp:p=o
  ·subst hp;rw[Nd];exact⟨h0,h00,b,cur,e0,(0,0),hb,er,dY.mono (fun x es hx=>PR.mono L.z L.zp _ _ _ hx) _ _ mh,fun i hi=> .inr ⟨rfl,hi⟩⟩
  ·rw[lk p hp];exact QZ.mono L (.inr rfl) (fun _ _ _=>rfl) (R.ob p)
 ·have hp:p≠o:=fun e=>ha (e▸R.alive hal);rw[lk p hp];exact R.dead p ha
 ·by_cases ep:p=o
  ·subst ep;rw[Nd]at hp;simp[Ob.open?]at hp
  ·rw[lk p ep]at hp;rcases hz with hz |⟨hcb,_⟩
   ·exact R.lq p c i hp hc hz
   ·exact ep (R.oa p o b (by intro hd;rw[hd]at hp;simp[Ob.open?]at hp) hal (hcb▸hc) hb)
 ·by_cases ep:p=o
  ·subst ep;rw[Nd]at ht;cases ht
  ·rw[lk p ep]at ht;rcases hz with hz |⟨hcb,_⟩
   ·exact R.Na p c i ht hc hz
   ·exact absurd (R.oa p o b (by rw[ht];simp) hal (hcb▸hc) hb) ep
 ·rcases hz with hz |⟨hcb,_⟩
  ·exact R.Nb c i hz
  ·rw[hcb];exact hbb.2
 ·rcases hz with hz |⟨hcb,_⟩
  ·exact R.JZ c i hc hz
  ·rw[hcb]at hc;omega
 ·by_cases e:c=o
  ·subst e;rw[Nd]at hc;cases hc
  ·rw[lk c e]at hc;exact hc
 ·rcases hz with hz |⟨hcb,_⟩
  ·exact R.gh.lq c id b' i hG hz
  ·exact R.gh.loc c id b' o hG hal (hcb▸hb)
 ·by_cases ec:c=o
  ·subst ec;rw[Nd]at h1;cases h1
  ·rw[lk c ec]at h1;exact h1
theorem HR.called(R:HR w0 Z0 Zp h g w)(he:w.Extends w'):
  let g':G:={ g with Z:=fun b i=>g.Z b i∨(w.heap.size≤b∧b<w'.heap.size) }
  HR w0 Z0 Zp h g' w'∧Le Zp h g w h g' w':=by
 intro g';have L:Le Zp h g w h g' w':=by
  refine⟨fun o ha=>ha,fun c i hz=>⟨.inl hz,he.cell _ (R.Nb c i hz)⟩,R.zpk (fun c hc _=>he.block c (ca hc R.iD)) R.zp,fun p _=>Ob.to.refl _,fun _ _ _=>rfl,fun p _ ht=>⟨rfl,fun c hc=>he.block c (R.home p c (by rw[ht];simp) hc).2⟩,fun _ _ _ h=>h⟩
 have hsz:=he.size;refine⟨⟨R.ext.trans he,fun p=>QZ.mono L (.inr rfl) (fun hd c hc=>he.block c (R.home p c hd hc).2) (R.ob p),R.dead,fun p c hd hc=> ?_,R.oa,fun p c i hp hc hz=> ?_,fun p c i ht hc hz=> ?_,fun c i hz=> ?_,fun c i hc hz=> ?_,fun c i hz=> .inl (R.z0 c i hz),R.zp,R.gh.keep L (fun _ _ _ _ hc=>hc) rfl (fun c id b hG=>he.block b (R.gh.lt c id b hG)) hsz (fun c id b i hG hz=> ?_) R.gh.loc⟩,L⟩
 ·have:=R.home p c hd hc;exact⟨this.1,by omega⟩
 ·rcases hz with hz |⟨h1,_⟩
  ·exact R.lq p c i hp hc hz
  ·have:=R.home p c (by intro hd;rw[hd]at hp;simp[Ob.open?]at hp) hc;omega
 ·rcases hz with hz |⟨h1,_⟩
  ·exact R.Na p c i ht hc hz
  ·have:=R.home p c (by rw[ht];simp) hc;omega
 ·rcases hz with hz |⟨_,h2⟩
  ·have:=R.Nb c i hz;omega
  ·exact h2
 ·rcases hz with hz |⟨h1,_⟩
  ·exact R.JZ c i hc hz
  ·have:=R.iD;omega
 ·rcases hz with hz |⟨h1,_⟩
  ·exact R.gh.lq c id b i hG hz
  ·have:=R.gh.lt c id b hG;omega
end
def U7{α:Type}(f:Nat→Nat→Option α)(c id:Nat)(e:α)(c' id':Nat):Option α:=if c'=c∧id'=id then some e else f c' id'
theorem sy{α:Type}(f:Nat→Nat→Option α)(c id:Nat)(e:α):U7 f c id e c id=some e:=by simp[U7]
theorem vq{α:Type}(f:Nat→Nat→Option α){c id c' id':Nat}(e:α)(h:¬ (c'=c∧id'=id)):U7 f c id e c' id'=f c' id':=by simp[U7,h]
section
variable {w0:W0} {w w':World} {Z0 Zp:cD} {h h':bg} {g g':G}
theorem HR.ali(R:HR w0 Z0 Zp h g w){c:Nat}{K:GK}{H H':List (Option K.xZ)}(ho:look .dead c h= .gh true K H)(Z':cD)(pm':Nat→Nat→Option (Nat×Nat×Nat×Nat))
  (hZ:∀b i,g.Z b i→Z' b i) (hZn:∀b i,Z' b i→g.Z b i∨∃id,GL h g c id b)
  (hpo:∀c' id' e,g.pm c' id'=some e→pm' c' id'=some e) (hpn:∀c' id' e,pm' c' id'=some e→g.pm c' id'=some e∨(c'=c∧id'=H.length∧H'.length=H.length+1∧(w.heap.size≤e.1∧e.1<w'.heap.size∨∃id,GL h g c id e.1∧∀x,H'[id]? ≠some (some x))∧(∀V,K= .bf V→e.2.2.2=V.size)))
  (hlen:H.length≤H'.length) (awT:H'.length≤H.length+1)
  (XA:∀(id:Nat) x,id<H.length→H'[id]? =some (some x)→∃y,H[id]? =some (some y))
  (azQ:∀id b i,GL h g c id b→Z' b i→(∃x,H'[id]? =some (some x))→False)
  (axI:∀id b e x,GL h g c id b→pm' c H.length=some e→e.1=b→H'[H.length]? =some (some x)→∀i,¬ Z' b i)
  (hw:∀b,b<w.heap.size→(∀id,¬ GL h g c id b)→w'.heap[b]? =w.heap[b]?) (hcell:∀b i,g.Z b i→w'.cell? ⟨b,i,none⟩=w.cell? ⟨b,i,none⟩) (hs:w.heap.size≤w'.heap.size) (he:w0.Extends w')
  (aCE:Le Zp h g w ((c,.gh true K H')::h) { g with Z:=Z',pm:=pm' } w'→∀(id:Nat) x,H'[id]? =some (some x)→vp w' w0.heap.size Zp ((c,.gh true K H')::h) { g with Z:=Z',pm:=pm' } c id K x):
  HR w0 Z0 Zp ((c,.gh true K H')::h) { g with Z:=Z',pm:=pm' } w'∧Le Zp h g w ((c,.gh true K H')::h) { g with Z:=Z',pm:=pm' } w':=by
 have lk:∀p,p≠c→look .dead p ((c,Ob.gh true K H')::h)=look .dead p h:=fun p hne=>by rw[aU,if_neg (Ne.symm hne)]
 have lkc:look .dead c ((c,Ob.gh true K H')::h)= .gh true K H':=by rw[aU,if_pos rfl]
 have hal:look .dead c h≠.dead:=by rw[ho];simp
 have hmc:g.hm c=none:=by have:=R.ob c;rw[ho]at this;exact this
 have alive:∀p,look .dead p ((c,Ob.gh true K H')::h)≠.dead→look .dead p h≠.dead:=fun p hp=>by
  by_cases e:p=c
  ·subst e;exact hal
  ·rw[←lk p e];exact hp
 have hown:∀id b,GL h g c id b→w0.heap.size≤b∨w0.B b:=fun id b ⟨wr,K1,H1,x,e,h1,h2,h3,h4⟩=>by
  rw[ho]at h1;cases h1;subst h4;exact R.gh.own c K H id x e ho h2 h3
 have hhm:∀o b,look .dead o h≠.dead→g.hm o=some b→w'.heap[b]? =w.heap[b]? :=fun o b hd hb=>hw b (R.home o b hd hb).2 fun id hG=>R.gh.loc c id b o hG hd hb
 have axJ:∀c' id' b,c'≠c→GL h g c' id' b→w'.heap[b]? =w.heap[b]? :=fun c' id' b hne hG=>hw b (R.gh.lt _ _ _ hG) fun id hG2=>hne (R.gh.oa _ _ _ _ _ hG hG2).1
 have L:Le Zp h g w ((c,.gh true K H')::h) { g with Z:=Z',pm:=pm' } w':=by
  refine⟨fun o ha=>ha,fun b i hz=>⟨hZ b i hz,hcell b i hz⟩,R.zpk (fun b hb hB=>hw b (ca hb R.iD) fun id hG=> ?_) R.zp,fun p _=> ?_,fun _ _ _=>rfl,fun p _ ht=>⟨rfl,fun b hb=> ?_⟩,hpo⟩
  ·rcases hown id b hG with h1 |h1
   ·omega
   ·exact hB h1
  ·by_cases hp:p=c
   ·subst hp;rw[lkc,ho];exact .inr (.inr (.inr (.inr (.inr (.inl ⟨_,_,_,rfl,rfl⟩)))))
   ·rw[lk p hp];exact Ob.to.refl _
  ·have hp:p≠c:=by intro hp;subst hp;rw[lkc]at ht;cases ht
   rw[lk p hp]at ht;exact hhm p b (by rw[ht];simp) hb
 have hGL:∀c' id' b,GL ((c,.gh true K H')::h) { g with Z:=Z',pm:=pm' } c' id' b→(GL h g c' id' b∧(c'=c→∃x,H'[id']? =some (some x)))∨
   (c'=c∧id'=H.length∧(∃x,H'[id']? =some (some x))∧(∃e,pm' c H.length=some e∧e.1=b)∧((w.heap.size≤b∧b<w'.heap.size)∨∃id,GL h g c id b∧∀x,H'[id]? ≠some (some x))):=by
  rintro c' id' b ⟨wr,K1,H1,x,e,h1,h2,h3,h4⟩
  by_cases hc:c'=c
  ·subst hc;rw[lkc]at h1;cases h1;rcases hpn _ _ _ h3 with h5 |⟨_,h5,h6,h7,_⟩
   ·have hlt:id'<H.length:=by
     rcases Nat.lt_or_ge id' H.length with h |h
     ·exact h
     ·rw[R.gh.fresh c' true K H id' ho h]at h5;cases h5
    obtain⟨y,hy⟩:=XA id' x hlt h2;exact .inl ⟨⟨true,K,H,y,e,ho,hy,h5,h4⟩,fun _=>⟨x,h2⟩⟩
   ·subst h5;subst h4;exact .inr ⟨rfl,rfl,⟨x,h2⟩,⟨e,h3,rfl⟩,h7⟩
  ·rw[lk c' hc]at h1;rcases hpn _ _ _ h3 with h5 |⟨h5,_⟩
   ·exact .inl ⟨⟨wr,K1,H1,x,e,h1,h2,h5,h4⟩,fun h=>absurd h hc⟩
   ·exact absurd h5 hc
 refine⟨⟨he,fun p=> ?_,fun p ha=> ?_,fun p b hd hb=> ?_,fun p q b hd hd' hb hb'=>R.oa p q b (alive p hd) (alive q hd') hb hb',fun p b i hp hb hz=> ?_,fun p b i ht hb hz=> ?_,fun b i hz=> ?_,fun b i hb hz=> ?_,fun b i hz=>hZ b i (R.z0 b i hz),R.zp,?_⟩,L⟩
 ·by_cases hp:p=c
  ·subst hp;rw[lkc];exact hmc
  ·rw[lk p hp];exact QZ.mono L (.inr rfl) (fun hd b hb=>hhm p b hd hb) (R.ob p)
 ·have hp:p≠c:=fun e=>ha (e▸R.alive hal);rw[lk p hp];exact R.dead p ha
 ·have:=R.home p b (alive p hd) hb;exact⟨this.1,by omega⟩
 ·by_cases e:p=c
  ·subst e;rw[lkc]at hp;cases hp
  ·rw[lk p e]at hp;rcases hZn b i hz with h1 |⟨id,h1⟩
   ·exact R.lq p b i hp hb h1
   ·exact R.gh.loc c id b p h1 (by intro hd;rw[hd]at hp;cases hp) hb
 ·by_cases e:p=c
  ·subst e;rw[lkc]at ht;cases ht
  ·rw[lk p e]at ht;rcases hZn b i hz with h1 |⟨id,h1⟩
   ·exact R.Na p b i ht hb h1
   ·exact(R.gh.loc c id b p h1 (by rw[ht];simp) hb).elim
 ·rcases hZn b i hz with h1 |⟨id,h1⟩
  ·have:=R.Nb b i h1;omega
  ·have:=R.gh.lt _ _ _ h1;omega
 ·rcases hZn b i hz with h1 |⟨id,h1⟩
  ·exact R.JZ b i hb h1
  ·rcases hown id b h1 with h2 |h2
   ·omega
   ·exact .inr h2
 ·refine⟨fun c' wr K1 H1 id x h1 h2=> ?_,fun c' wr K1 H1 id h1 h2=> ?_,fun c' id b h1=> ?_,fun c' K1 H1 id x e h1 h2 h3=> ?_,fun c1 id1 c2 id2 b h1 h2=> ?_,fun c' id b i h1 hz=> ?_,fun c' id b o h1 hd hb=> ?_,fun c' wr V H1 id e h1 h2=> ?_,fun c' id e h1=>hpo _ _ _ (R.gh.old c' id e h1),fun c' K1 H1 h1=> ?_,fun c' id b i h1 hz=> ?_,fun c' wr K1 H1 h1=> ?_,fun c' K1 H1 h1=> ?_,fun c' id e h1=> ?_⟩
  ·by_cases hc:c'=c
   ·subst hc;rw[lkc]at h1;cases h1;exact aCE L id x h2
   ·rw[lk c' hc]at h1;exact vp.mono L (fun e he=>axJ c' id e.1 hc ⟨wr,K1,H1,x,e,h1,h2,he,rfl⟩) _ _ (R.gh.xZ c' wr K1 H1 id x h1 h2)
  ·cases hp:pm' c' id with
   |none=>exact hp
   |some e=>
    exfalso
    by_cases hc:c'=c
    ·subst hc;rw[lkc]at h1;cases h1;rcases hpn _ _ _ hp with h5 |⟨_,h5,h6,_⟩
     ·rw[R.gh.fresh c' true K H id ho (by omega)]at h5;cases h5
     ·omega
    ·rw[lk c' hc]at h1;rcases hpn _ _ _ hp with h5 |⟨h5,_⟩
     ·rw[R.gh.fresh c' wr K1 H1 id h1 h2]at h5;cases h5
     ·exact hc h5
  ·rcases hGL c' id b h1 with⟨h2,_⟩|⟨_,_,_,_,h2⟩
   ·have:=R.gh.lt _ _ _ h2;omega
   ·rcases h2 with h2 |⟨id2,h2,_⟩
    ·exact h2.2
    ·have:=R.gh.lt _ _ _ h2;omega
  ·by_cases hc:c'=c
   ·subst hc;rw[lkc]at h1;cases h1;rcases hGL c' id e.1 ⟨true,K,H',x,e,lkc,h2,h3,rfl⟩with⟨h4,_⟩|⟨_,_,_,_,h4⟩
    ·exact hown id _ h4
    ·rcases h4 with h4 |⟨id2,h4,_⟩
     ·have:=R.iD;exact .inl (by omega)
     ·exact hown id2 _ h4
   ·rw[lk c' hc]at h1;rcases hpn _ _ _ h3 with h5 |⟨h5,_⟩
    ·exact R.gh.own c' K1 H1 id x e h1 h2 h5
    ·exact absurd h5 hc
  ·rcases hGL c1 id1 b h1 with⟨h3,XB⟩|⟨h3,h4,h4',_,h5⟩
   ·rcases hGL c2 id2 b h2 with⟨k3,k3'⟩|⟨k3,k4,k4',_,k5⟩
    ·exact R.gh.oa _ _ _ _ _ h3 k3
    ·exfalso;rcases k5 with k5 |⟨id,k5,k6⟩
     ·have:=R.gh.lt _ _ _ h3;omega
     ·obtain⟨e1,e2⟩:=R.gh.oa _ _ _ _ _ h3 k5;obtain⟨x,hx⟩:=XB e1;exact k6 x (e2▸hx)
   ·rcases hGL c2 id2 b h2 with⟨k3,k3'⟩|⟨k3,k4,k4',_,k5⟩
    ·exfalso;rcases h5 with h5 |⟨id,h5,h6⟩
     ·have:=R.gh.lt _ _ _ k3;omega
     ·obtain⟨e1,e2⟩:=R.gh.oa _ _ _ _ _ k3 h5;obtain⟨x,hx⟩:=k3' e1;exact h6 x (e2▸hx)
    ·exact⟨h3.trans k3.symm,h4.trans k4.symm⟩
  ·rcases hGL c' id b h1 with⟨h2,h2'⟩|⟨h2,h3,⟨x,hx⟩,⟨e,hpe,heb⟩,h4⟩
   ·by_cases hc:c'=c
    ·subst hc;exact azQ id b i h2 hz (h2' rfl)
    ·rcases hZn b i hz with h5 |⟨id2,h5⟩
     ·exact R.gh.lq _ _ _ _ h2 h5
     ·exact hc (R.gh.oa _ _ _ _ _ h2 h5).1
   ·rcases h4 with h4 |⟨id2,h4,_⟩
    ·rcases hZn b i hz with h5 |⟨id3,h5⟩
     ·have:=R.Nb b i h5;omega
     ·have:=R.gh.lt _ _ _ h5;omega
    ·subst h3;exact axI id2 b e x h4 hpe heb hx i hz
  ·have hd:=alive o hd;rcases hGL c' id b h1 with⟨h2,_⟩|⟨_,_,_,_,h2⟩
   ·exact R.gh.loc _ _ _ o h2 hd hb
   ·rcases h2 with h2 |⟨id2,h2,_⟩
    ·have:=(R.home o b hd hb).2;omega
    ·exact R.gh.loc _ _ _ o h2 hd hb
  ·by_cases hc:c'=c
   ·subst hc;rw[lkc]at h1;cases h1;rcases hpn _ _ _ h2 with h5 |⟨_,_,_,_,h5⟩
    ·exact R.gh.psz c' true V H id e ho h5
    ·exact h5 V rfl
   ·rw[lk c' hc]at h1;rcases hpn _ _ _ h2 with h5 |⟨h5,_⟩
    ·exact R.gh.psz c' wr V H1 id e h1 h5
    ·exact absurd h5 hc
  ·by_cases hc:c'=c
   ·subst hc;rw[lkc]at h1;cases h1
   ·rw[lk c' hc]at h1;exact R.gh.ro c' K1 H1 h1
  ·rcases hGL c' id b h1 with⟨h2,_⟩|⟨_,_,_,_,h2⟩
   ·exact R.gh.zpx _ _ _ _ h2 hz
   ·rcases h2 with h2 |⟨id2,h2,_⟩
    ·have:=(R.zp b i hz).1;have:=R.iD;omega
    ·exact R.gh.zpx _ _ _ _ h2 hz
  ·by_cases hc:c'=c
   ·subst hc;rw[lkc]at h1;cases h1;exact R.gh.kok _ _ _ _ ho
   ·rw[lk c' hc]at h1;exact R.gh.kok c' wr K1 H1 h1
  ·by_cases hc:c'=c
   ·subst hc;exact R.gh.wsr _ _ _ ho
   ·rw[lk c' hc]at h1;exact R.gh.wsr c' K1 H1 h1
  ·rcases hpn _ _ _ h1 with h5 |⟨h5,_⟩
   ·exact R.gh.new c' id e h5
   ·exact .inr (h5▸R.gh.wsr _ _ _ ho)
theorem Le.same(hs:∀o,look .dead o h=look .dead o h'):Le Zp h g w h' g w:=
 ⟨fun _ h=>h,dK.refl _ _,dK.refl _ _,fun o _=>by rw[hs o];exact Ob.to.refl _,fun _ _ _=>rfl,fun _ _ _=>⟨rfl,fun _ _=>rfl⟩,fun _ _ _ h=>h⟩
theorem GHR.awV(R:GHR w0 Zp h g w)(hl:∀c wr K H,look .dead c h'= .gh wr K H→look .dead c h= .gh wr K H)(hp:g'.pm=g.pm)
  (hz:∀c id b i,GL h g c id b→¬ g'.Z b i) (ho:∀c id b o,GL h g c id b→look .dead o h'≠.dead→g'.hm o=some b→False) (hok:∀c id K x,K.ok=true→vp w w0.heap.size Zp h g c id K x→vp w w0.heap.size Zp h' g' c id K x):
  GHR w0 Zp h' g' w:=by
 have hG:∀c id b,GL h' g' c id b→GL h g c id b:=fun c id b ⟨wr,K,H,x,e,h1,h2,h3,h4⟩=>⟨wr,K,H,x,e,hl _ _ _ _ h1,h2,hp▸h3,h4⟩;exact⟨fun c wr K H id x h1 h2=>hok c id K x (R.kok c wr K H (hl _ _ _ _ h1)) (R.xZ c wr K H id x (hl _ _ _ _ h1) h2),fun c wr K H id h1 h2=>by rw[hp];exact R.fresh c wr K H id (hl _ _ _ _ h1) h2,fun c id b h1=>R.lt c id b (hG _ _ _ h1),fun c K H id x e h1 h2 h3=>R.own c K H id x e (hl _ _ _ _ h1) h2 (hp▸h3),
  fun c id c' id' b h1 h2=>R.oa c id c' id' b (hG _ _ _ h1) (hG _ _ _ h2),fun c id b i h1=>hz c id b i (hG _ _ _ h1),fun c id b o h1=>ho c id b o (hG _ _ _ h1),fun c wr V H id e h1 h2=>R.psz c wr V H id e (hl _ _ _ _ h1) (hp▸h2),fun c id e h1=>by rw[hp];exact R.old c id e h1,
  fun c K H h1=>R.ro c K H (hl _ _ _ _ h1),fun c id b i h1=>R.zpx c id b i (hG _ _ _ h1),fun c wr K H h1=>R.kok c wr K H (hl _ _ _ _ h1),fun c K H h1=>R.wsr c K H (hl _ _ _ _ h1),fun c id e h1=>R.new c id e (hp▸h1)⟩
theorem HR.same(R:HR w0 Z0 Zp h g w)(hs:∀o,look .dead o h=look .dead o h'):HR w0 Z0 Zp h' g w:=by
 refine⟨R.ext,fun o=> ?_,fun o ho=>by rw[←hs o];exact R.dead o ho,fun o b hd hb=>R.home o b (by rw[hs o];exact hd) hb,fun o p b hd hd' hb hb'=>R.oa o p b (by rw[hs o];exact hd) (by rw[hs p];exact hd') hb hb',
  fun o b i ho hb=>R.lq o b i (by rw[hs o];exact ho) hb,fun o b i ho hb=>R.Na o b i (by rw[hs o];exact ho) hb,R.Nb,R.JZ,R.z0,R.zp,
  R.gh.keep (Le.same hs) (fun c wr K H hc=>by rw[hs c];exact hc) rfl (fun _ _ _ _=>rfl) (aA _) R.gh.lq (fun c id b o hG hd=>R.gh.loc c id b o hG (by rw[hs o];exact hd))⟩
 rw[←hs o];exact QZ.mono (Le.same hs) (.inr rfl) (fun _ _ _=>rfl) (R.ob o)
theorem HR.vn(R:HR w0 Z0 Zp h g w){c id b:Nat}{K:GK}{H:List (Option K.xZ)}{y x:K.xZ}{e:Nat×Nat×Nat×Nat}(ho:look .dead c h= .gh true K H)(hy:H[id]? =some (some y))(hp:g.pm c id=some e)(hb:e.1=b)
  (hw:∀c,c≠b→w'.heap[c]? =w.heap[c]?) (hs:w'.heap.size=w.heap.size) (he:w0.Extends w')
  (hx:Le Zp h g w ((c,.gh true K (H.set id (some x)))::h) g w'→vp w' w0.heap.size Zp ((c,.gh true K (H.set id (some x)))::h) g c id K x):
  HR w0 Z0 Zp ((c,.gh true K (H.set id (some x)))::h) g w'∧Le Zp h g w ((c,.gh true K (H.set id (some x)))::h) g w':=by
 have hG:GL h g c id b:=⟨true,K,H,y,e,ho,hy,hp,hb⟩;have hlt:id<H.length:=(List.getElem?_eq_some_iff.1 hy).1;refine R.ali ho g.Z g.pm (fun _ _ h=>h) (fun _ _ h=> .inl h) (fun _ _ _ h=>h) (fun _ _ _ h=> .inl h) (by simp) (by simp) (fun i z hi hz=> ?_) (fun i b' j h1 h2 _=>R.gh.lq _ _ _ _ h1 h2) (fun i b' e' x' h1 h2 h3 h4=> ?_) (fun b' hb' hn=>hw b' fun h=>hn id (h▸hG))
  (fun b' i hz=>bW (hw b' fun h=>R.gh.lq _ _ _ i hG (h▸hz))) (by omega) he fun L i z hz=> ?_
 ·by_cases h1:id=i
  ·subst h1;exact⟨y,hy⟩
  ·rw[dw h1]at hz;exact⟨z,hz⟩
 ·rw[R.gh.fresh c true K H H.length ho (aA _)]at h2;cases h2
 ·by_cases h1:id=i
  ·subst h1;rw[List.getElem?_set_self hlt]at hz
   cases hz;exact hx L
  ·rw[dw h1]at hz;exact vp.mono L (fun e' he'=>hw _ fun h=>h1 ((R.gh.oa _ _ _ _ _ hG ⟨true,K,H,z,e',ho,hz,he',h⟩).2)) _ _ (R.gh.xZ c true K H i z ho hz)
theorem HR.eR(R:HR w0 Z0 Zp h g w){c k cap sz:Nat}{K:GK}{H:List (Option K.xZ)}{x:K.xZ}(ho:look .dead c h= .gh true K H){y:Obj}(hw:w'.heap=w.heap.push y)(he:w0.Extends w')(hsz:∀V,K= .bf V→sz=V.size){g':G}(hg:g'={ g with pm:=U7 g.pm c H.length (w.heap.size,k,cap,sz) })
  (hx:Le Zp h g w ((c,.gh true K (eR H x))::h) g' w'→vp w' w0.heap.size Zp ((c,.gh true K (eR H x))::h) g' c H.length K x):
  HR w0 Z0 Zp ((c,.gh true K (eR H x))::h) g' w'∧Le Zp h g w ((c,.gh true K (eR H x))::h) g' w':=by
 subst hg;have hold:∀b:Nat,b<w.heap.size→w'.heap[b]? =w.heap[b]? :=fun b hb=>by rw[hw,Array.getElem?_push,if_neg (Nat.ne_of_lt hb)]
 have hws:w'.heap.size=w.heap.size+1:=by rw[hw];simp
 have hfr:=R.gh.fresh c true K H H.length ho (aA _);have hne:∀c' id' e,g.pm c' id'=some e→¬ (c'=c∧id'=H.length):=fun c' id' e h1 ⟨h2,h3⟩=>by subst h2;subst h3;rw[hfr]at h1;cases h1
 refine R.ali ho g.Z (U7 g.pm c H.length (w.heap.size,k,cap,sz)) (fun _ _ h=>h) (fun _ _ h=> .inl h) (fun c' id' e h=>by rw[vq _ _ (hne _ _ _ h)];exact h) (fun c' id' e h=> ?_) (by simp[Go.Am.eR]) (by simp[Go.Am.eR]) (fun i z hi hz=> ?_) (fun i b' j h1 h2 _=>R.gh.lq _ _ _ _ h1 h2) (fun i b' e' x' h1 h2 h3 h4=> ?_) (fun b' hb' _=>hold b' hb')
  (fun b' i hz=>bW (hold b' (R.Nb _ _ hz))) (by omega) he fun L i z hz=> ?_
 ·by_cases h1:c'=c∧id'=H.length
  ·obtain⟨rfl,rfl⟩:=h1;rw[sy]at h
   cases h;exact .inr ⟨rfl,rfl,by simp[Go.Am.eR],.inl ⟨aA _,by simp only;omega⟩,hsz⟩
  ·rw[vq _ _ h1]at h;exact .inl h
 ·simp only[Go.Am.eR]at hz;rw[aQ hi]at hz;exact⟨z,hz⟩
 ·rw[sy]at h2
  cases h2;have:=R.gh.lt _ _ _ h1;simp only at h3;omega
 ·simp only[Go.Am.eR]at hz;rcases Nat.lt_or_ge i H.length with hi |hi
  ·rw[aQ hi]at hz;exact vp.mono L (fun e' he'=>hold _ (R.gh.lt c i _ ⟨true,K,H,z,e',ho,hz,he',rfl⟩)) _ _ (R.gh.xZ c true K H i z ho hz)
  ·rw[bh hi]at hz;have:i=H.length:=by
    rcases Nat.lt_or_ge (i -H.length) 1 with h |h
    ·omega
    ·rw[bx (by simpa using h)]at hz;cases hz
   subst this;simp at hz;subst hz;exact hx L
theorem HR.awW(R:HR w0 Z0 Zp h g w){c id b k cap sz:Nat}{K:GK}{H:List (Option K.xZ)}{y x:K.xZ}{e:Nat×Nat×Nat×Nat}(ho:look .dead c h= .gh true K H)(hy:H[id]? =some (some y))(hp:g.pm c id=some e)(hb:e.1=b)
  (hw:∀c,c≠b→w'.heap[c]? =w.heap[c]?) (hs:w'.heap.size=w.heap.size) (he:w0.Extends w') (hsz:∀V,K= .bf V→sz=V.size) {g':G} (hg:g'={ g with pm:=U7 g.pm c H.length (b,k,cap,sz) })
  (hx:Le Zp h g w ((c,.gh true K (Go.Am.eR (H.set id none) x))::h) g' w'→vp w' w0.heap.size Zp ((c,.gh true K (Go.Am.eR (H.set id none) x))::h) g' c H.length K x):
  HR w0 Z0 Zp ((c,.gh true K (Go.Am.eR (H.set id none) x))::h) g' w'∧Le Zp h g w ((c,.gh true K (Go.Am.eR (H.set id none) x))::h) g' w':=by
 subst hg;have hG:GL h g c id b:=⟨true,K,H,y,e,ho,hy,hp,hb⟩;have hlt:id<H.length:=(List.getElem?_eq_some_iff.1 hy).1;have hfr:=R.gh.fresh c true K H H.length ho (aA _);have hne:∀c' id' e,g.pm c' id'=some e→¬ (c'=c∧id'=H.length):=fun c' id' e h1 ⟨h2,h3⟩=>by subst h2;subst h3;rw[hfr]at h1;cases h1
 have azS:∀z:K.xZ,(Go.Am.eR (H.set id none) x)[id]? ≠some (some z):=fun z hz=>by
  simp only[Go.Am.eR]at hz;rw[aQ (by simpa using hlt),List.getElem?_set_self hlt]at hz
  cases hz
 have hold:∀(i:Nat) (z:K.xZ),i<H.length→(Go.Am.eR (H.set id none) x)[i]? =some (some z)→i≠id∧H[i]? =some (some z):=fun i z hi hz=>by
  have h1:i≠id:=by intro h;subst h;exact azS z hz
  simp only[Go.Am.eR]at hz;rw[aQ (by simpa using hi),dw (Ne.symm h1)]at hz;exact⟨h1,hz⟩
 refine R.ali ho g.Z (U7 g.pm c H.length (b,k,cap,sz)) (fun _ _ h=>h) (fun _ _ h=> .inl h) (fun c' id' e h=>by rw[vq _ _ (hne _ _ _ h)];exact h) (fun c' id' e h=> ?_) (by simp[Go.Am.eR]) (by simp[Go.Am.eR]) (fun i z hi hz=>⟨z,(hold i z hi hz).2⟩) (fun i b' j h1 h2 _=>R.gh.lq _ _ _ _ h1 h2) (fun i b' e' x' h1 h2 h3 h4 j=> ?_) (fun b' hb' hn=>hw b' fun h=>hn id (h▸hG))
  (fun b' i hz=>bW (hw b' fun h=>R.gh.lq _ _ _ i hG (h▸hz))) (by omega) he fun L i z hz=> ?_
 ·by_cases h1:c'=c∧id'=H.length
  ·obtain⟨rfl,rfl⟩:=h1;rw[sy]at h
   cases h;exact .inr ⟨rfl,rfl,by simp[Go.Am.eR],.inr ⟨id,hG,azS⟩,hsz⟩
  ·rw[vq _ _ h1]at h;exact .inl h
 ·exact R.gh.lq _ _ _ _ h1
 ·rcases Nat.lt_or_ge i H.length with hi |hi
  ·obtain⟨h1,h2⟩:=hold i z hi hz;exact vp.mono L (fun e' he'=>hw _ fun h=>h1 ((R.gh.oa _ _ _ _ _ ⟨true,K,H,z,e',ho,h2,he',h⟩ hG).2)) _ _ (R.gh.xZ c true K H i z ho h2)
  ·simp only[Go.Am.eR]at hz;rw[bh (by simpa using hi)]at hz;have:i=H.length:=by
    rcases Nat.lt_or_ge (i -H.length) 1 with h |h
    ·omega
    ·rw[bx (by simpa using h)]at hz;cases hz
   subst this;simp at hz;subst hz;exact hx L
theorem HR.azT(R:HR w0 Z0 Zp h g w){c id b:Nat}{K:GK}{H:List (Option K.xZ)}{y:K.xZ}{e:Nat×Nat×Nat×Nat}(ho:look .dead c h= .gh true K H)(hy:H[id]? =some (some y))(hp:g.pm c id=some e)(hb:e.1=b)(fz:Bool){g':G}(hg:g'={ g with Z:=fun b' i=>g.Z b' i∨(fz=true∧b'=b) }):
  HR w0 Z0 Zp ((c,.gh true K (H.set id none))::h) g' w∧Le Zp h g w ((c,.gh true K (H.set id none))::h) g' w:=by
 subst hg;have hG:GL h g c id b:=⟨true,K,H,y,e,ho,hy,hp,hb⟩;have hlt:id<H.length:=(List.getElem?_eq_some_iff.1 hy).1;have hold:∀(i:Nat) (z:K.xZ),(H.set id none)[i]? =some (some z)→i≠id∧H[i]? =some (some z):=fun i z hz=>by
  have h1:i≠id:=by intro h;subst h;rw[List.getElem?_set_self hlt]at hz;cases hz
  rw[dw (Ne.symm h1)]at hz;exact⟨h1,hz⟩
 refine R.ali ho (fun b' i=>g.Z b' i∨(fz=true∧b'=b)) g.pm (fun _ _ h=> .inl h) (fun b' i h=> ?_) (fun _ _ _ h=>h) (fun _ _ _ h=> .inl h) (by simp) (by simp) (fun i z hi hz=>⟨z,(hold i z hz).2⟩) (fun i b' j h1 h2 ⟨z,hz⟩=> ?_) (fun i b' e' x' h1 h2 h3 h4=> ?_) (fun _ _ _=>rfl)
  (fun _ _ _=>rfl) (aA _) R.ext fun L i z hz=>vp.mono L (fun _ _=>rfl) _ _ (R.gh.xZ c true K H i z ho (hold i z hz).2)
 ·rcases h with h |⟨_,h⟩
  ·exact .inl h
  ·exact .inr ⟨id,h▸hG⟩
 ·rcases h2 with h2 |⟨_,h2⟩
  ·exact R.gh.lq _ _ _ _ h1 h2
  ·exact(hold i z hz).1 (R.gh.oa _ _ _ _ _ h1 (h2▸hG)).2
 ·rw[R.gh.fresh c true K H H.length ho (aA _)]at h2;cases h2
end
def HM.eval(next:Nat):HM→bg→Log→Option (A×bg×Log)
 |.ret a,h,L=>some (a,h,L)
 |.fail,_,_=>none
 |.get o k,h,L=>(k (look .dead o h)).eval next h ((o,false)::L)
 |.set o x k,h,L=>match Nat.blt o next with
  |true=>k.eval next ((o,x)::h) ((o,true)::L)
  |false=>none
 |.opt x k,h,L=>x.bind fun b=>(k b).eval next h L
 |.br b x y,h,L=>match b with
  |true=>x.eval next h L
  |false=>y.eval next h L
theorem HM.run_eq{R:Type}(next:Nat)(K:A→bg→Log→Option R):∀(m:HM) (h:bg) (L:Log),m.run next h L K=(m.eval next h L).bind fun r=>K r.1 r.2.1 r.2.2
 |.ret a,h,L=>rfl
 |.fail,_,_=>rfl
 |.get o k,h,L=>by simp only[HM.run,HM.eval];exact HM.run_eq next K _ _ _
 |.set o x k,h,L=>by
  simp only[HM.run,HM.eval]
  cases Nat.blt o next with
  |true=>exact HM.run_eq next K _ _ _
  |false=>rfl
 |.opt x k,h,L=>by
  simp only[HM.run,HM.eval]
  cases x with
  |none=>rfl
  |some b=>exact HM.run_eq next K _ _ _
 |.br b x y,h,L=>by
  simp only[HM.run,HM.eval]
  cases b with
  |true=>exact HM.run_eq next K _ _ _
  |false=>exact HM.run_eq next K _ _ _
section
variable {next:Nat} {h:bg} {L:Log} {res:A×bg×Log}
theorem gW{a:A}(e:(HM.ret a).eval next h L=some res):res=(a,h,L):=by simp[HM.eval]at e;exact e.symm
theorem ai(e:(HM.fail).eval next h L=some res):False:=by simp[HM.eval]at e
theorem cE{o:Nat}{k:Ob→HM}(e:(HM.get o k).eval next h L=some res):(k (look .dead o h)).eval next h ((o,false)::L)=some res:=e
theorem dZ{o:Nat}{x:Ob}{k:HM}(e:(HM.set o x k).eval next h L=some res):k.eval next ((o,x)::h) ((o,true)::L)=some res:=by
 simp only[HM.eval]at e;split at e
 ·exact e
 ·cases e
theorem bI{β:Type}{x:Option β}{k:β→HM}(e:(HM.opt x k).eval next h L=some res):∃b,x=some b∧(k b).eval next h L=some res:=by
 cases x with
 |none=>simp[HM.eval]at e
 |some b=>exact⟨b,rfl,e⟩
end
def Ty.lr:Ty→List Value
 |.bool=>[.bool false]
 |.int k=>[.int k 0]
 |.str=>[.string ⟨#[]⟩]
 |.sl _=>[.slice none 0 0]
 |.pair a b=>a.lr++b.lr
 |.unit=>[]
 |.ref _=>[.pointer none]
 |.fn _=>[.nilFunc]
 |.cl _ _=>[.nilFunc]
def Ty.J1:Ty→Bool
 |.fn _=>false
 |.cl _ _=>false
 |.pair a b=>a.J1&&b.J1
 |_=>true
def alk:Value→Bool
 |.agg _=>true
 |_=>false
def ase(d:TD):Bool:=
 match d.ty with
 |some τ=>bU τ.size d.size&&(τ.isAgg==d.agg)&&τ.cI&&τ.J1
 |none=>true
def ai4(P:Program):Nat→List Field→List Ty→Bool
 |_,[],[]=>true
 |i,f::fs,τ::τs=>(f.name !="_")&&bU f.offset i&&(match P.underlying f.type,τ with
  |some (.int k),.int q=>decide (k=q)
  |some .bool,.bool=>true
  |some .string,.str=>true
  |_,_=>false)&&ai4 P (i+1) fs τs
 |_,_,_=>false
def ahy(P:Program)(t:TypeId)(τs:List Ty):Bool:=
 match P.underlying t with
 |some (.struct fs)=> !P.stoodInHeld t&& !P.eqGuardType P.depth t&&ai4 P 0 fs.toList τs
 |_=>false
structure eV (P:Program) (t:TypeId) (d:TD):Prop where
 und:(P.underlying t).map Ct=some d.desc
 agg:aqJ d.desc=d.agg
 info:(P.info? t).map (fun i=>(i.size,i.bytes))=some (d.size,d.bytes)
 ty:ase d=true
 eq:d.eq=[]∨ahy P t d.eq=true
 zero:match d.zero,d.ty with
  |true,some τ=>(P.info? t).map (fun i=>i.zero.map fun z=>(z.cells.toList,alk z))=some (some (τ.lr,d.agg))
  |true,none=>False
  |false,_=>True
def YX(P:Program)(tt:List (TypeId×TD)):Prop:=∀p∈tt,eV P p.1 p.2
theorem E6{α:Type}{t:Nat}{x:α}:∀{l:List (Nat×α)},cZ t l=some x→(t,x)∈l
 |[],h=>by simp[cZ]at h
 |(u,y)::r,h=>by
  simp only[cZ]at h
  split at h
  ·rename_i he;cases h;rw[az he];simp
  ·exact aF _ (E6 h)
theorem YX.get{P:Program}{tt:List (TypeId×TD)}(H:YX P tt){t:TypeId}{d:TD}(h:cZ t tt=some d):eV P t d:=H _ (E6 h)
section
variable {P:Program} {t:TypeId} {d:TD} (T:eV P t d)
theorem eV.under(T:eV P t d):∃y,P.underlying t=some y∧Ct y=d.desc:=by
 have:=T.und
 cases hy:P.underlying t with
 |none=>simp[hy]at this
 |some y=>exact⟨y,rfl,by simpa[hy]using this⟩
theorem eV.slice(T:eV P t d){e:TypeId}(hd:d.desc= .slice e):P.underlying t=some (.slice e):=by
 obtain⟨y,h1,h2⟩:=T.under;rw[hd]at h2
 cases y<;>simp[Ct]at h2;rw[h1,h2]
theorem eV.int(T:eV P t d){k:IntKind}(hd:d.desc= .int k):P.underlying t=some (.int k):=by
 obtain⟨y,h1,h2⟩:=T.under;rw[hd]at h2
 cases y<;>simp[Ct]at h2;rw[h1,h2]
theorem eV.string(T:eV P t d)(hd:d.desc= .str):P.underlying t=some .string:=by
 obtain⟨y,h1,h2⟩:=T.under;rw[hd]at h2
 cases y<;>simp[Ct]at h2;exact h1
theorem eV.array(T:eV P t d){n:Nat}{e:TypeId}(hd:d.desc= .array n e):P.underlying t=some (.array n e):=by
 obtain⟨y,h1,h2⟩:=T.under;rw[hd]at h2
 cases y<;>simp[Ct]at h2;rw[h1,h2.1,h2.2]
theorem eV.struct(T:eV P t d){fs:List (TypeId×Nat)}(hd:d.desc= .struct fs):∃f:Array Field,P.underlying t=some (.struct f)∧f.toList.map (fun x=>(x.type,x.offset))=fs:=by
 obtain⟨y,h1,h2⟩:=T.under;rw[hd]at h2
 cases y<;>simp[Ct]at h2;exact⟨_,h1,h2⟩
theorem eV.inf(T:eV P t d):∃i,P.info? t=some i∧i.size=d.size∧i.bytes=d.bytes:=by
 have:=T.info
 cases hy:P.info? t with
 |none=>simp[hy]at this
 |some i=>exact⟨i,rfl,by simpa[hy]using this⟩
theorem eV.sizeOf(T:eV P t d)(w:World):(sizeOf t).run P w= .ok d.size w:=by
 obtain⟨i,h1,h2,_⟩:=T.inf;simp[Go.sizeOf,typeInfo,h1,h2]
theorem eV.isAgg(T:eV P t d)(w:World):(isAgg t).run P w= .ok d.agg w:=by
 obtain⟨y,h1,h2⟩:=T.under;have ha:=T.agg;rw[←h2]at ha;simp only[Go.isAgg,Sem.run_bind,run_underlying h1,Result.andThen_ok]
 cases y<;>simp[Ct,aqJ]at ha<;>simp[←ha]
theorem eV.U8(T:eV P t d){τ:Ty}(h:d.ty=some τ):τ.size=d.size∧τ.isAgg=d.agg∧τ.cI=true∧τ.J1=true:=by
 have:=T.ty;simp only[ase,h,aj]at this;exact⟨az this.1.1.1,by simpa using this.1.1.2,this.1.2,this.2⟩
theorem eV.zeroV(T:eV P t d){τ:Ty}(hz:d.zero=true)(h:d.ty=some τ):∃i z,P.info? t=some i∧i.size=d.size∧i.bytes=d.bytes∧i.zero=some z∧z.cells.toList=τ.lr∧alk z=d.agg:=by
 have h1:=T.zero;rw[hz,h]at h1;obtain⟨i,h2,h3,h4⟩:=T.inf;simp only[h2,Option.map_some,Option.some.injEq]at h1
 cases hz2:i.zero with
 |none=>simp[hz2]at h1
 |some z=>simp[hz2]at h1;exact⟨i,z,h2,h3,h4,hz2,h1.1,h1.2⟩
end
section
variable {P:Program} {w0:W0} {w:World} {Z0 Zp:cD} {h h':bg} {g:G} {new:Nat} {r:A}
def bY(P:Program)(w0:W0)(Z0 Zp:cD)(h:bg)(g:G)(w:World)(new:Nat)(res:Sem Next)(r:A)(h':bg):Prop:=
 ∃n v w' g',res.run P w= .ok n w'∧(n= .value v∨(n= .skip∧v=undef))∧HR w0 Z0 Zp h' g' w'∧Le Zp h g w h' g' w'∧AR w' w0.heap.size Zp h' g' r v∧∀o,g'.al o→g.al o∨o=new
theorem bY.pure(R:HR w0 Z0 Zp h g w){res:Sem Next}{v:Value}(hr:res.run P w= .ok (.value v) w)(ha:AR w w0.heap.size Zp h g r v):bY P w0 Z0 Zp h g w new res r h:=
 ⟨_,v,w,g,hr,.inl rfl,R,Le.refl _ _ _ _,ha,fun _ h=> .inl h⟩
theorem Le.trans{w1 w2:World}{h1 h2:bg}{g1 g2:G}(a:Le Zp h g w h1 g1 w1)(b:Le Zp h1 g1 w1 h2 g2 w2):Le Zp h g w h2 g2 w2:=by
 refine⟨fun o ho=>b.al o (a.al o ho),a.z.trans b.z,a.zp.trans b.zp,fun o ho=> ?_,fun o ho hd=> ?_,fun o ho ht=> ?_,fun c id e he=>b.pm c id e (a.pm c id e he)⟩
 ·have h1:=a.ob o ho;have h2:=b.ob o (a.al o ho);rcases h2 with h2 |⟨e1,e2⟩|⟨c,c',e1,e2⟩|⟨q,e1,e2⟩|⟨k,v,l,l',e1,e2⟩|⟨K,H,H',e1,e2⟩|⟨K,H,e1,e2⟩
  ·exact .inl h2
  ·exact .inr (.inl ⟨h1.tok e1,e2⟩)
  ·rcases h1 with h1 |⟨_,h1⟩|⟨d,d',f1,f2⟩|⟨q,_,h1⟩|⟨_,_,_,_,_,h1⟩|⟨_,_,_,_,h1⟩|⟨_,_,_,h1⟩
   ·rw[h1]at e1;cases e1
   ·rw[h1]at e1;cases e1
   ·exact .inr (.inr (.inl ⟨d,c',f1,e2⟩))
   ·rw[e1]at h1;simp[jS]at h1
   ·rw[h1]at e1;cases e1
   ·rw[h1]at e1;cases e1
   ·rw[h1]at e1;cases e1
  ·exact .inr (.inr (.inr (.inl ⟨q,h1.row e1,e2⟩)))
  ·rcases h1 with h1 |⟨_,h1⟩|⟨d,d',f1,f2⟩|⟨q,_,h1⟩|⟨k1,v1,m,m',f1,f2⟩|⟨_,_,_,_,h1⟩|⟨_,_,_,h1⟩
   ·rw[h1]at e1;cases e1
   ·rw[h1]at e1;cases e1
   ·rw[f2]at e1;cases e1
   ·rw[e1]at h1;simp[jS]at h1
   ·rw[f2]at e1
    cases e1;exact .inr (.inr (.inr (.inr (.inl ⟨_,_,m,l',f1,e2⟩))))
   ·rw[h1]at e1;cases e1
   ·rw[h1]at e1;cases e1
  ·rcases h1 with h1 |⟨_,h1⟩|⟨d,d',f1,f2⟩|⟨q,_,h1⟩|⟨k1,v1,m,m',f1,f2⟩|⟨K1,H1,H2,f1,f2⟩|⟨_,_,_,h1⟩
   ·rw[h1]at e1;cases e1
   ·rw[h1]at e1;cases e1
   ·rw[f2]at e1;cases e1
   ·rw[e1]at h1;simp[jS]at h1
   ·rw[f2]at e1;cases e1
   ·rw[f2]at e1
    cases e1;exact .inr (.inr (.inr (.inr (.inr (.inl ⟨_,_,_,f1,e2⟩)))))
   ·rw[h1]at e1;cases e1
  ·rcases h1 with h1 |⟨_,h1⟩|⟨d,d',f1,f2⟩|⟨q,_,h1⟩|⟨k1,v1,m,m',f1,f2⟩|⟨K1,H1,H2,f1,f2⟩|⟨_,_,f1,f2⟩
   ·rw[h1]at e1;cases e1
   ·rw[h1]at e1;cases e1
   ·rw[f2]at e1;cases e1
   ·rw[e1]at h1;simp[jS]at h1
   ·rw[f2]at e1;cases e1
   ·rw[f2]at e1;cases e1
   ·rw[f2]at e1
    cases e1;exact .inr (.inr (.inr (.inr (.inr (.inr ⟨_,_,f1,e2⟩)))))
 ·exact(b.hm o (a.al o ho) hd).trans (a.hm o ho ((b.ob o (a.al o ho)).alive hd))
 ·have ht1:=(b.ob o (a.al o ho)).tok ht;have e1:=b.tok o (a.al o ho) ht;have e2:=a.tok o ho ht1;exact⟨e1.1.trans e2.1,fun c hc=>(e1.2 c ((a.hm o ho (by rw[ht1];simp)).trans hc)).trans (e2.2 c hc)⟩
theorem bY.behind{h1:bg}{g1:G}{res:Sem Next}(hl:Le Zp h g w h1 g1 w)(hal:∀o,g1.al o→g.al o)(H:bY P w0 Z0 Zp h1 g1 w new res r h'):bY P w0 Z0 Zp h g w new res r h':=by
 obtain⟨n,v,w',g',a,b,c,d,e,f⟩:=H;exact⟨n,v,w',g',a,b,c,hl.trans d,e,fun o ho=>(f o ho).imp (hal o) id⟩
theorem AR.c{base:Nat}{c:C}{v:Value}(hh:AR w base Zp h g (.v false [c]) v):CR w base Zp h g c v:=by
 obtain⟨u,rest,e,h1,_⟩:=hh
 cases e;exact h1
theorem AR.rg{base:Nat}{c:C}{v:Value}(hh:CR w base Zp h g c v):AR w base Zp h g (.v false [c]) v:=⟨v,[],rfl,hh,rfl⟩
theorem AR.agg{base:Nat}{cs:List C}{v:Value}(hh:AR w base Zp h g (.v true cs) v):∃vs:List Value,v= .agg vs.toArray∧dT w base Zp h g cs vs:=hh
theorem asf{base:Nat}(v:Value):AR w base Zp h g (ar9 v) v:=by
 unfold ar9
 split<;>first
  |exact AR.rg trivial
  |(refine AR.rg ?_;simp[CR])
theorem ea{base:Nat}{env:Env}{a:Act}(he:∀t,AR w base Zp h g (look aJ t env) (a.tmps.getD t undef))(x:Operand):AR w base Zp h g (D8 env x) (a.eval x):=by
 cases x with
 |tmp t=>exact he t
 |const v=>exact asf v
 |global _=>exact AR.rg trivial
 |func f=>exact AR.rg ⟨#[],rfl,by simp[dY]⟩
end
section
variable {P:Program} {w0:W0} {w:World} {Z0 Zp:cD} {h h':bg} {g:G} {new next base:Nat} {r:A} {L L':Log} {X:Cx}
theorem cb{c:C}(e:(pp c).eval next h L=some (r,h',L')):r= .v false [c]∧h'=h∧L'=L:=by
 simp[pp,HM.eval]at e;exact⟨e.1.symm,e.2.1.symm,e.2.2.symm⟩
theorem gx{k:IntKind}{n:Int}(e:(Cm k n).eval next h L=some (r,h',L')):r= .v false [.int k n]∧h'=h∧L'=L:=cb e
theorem kY{b:Bool}(e:(y9 b).eval next h L=some (r,h',L')):r= .v false [.bool b]∧h'=h∧L'=L:=cb e
theorem auQ{k:IntKind}{a b n:Int}(h:qt k a b=some n):b≠0∧n=k.wrap (a.tdiv b):=by
 unfold qt at h;split at h
 ·cases h
 ·rename_i hb;cases h;exact⟨hb,rfl⟩
theorem lu{a b n:Int}(h:rm a b=some n):b≠0∧n=a.tmod b:=by
 unfold rm at h;split at h
 ·cases h
 ·rename_i hb;cases h;exact⟨hb,rfl⟩
theorem aqO{k:IntKind}{a b n:Int}(h:qG k a b=some n):¬ b<0∧n=k.wrap (a*2^(min b.toNat k.bits)):=by
 unfold qG at h;split at h
 ·cases h
 ·rename_i hb;cases h;exact⟨hb,rfl⟩
theorem aqP{k:IntKind}{a b n:Int}(h:vm k a b=some n):¬ b<0∧n=a.fdiv (2^(min b.toNat k.bits)):=by
 unfold vm at h;split at h
 ·cases h
 ·rename_i hb;cases h;exact⟨hb,rfl⟩
theorem asg {op : BinOp} {t : TypeId} {x y : Operand} {k k' : IntKind} {a b : Int} (e : (YW op (.v false [.int k a]) (.v false [.int k' b])).eval next h L = some (r, h', L')) :
    h' = h ∧ ∃ c v, r = .v false [c] ∧ (do eqGuard op t x y (.int k a) (.int k' b); binOp op t (.int k a) (.int k' b) : Sem Value).run P w = .ok v w ∧ CR w base Zp h g c v := by
  have eg : (eqGuard op t x y (.int k a) (.int k' b)).run P w = .ok () w := by
    cases op <;> simp [eqGuard]
  simp only [Sem.run_bind, eg, Result.andThen_ok]
  cases op
  case shl =>
    obtain ⟨n, hn, e⟩ := bI e
    obtain ⟨h1, h2⟩ := aqO hn
    obtain ⟨rfl, rfl, _⟩ := gx e
    exact ⟨rfl, _, .int k n, rfl, by simp [binOp, Op.shift, h1, h2], rfl⟩
  case shr =>
    obtain ⟨n, hn, e⟩ := bI e
    obtain ⟨h1, h2⟩ := aqP hn
    obtain ⟨rfl, rfl, _⟩ := gx e
    exact ⟨rfl, _, .int k n, rfl, by simp [binOp, Op.shift, h1, h2], rfl⟩
  case quo =>
    simp only [YW] at e
    split at e
    · exact (ai e).elim
    rename_i hk _
    subst hk
    obtain ⟨n, hn, e⟩ := bI e
    obtain ⟨h1, h2⟩ := auQ hn
    obtain ⟨rfl, rfl, _⟩ := gx e
    exact ⟨rfl, _, .int k n, rfl, by simp [binOp, Op.intDiv, h1, h2], rfl⟩
  case rem =>
    simp only [YW] at e
    split at e
    · exact (ai e).elim
    rename_i hk _
    subst hk
    obtain ⟨n, hn, e⟩ := bI e
    obtain ⟨h1, h2⟩ := lu hn
    obtain ⟨rfl, rfl, _⟩ := gx e
    exact ⟨rfl, _, .int k n, rfl, by simp [binOp, Op.intDiv, h1, h2], rfl⟩
  all_goals
    simp only [YW] at e
    split at e
    · exact (ai e).elim
    rename_i hk _
    subst hk
    first
      | (obtain ⟨rfl, rfl, _⟩ := gx e
         refine ⟨rfl, _, _, rfl, ?_, rfl⟩
         simp [binOp, Op.intArith, Op.intBits, sU]; done)
      | (obtain ⟨rfl, rfl, _⟩ := kY e
         refine ⟨rfl, _, _, rfl, ?_, rfl⟩
         simp [binOp, Op.intCmp]; done)
theorem alm(a:List UInt8):(⟨a.toArray⟩:ByteArray).toList=a:=by rw[ByteArray.toList_eq]
theorem J2(a:List UInt8):(⟨a.toArray⟩:ByteArray).size=a.length:=by simp[ByteArray.size]
theorem aoc(a b:List UInt8):(⟨a.toArray⟩:ByteArray)++⟨b.toArray⟩=⟨(a++b).toArray⟩:=by
 apply ByteArray.ext;simp
theorem ace{a b c:List UInt8}(h:cat a b=some c):a.length+b.length≤2^62∧c=a++b:=by
 unfold cat at h;split at h
 ·rename_i hb;cases h;exact⟨hb,rfl⟩
 ·cases h
theorem ash {op : BinOp} {t : TypeId} {x y : Operand} {a b : List UInt8} (e : (YW op (.v false [.str a]) (.v false [.str b])).eval next h L = some (r, h', L')) :
    h' = h ∧ ∃ c v, r = .v false [c] ∧ (do eqGuard op t x y (.string ⟨a.toArray⟩) (.string ⟨b.toArray⟩); binOp op t (.string ⟨a.toArray⟩) (.string ⟨b.toArray⟩) : Sem Value).run P w = .ok v w ∧ CR w base Zp h g c v := by
  have eg : (eqGuard op t x y (.string ⟨a.toArray⟩) (.string ⟨b.toArray⟩)).run P w = .ok () w := by
    cases op <;> simp [eqGuard]
  simp only [Sem.run_bind, eg, Result.andThen_ok]
  cases op <;> simp only [YW] at e <;> first
    | exact (ai e).elim
    | (obtain ⟨rfl, rfl, _⟩ := kY e
       refine ⟨rfl, _, _, rfl, ?_, rfl⟩
       simp [binOp, Op.stringOp, QT]; done)
    | (obtain ⟨s, hs, e⟩ := bI e
       obtain ⟨h1, h2⟩ := ace hs
       subst h2
       obtain ⟨rfl, rfl, _⟩ := cb e
       refine ⟨rfl, _, _, rfl, ?_, rfl⟩
       have h3 := run_string_add_sum (P := P) (w := w) ⟨a.toArray⟩ ⟨b.toArray⟩ (by rw [J2, J2]; omega)
       rw [aoc] at h3
       simpa [binOp] using h3)
theorem run_equalIn_bool{t:TypeId}(hu:P.underlying t=some .bool)(a b:Bool)(d:Nat):(Op.equalIn (d+1) t (.bool a) (.bool b)).run P w= .ok (a==b) w:=by
 unfold Op.equalIn;simp only[Sem.run_bind,run_underlying hu,Result.andThen_ok,Sem.run_pure]
theorem run_equal_bool{t:TypeId}(hu:P.underlying t=some .bool)(a b:Bool):(Op.equal t (.bool a) (.bool b)).run P w= .ok (a==b) w:=run_equalIn_bool hu a b 9999
theorem aqQ {op : BinOp} {t : TypeId} {x y : Operand} {a b : Bool} (hu : P.underlying t = some .bool) (e : (YW op (.v false [.bool a]) (.v false [.bool b])).eval next h L = some (r, h', L')) :
    h' = h ∧ ∃ c v, r = .v false [c] ∧ (do eqGuard op t x y (.bool a) (.bool b); binOp op t (.bool a) (.bool b) : Sem Value).run P w = .ok v w ∧ CR w base Zp h g c v := by
  have eg : (eqGuard op t x y (.bool a) (.bool b)).run P w = .ok () w := by
    cases op <;> simp [eqGuard]
  simp only [Sem.run_bind, eg, Result.andThen_ok]
  cases op <;> simp only [YW] at e <;> first
    | exact (ai e).elim
    | (obtain ⟨rfl, rfl, _⟩ := kY e
       refine ⟨rfl, _, _, rfl, ?_, rfl⟩
       first
         | (show ((do pure (.bool (← Op.equal t (.bool a) (.bool b))) : Sem Value)).run P w = _
            simp only [Sem.run_bind, run_equal_bool hu, Result.andThen_ok, Sem.run_pure]; done)
         | (show ((do pure (.bool (!(← Op.equal t (.bool a) (.bool b)))) : Sem Value)).run P w = _
            simp only [Sem.run_bind, run_equal_bool hu, Result.andThen_ok, Sem.run_pure]; done))
theorem aln{op:BinOp}{t:TypeId}{x y:Operand}{X Y:A}{vx vy:Value}(hu:∀a b,X= .v false [.bool a]→Y= .v false [.bool b]→P.underlying t=some .bool)(hx:AR w base Zp h g X vx)(hy:AR w base Zp h g Y vy)
  (e:(YW op X Y).eval next h L=some (r,h',L')):
  h'=h∧∃c v,r= .v false [c]∧(do eqGuard op t x y vx vy;binOp op t vx vy:Sem Value).run P w= .ok v w∧CR w base Zp h g c v:=by
 unfold YW at e
 split at e
 ·have h1:=hx.c;have h2:=hy.c;simp only[CR]at h1 h2;subst h1;subst h2;exact asg e
 ·have h1:=hx.c;have h2:=hy.c;simp only[CR]at h1 h2;subst h1;subst h2;exact ash e
 ·have h1:=hx.c;have h2:=hy.c;simp only[CR]at h1 h2;subst h1;subst h2;exact aqQ (hu _ _ rfl rfl) e
 ·exact(ai e).elim
theorem auR {op : UnOp} {X : A} {vx : Value} (hx : AR w base Zp h g X vx) (e : (unA op X).eval next h L = some (r, h', L')) :
    h' = h ∧ ∃ c v, r = .v false [c] ∧ (Op.unary op vx).run P w = .ok v w ∧ CR w base Zp h g c v := by
  unfold unA at e
  split at e <;> first
    | exact (ai e).elim
    | (have h1 := hx.c
       simp only [CR] at h1
       subst h1
       first
         | (obtain ⟨rfl, rfl, _⟩ := gx e
            refine ⟨rfl, _, _, rfl, ?_, rfl⟩
            simp [Op.unary, Op.intArith, Op.intBits, sU]; done)
         | (obtain ⟨rfl, rfl, _⟩ := kY e
            refine ⟨rfl, _, _, rfl, ?_, rfl⟩
            simp [Op.unary]; done))
end
end Go.Am
