import Derived.Shelf.SlicesE.Clone
import Derived.Test.YtpdgokkbljiccaaGreatT
import Derived.Sort.LoopGhostIn
import Derived.Test.YtpdgokkbljiccaaGreatGT
import Derived.RegionIn
import Derived.Shelf.RegionOpen
set_option linter.unusedVariables false
set_option linter.unusedSimpArgs false
open Array renaming getElem?_eq_getElem→ag,getElem?_toList→av
open Bool renaming and_eq_true→ae
open List renaming all_eq_true→bg,append_assoc→bd,cons_append→bU,getElem?_drop→aT,getElem?_eq_getElem→ah,getElem?_take→ao,getElem_mem→cf,length→aa,nil_append→bH,size_toArray→bD
open Nat renaming add_assoc→ce,add_mul→bF,le_refl→aq,lt_of_lt_of_le→aK,zero_add→bv
open Go.Value renaming oneCell'→cq
open Go.World renaming cell?_of_block→az
set_option linter.unusedVariables false
namespace Go.Proofs
namespace Tryz
open Go.Shelf
def zZ:Go.Shelf.Ren:=⟨fun |41=>145 |n=>n,fun |22=>60 |23=>26 |4=>4 |n=>n,fun |n=>n⟩
theorem Gh:Go.Proofs.SlLaysE0.n41 Tryz.prog Tryz.zZ:={ mixed:=by kernel_rfl,f41:=⟨Tryz.f145.name,by decide,Tryz.func145.trans (congrArg some (by kernel_rfl))⟩,t4:=Tryz.underlying4,a4:=Tryz.isAgg4,z4:=Tryz.sizeOf4,v4:=Tryz.zeroValue4,t22:=Tryz.underlying60,a22:=Tryz.isAgg60,z22:=Tryz.sizeOf60,v22:=Tryz.zeroValue60 }
open Go.RowKit Go.Lib
theorem JS:(Tryz.prog.info? 26).map (fun i=>(i.zero.map fun z=>z.cells.size,i.size,i.bytes))=some (some 17,17,280):=by kernel_rfl
end Tryz
end Go.Proofs
namespace Go.Proofs
open Go.RowKit Go.Shelf Go.Am
namespace Tryz
abbrev JT:Ty:=.pair (.int .i64) (.pair (.int .i64) (.pair (.int .i64) (.pair (.int .i64) (.pair (.int .i64) (.int .i64)))))
abbrev JU:Ty:=.pair (.sl .str) (.sl (.pair (.int .i64) (.pair (.int .i64) (.int .i64))))
abbrev T8:Ty:=.sl (.int .i8)
abbrev Gs:Ty:=.int .i64
abbrev bC:Ty:=.pair T8 (.pair T8 (.pair T8 (.pair T8 (.pair T8 (.pair T8 (.pair Gs (.pair Gs (.pair Gs (.pair Gs (.pair Gs (.pair T8 (.pair T8 (.pair T8 (.pair Gs (.pair Gs Gs)))))))))))))))
abbrev dD:Ty:=.pair JT (.pair JU (.pair T8 (.pair Gs (.pair T8 (.pair T8 (.pair (.sl bC) (.pair T8 (.pair T8 (.pair T8 Gs)))))))))
abbrev MP:Ty:=.sl (.pair (.int .i64) (.pair (.int .i64) (.int .i64)))
theorem Iv{w:World}{Z Zp:aL}{e:Ty}{x:List e.den}{a:List Value}:PR w Z Zp (.sl e) x a↔∃v,a=[v]∧PR w Z Zp (.sl e) x [v]:=by
 constructor
 ·intro h;obtain⟨b,c,d,g,i⟩:=h;exact⟨_,g,b,c,d,rfl,i⟩
 ·rintro⟨v,rfl,h⟩;exact h
theorem u0{w:World}{Z Zp:aL}{a b:Ty}{x:a.den×b.den}{c:List Value}:PR w Z Zp (.pair a b) x c↔∃u r,c=u++r∧PR w Z Zp a x.1 u∧PR w Z Zp b x.2 r:=Iff.rfl
theorem Du{w:World}{Z Zp:aL}{k:IntKind}{x:Int}{a:List Value}:PR w Z Zp (.int k) x a↔a=[.int k x]:=Iff.rfl
theorem bK{w:World}{Z Zp:aL}{e b:Ty}{x:List e.den×b.den}{d:List Value}:PR w Z Zp (.pair (.sl e) b) x d↔∃v r,d=v::r∧PR w Z Zp (.sl e) x.1 [v]∧PR w Z Zp b x.2 r:=by
 constructor
 ·rintro⟨u,r,rfl,a,c⟩;obtain⟨v,rfl,a⟩:=Iv.1 a;exact⟨v,r,rfl,a,c⟩
 ·rintro⟨v,r,rfl,a,c⟩;exact⟨[v],r,rfl,a,c⟩
theorem bZ{w:World}{Z Zp:aL}{k:IntKind}{b:Ty}{x:Int×b.den}{d:List Value}:PR w Z Zp (.pair (.int k) b) x d↔∃r,d= .int k x.1::r∧PR w Z Zp b x.2 r:=by
 constructor
 ·rintro⟨u,r,rfl,a,c⟩;have a:u=[.int k x.1]:=a;subst a;exact⟨r,rfl,c⟩
 ·rintro⟨r,rfl,c⟩;exact⟨[_],r,rfl,rfl,c⟩
theorem bR{w:World}{Z Zp:aL}{x:bC.den}{us:List Value}:PR w Z Zp bC x us↔∃v0 i j k v4 l v11 a eP,
  us=[v0,i,j,k,v4,l,.int .i64 x.2.2.2.2.2.2.1,.int .i64 x.2.2.2.2.2.2.2.1,.int .i64 x.2.2.2.2.2.2.2.2.1,.int .i64 x.2.2.2.2.2.2.2.2.2.1,.int .i64 x.2.2.2.2.2.2.2.2.2.2.1,v11,a,eP,
   .int .i64 x.2.2.2.2.2.2.2.2.2.2.2.2.2.2.1,.int .i64 x.2.2.2.2.2.2.2.2.2.2.2.2.2.2.2.1,.int .i64 x.2.2.2.2.2.2.2.2.2.2.2.2.2.2.2.2]∧
  PR w Z Zp T8 x.1 [v0]∧PR w Z Zp T8 x.2.1 [i]∧PR w Z Zp T8 x.2.2.1 [j]∧PR w Z Zp T8 x.2.2.2.1 [k]∧PR w Z Zp T8 x.2.2.2.2.1 [v4]∧PR w Z Zp T8 x.2.2.2.2.2.1 [l]∧
  PR w Z Zp T8 x.2.2.2.2.2.2.2.2.2.2.2.1 [v11]∧PR w Z Zp T8 x.2.2.2.2.2.2.2.2.2.2.2.2.1 [a]∧PR w Z Zp T8 x.2.2.2.2.2.2.2.2.2.2.2.2.2.1 [eP]:=by
 constructor
 ·intro h;obtain⟨v0,r_1,e1,K,Q⟩:=bK.1 h;obtain⟨i,r_2,e2,L,R⟩:=bK.1 Q;obtain⟨j,r_3,e3,M,S⟩:=bK.1 R;obtain⟨k,Sw,e4,N,T⟩:=bK.1 S;obtain⟨v4,Sx,e5,O,U⟩:=bK.1 T;obtain⟨l,Sy,e6,P,V⟩:=bK.1 U;obtain⟨Sz,e7,X⟩:=bZ.1 V;obtain⟨Ry,e8,Y⟩:=bZ.1 X;obtain⟨SA,e9,h_9⟩:=bZ.1 Y;obtain⟨Rz,y,n⟩:=bZ.1 h_9;obtain⟨NR,z,o⟩:=bZ.1 n;obtain⟨v11,NT,D,c,p⟩:=bK.1 o;obtain⟨a,NU,E,d,q⟩:=bK.1 p;obtain⟨eP,NV,F,g,r⟩:=bK.1 q;obtain⟨NW,H,t⟩:=bZ.1 r;obtain⟨NX,I,u⟩:=bZ.1 t;have J:=Du.1 u;subst J;subst I;subst H;subst F;subst E;subst D;subst z;subst y;subst e9;subst e8;subst e7;subst e6;subst e5;subst e4;subst e3;subst e2;subst e1;exact⟨v0,i,j,k,v4,l,v11,a,eP,rfl,K,L,M,N,O,P,c,d,g⟩
 ·rintro⟨v0,i,j,k,v4,l,v11,a,eP,rfl,K,L,M,N,O,P,c,d,g⟩;exact bK.2 ⟨v0,_,rfl,K,bK.2 ⟨i,_,rfl,L,bK.2 ⟨j,_,rfl,M,bK.2 ⟨k,_,rfl,N,bK.2 ⟨v4,_,rfl,O,bK.2 ⟨l,_,rfl,P,
   bZ.2 ⟨_,rfl,bZ.2 ⟨_,rfl,bZ.2 ⟨_,rfl,bZ.2 ⟨_,rfl,bZ.2 ⟨_,rfl,bK.2 ⟨v11,_,rfl,c,bK.2 ⟨a,_,rfl,d,bK.2 ⟨eP,_,rfl,g,bZ.2 ⟨_,rfl,bZ.2 ⟨_,rfl,rfl⟩⟩⟩⟩⟩⟩⟩⟩⟩⟩⟩⟩⟩⟩⟩⟩
def si(x:dD.den)(v6 v7 v8 v10 v11 a eP fo fy:Value):List Value:=
 [.int .i64 x.1.1,.int .i64 x.1.2.1,.int .i64 x.1.2.2.1,.int .i64 x.1.2.2.2.1,.int .i64 x.1.2.2.2.2.1,.int .i64 x.1.2.2.2.2.2,v6,v7,v8,.int .i64 x.2.2.2.1,v10,v11,a,eP,fo,fy,.int .i64 x.2.2.2.2.2.2.2.2.2.2]
theorem B4{w:World}{Z Zp:aL}{x:dD.den}{us:List Value}:PR w Z Zp dD x us↔∃v6 v7 v8 v10 v11 a eP fo fy,
  us=si x v6 v7 v8 v10 v11 a eP fo fy∧PR w Z Zp (.sl .str) x.2.1.1 [v6]∧PR w Z Zp MP x.2.1.2 [v7]∧PR w Z Zp T8 x.2.2.1 [v8]∧PR w Z Zp T8 x.2.2.2.2.1 [v10]∧PR w Z Zp T8 x.2.2.2.2.2.1 [v11]∧
  PR w Z Zp (.sl bC) x.2.2.2.2.2.2.1 [a]∧PR w Z Zp T8 x.2.2.2.2.2.2.2.1 [eP]∧PR w Z Zp T8 x.2.2.2.2.2.2.2.2.1 [fo]∧PR w Z Zp T8 x.2.2.2.2.2.2.2.2.2.1 [fy]:=by
 constructor
 ·intro h;obtain⟨SB,r_1,e1,y,Y⟩:=u0.1 h;obtain⟨RA,e2,z⟩:=bZ.1 y;obtain⟨RB,e3,D⟩:=bZ.1 z;obtain⟨RC,e4,E⟩:=bZ.1 D;obtain⟨RD,e5,F⟩:=bZ.1 E;obtain⟨RE,e6,H⟩:=bZ.1 F;have e7:=Du.1 H;obtain⟨SC,Ry,e8,I,h_8⟩:=u0.1 Y;obtain⟨v6,RF,e9,T,U⟩:=bK.1 I;obtain⟨v7,J,V⟩:=Iv.1 U;obtain⟨v8,NR,K,X,l⟩:=bK.1 h_8;obtain⟨NT,L,n⟩:=bZ.1 l;obtain⟨v10,NU,M,c,o⟩:=bK.1 n;obtain⟨v11,NV,N,d,p⟩:=bK.1 o;obtain⟨a,NW,O,g,q⟩:=bK.1 p;obtain⟨eP,NX,P,i,r⟩:=bK.1 q;obtain⟨fo,RG,Q,j,t⟩:=bK.1 r;obtain⟨fy,RH,R,k,u⟩:=bK.1 t;have S:=Du.1 u;subst S;subst R;subst Q;subst P;subst O;subst N;subst M;subst L;subst K;subst J;subst e9;subst e8;subst e7;subst e6;subst e5;subst e4;subst e3;subst e2;subst e1;exact⟨v6,v7,v8,v10,v11,a,eP,fo,fy,rfl,T,V,X,c,d,g,i,j,k⟩
 ·rintro⟨v6,v7,v8,v10,v11,a,eP,fo,fy,rfl,T,U,X,c,d,g,i,j,k⟩;refine u0.2 ⟨[.int .i64 x.1.1,.int .i64 x.1.2.1,.int .i64 x.1.2.2.1,.int .i64 x.1.2.2.2.1,.int .i64 x.1.2.2.2.2.1,.int .i64 x.1.2.2.2.2.2],[v6,v7,v8,.int .i64 x.2.2.2.1,v10,v11,a,eP,fo,fy,.int .i64 x.2.2.2.2.2.2.2.2.2.2],rfl,?_,?_⟩
  ·exact bZ.2 ⟨_,rfl,bZ.2 ⟨_,rfl,bZ.2 ⟨_,rfl,bZ.2 ⟨_,rfl,bZ.2 ⟨_,rfl,rfl⟩⟩⟩⟩⟩
  ·exact u0.2 ⟨[v6,v7],[v8,.int .i64 x.2.2.2.1,v10,v11,a,eP,fo,fy,.int .i64 x.2.2.2.2.2.2.2.2.2.2],rfl,bK.2 ⟨v6,_,rfl,T,U⟩,bK.2 ⟨v8,_,rfl,X,bZ.2 ⟨_,rfl,bK.2 ⟨v10,_,rfl,c,bK.2 ⟨v11,_,rfl,d,
    bK.2 ⟨a,_,rfl,g,bK.2 ⟨eP,_,rfl,i,bK.2 ⟨fo,_,rfl,j,bK.2 ⟨fy,_,rfl,k,rfl⟩⟩⟩⟩⟩⟩⟩⟩⟩
theorem bm.setCell{α:Type}{R:α→List Value→Prop}{k:Nat}(r:∀x d,R x d→d.length=k):∀(l:List α) (u:List Value) (j:Nat) (x:α) (q:Nat) (v:Value),bm R l u→l[j]? =some x→q<k→
  (∀d,R x d→d=(u.drop (j*k)).take k→R x (d.set q v))→bm R l (u.set (j*k+q) v)
 |[],_,j,x,q,v,_,g,_,_=>by simp at g
 |y::l,_,0,x,q,v,⟨d,a,e,h,p⟩,g,E,hr=>by
  simp at g;subst g;subst e;have t:=r _ _ h;have:=hr d h (by simp[←t]);refine⟨d.set q v,a,?_,this,p⟩;rw[Nat.zero_mul,bv,List.set_append_left _ _ (by omega)]
 |y::l,_,j+1,x,q,v,⟨d,a,e,h,p⟩,g,E,hr=>by
  subst e;have t:=r _ _ h;have D:(j+1)*k=d.length+j*k:=by rw[t,bF];omega
  have:=bm.setCell r l a j x q v p (by simpa using g) E fun i H I=>hr i H (by rw[D,←List.drop_drop,List.drop_left];exact I);refine⟨d,a.set (j*k+q) v,?_,h,this⟩;rw[D,ce,List.set_append_right _ _ (by omega),Nat.add_sub_cancel_left]
theorem heap_alloc(w:World)(o:Obj):(w.alloc o).heap=w.heap.push o:=rfl
theorem n3(w:World)(o:Obj):(w.alloc o).heap[w.heap.size]? =some o:=by rw[heap_alloc];simp
theorem za{w:World}{o p:Obj}{b:Nat}(h:w.heap[b]? =some p):(w.alloc o).heap[b]? =some p:=by
 have a:=(Array.getElem?_eq_some_iff.1 h).1;rw[heap_alloc,Array.getElem?_push,if_neg (by omega),h]
theorem aI{W a:World}(h:W.Extends a){b:Nat}{o:Obj}(c:W.heap[b]? =some o):a.heap[b]? =some o:=
 (h.block b (Array.getElem?_eq_some_iff.1 c).1).trans c
theorem aA{W:World}{b:Nat}{cur:Array Value}{t:TypeId}(a:W.heap[b]? =some (.cells cur t (0,0)))(i:Nat)(v:Value)(c:cur[i]? =some v):W.cell? ⟨b,i,none⟩=some v:=by simp[World.cell?,a,c]
theorem aU{W:World}{b:Nat}{cur:Array Value}{t:TypeId}(a:W.heap[b]? =some (.cells cur t (0,0)))(i:Nat):W.frozen? ⟨b,i,none⟩=false:=by simp[World.frozen?,a]
theorem cY{W:World}{b:Nat}{cur:Array Value}{t:TypeId}(a:W.heap[b]? =some (.cells cur t (0,0)))(i:Nat)(v:Value):(W.setCell ⟨b,i,none⟩ v).heap[b]? =some (.cells (cur.setIfInBounds i v) t (0,0)):=by
 simp only[World.setCell,Array.getElem?_modify,if_pos,a,Option.map_some];rfl
theorem cg{W:World}{b c:Nat}(i:Nat)(v:Value)(h:c≠b):(W.setCell ⟨b,i,none⟩ v).heap[c]? =W.heap[c]? :=by
 simp only[World.setCell,Array.getElem?_modify,if_neg (Ne.symm h)]
theorem EL{w:World}{t:TypeId}(l:List Value):∀j u,l[j]? =some u→(w.alloc (.cells l.toArray t)).cell? ((⟨w.heap.size,0,none⟩:Addr).add j)=some u:=fun j u a=>by
 rw[Addr.add_lit];exact aA (n3 w _) _ _ (by simpa using a)
def PB(B:Nat):List Value:=[.pointer (some ⟨B,8,none⟩),.pointer (some ⟨B,10,none⟩),.pointer (some ⟨B,11,none⟩),.pointer (some ⟨B,13,none⟩),.pointer (some ⟨B,14,none⟩),.pointer (some ⟨B,15,none⟩)]
def nine(b j:Nat):List Value:=[.pointer (some ⟨b,j*17,none⟩),.pointer (some ⟨b,j*17+1,none⟩),.pointer (some ⟨b,j*17+2,none⟩),.pointer (some ⟨b,j*17+3,none⟩),.pointer (some ⟨b,j*17+4,none⟩),.pointer (some ⟨b,j*17+5,none⟩),
 .pointer (some ⟨b,j*17+11,none⟩),.pointer (some ⟨b,j*17+12,none⟩),.pointer (some ⟨b,j*17+13,none⟩)]
def wi(B b i:Nat):List Value:=PB B++((List.range i).map (nine b)).flatten
theorem EM(B b i:Nat):wi B b (i+1)=wi B b i++nine b i:=by
 unfold wi;rw[List.range_succ,List.map_append,List.flatten_append,bd];simp
abbrev dy(x:dD.den):List bC.den:=x.2.2.2.2.2.2.1
structure OI (w:World) (Z:aL) (x:dD.den) (B b cap:Nat) (ZZ:aL) (v6 v7 v8 v10 v11 eP fo fy:Value) (cb:Array Value) (W:World):Prop where
 ext:w.Extends W
 zz:∀c i,ZZ c i→c<W.heap.size∧c≠B∧c≠b∧(Z c i∨w.heap.size≤c)∧c≠B+1
 lR:B+1<W.heap.size∧b≠B+1
 hB:W.heap[B]? =some (.cells (si x v6 v7 v8 v10 v11 (.slice (some ⟨b,0,none⟩) (dy x).length cap) eP fo fy).toArray 62 (0,0))
 hb:W.heap[b]? =some (.cells cb 26 (0,0))
 ne:B≠b
 lB:w.heap.size≤B
 lb:w.heap.size≤b
 p6:PR W ZZ ay (.sl .str) x.2.1.1 [v6]
 p7:PR W ZZ ay MP x.2.1.2 [v7]
 p8:PR W ZZ ay T8 x.2.2.1 [v8]
 EN:PR W ZZ ay T8 x.2.2.2.2.1 [v10]
 EO:PR W ZZ ay T8 x.2.2.2.2.2.1 [v11]
 EP:PR W ZZ ay T8 x.2.2.2.2.2.2.2.1 [eP]
 EQ:PR W ZZ ay T8 x.2.2.2.2.2.2.2.2.1 [fo]
 ER:PR W ZZ ay T8 x.2.2.2.2.2.2.2.2.2.1 [fy]
 pb:bm (PR W ZZ ay bC) (dy x) (cb.toList.take ((dy x).length*17))
def ee(w:World)(Z:aL)(x:dD.den)(B b cap:Nat)(W:World):Prop:=∃(ZZ:aL) (v6 v7 v8 v10 v11 eP fo fy:Value) (cb:Array Value),OI w Z x B b cap ZZ v6 v7 v8 v10 v11 eP fo fy cb W
variable {w W:World} {Z ZZ:aL} {x:dD.den} {B b cap:Nat} {v6 v7 v8 v10 v11 eP fo fy:Value} {cb:Array Value}
theorem ai{W a:World}{Z c:aL}(h:bc W a Z c){τ:Ty}{x:τ.den}{d:List Value}(p:PR W Z ay τ x d):PR a c ay τ x d:=PR.mono h (fun _ _ g=>g.elim) _ _ _ p
theorem dA{W a:World}{Z c:aL}(h:bc W a Z c){τ:Ty}{l:List τ.den}{d:List Value}(p:bm (PR W Z ay τ) l d):bm (PR a c ay τ) l d:=bm.mono (fun x g q=>ai h q) _ _ p
abbrev qp(ZZ:aL)(W a:World):aL:=fun c i=>ZZ c i∨(W.heap.size≤c∧c<a.heap.size)
theorem OI.ext'(h:OI w Z x B b cap ZZ v6 v7 v8 v10 v11 eP fo fy cb W){g:World}(e:W.Extends g):OI w Z x B b cap (qp ZZ W g) v6 v7 v8 v10 v11 eP fo fy cb g:=by
 have a:bc W g ZZ (qp ZZ W g):=fun c i d=>⟨.inl d,e.cell _ (h.zz c i d).1⟩;have u:=(Array.getElem?_eq_some_iff.1 h.hB).1;have D:=(Array.getElem?_eq_some_iff.1 h.hb).1;have y:=h.lR;refine⟨h.ext.trans e,fun c i d=> ?_,⟨by have:=e.size;omega,y.2⟩,aI e h.hB,aI e h.hb,h.ne,h.lB,h.lb,ai a h.p6,ai a h.p7,ai a h.p8,ai a h.EN,ai a h.EO,ai a h.EP,ai a h.EQ,ai a h.ER,dA a h.pb⟩;rcases d with d |⟨E,t⟩
 ·obtain⟨j,l,p,r⟩:=h.zz c i d;exact⟨aK j e.size,l,p,r⟩
 ·have:=h.ext.size;exact⟨t,by omega,by omega,.inr (by omega),by omega⟩
theorem gw{w W:World}(h:w.Extends W){c:Nat}(l:w.heap.size≤c)(i:Nat)(v:Value):w.Extends (W.setCell ⟨c,i,none⟩ v):=by
 have d:∀g:Nat,g<w.heap.size→(W.setCell ⟨c,i,none⟩ v).heap[g]? =w.heap[g]? :=fun g k=>(cg i v (by omega)).trans (h.block g k)
 exact⟨h.os,h.tape,h.output,by simpa using h.size,fun a j=>az (d a.block j),fun a j=>World.frozen?_of_block (d a.block j),d⟩
theorem fV{W:World}{ZZ:aL}{c:Nat}(g:∀a i,ZZ a i→a≠c)(i:Nat)(v:Value):bc W (W.setCell ⟨c,i,none⟩ v) ZZ ZZ:=fun a h d=>⟨d,az (cg i v (g a h d))⟩
theorem OI.NY(h:OI w Z x B b cap ZZ v6 v7 v8 v10 v11 eP fo fy cb W){v:Value}(g:PR W ZZ ay T8 x.2.2.1 [v]):OI w Z x B b cap ZZ v6 v7 v v10 v11 eP fo fy cb (W.setCell ⟨B,8,none⟩ v):=by
 have a:=fV (W:=W) (fun c i d=>(h.zz c i d).2.1) 8 v;exact⟨gw h.ext h.lB _ _,fun c i d=>by rw[show(W.setCell ⟨B,8,none⟩ v).heap.size=W.heap.size by simp];exact h.zz c i d,by simpa using h.lR,cY h.hB _ _,(cg _ _ h.ne.symm).trans h.hb,h.ne,h.lB,h.lb,
  ai a h.p6,ai a h.p7,ai a g,ai a h.EN,ai a h.EO,ai a h.EP,ai a h.EQ,ai a h.ER,dA a h.pb⟩
theorem OI.LH(h:OI w Z x B b cap ZZ v6 v7 v8 v10 v11 eP fo fy cb W){v:Value}(g:PR W ZZ ay T8 x.2.2.2.2.1 [v]):OI w Z x B b cap ZZ v6 v7 v8 v v11 eP fo fy cb (W.setCell ⟨B,10,none⟩ v):=by
 have a:=fV (W:=W) (fun c i d=>(h.zz c i d).2.1) 10 v;exact⟨gw h.ext h.lB _ _,fun c i d=>by rw[show(W.setCell ⟨B,10,none⟩ v).heap.size=W.heap.size by simp];exact h.zz c i d,by simpa using h.lR,cY h.hB _ _,(cg _ _ h.ne.symm).trans h.hb,h.ne,h.lB,h.lb,
  ai a h.p6,ai a h.p7,ai a h.p8,ai a g,ai a h.EO,ai a h.EP,ai a h.EQ,ai a h.ER,dA a h.pb⟩
theorem OI.LI(h:OI w Z x B b cap ZZ v6 v7 v8 v10 v11 eP fo fy cb W){v:Value}(g:PR W ZZ ay T8 x.2.2.2.2.2.1 [v]):OI w Z x B b cap ZZ v6 v7 v8 v10 v eP fo fy cb (W.setCell ⟨B,11,none⟩ v):=by
 have a:=fV (W:=W) (fun c i d=>(h.zz c i d).2.1) 11 v;exact⟨gw h.ext h.lB _ _,fun c i d=>by rw[show(W.setCell ⟨B,11,none⟩ v).heap.size=W.heap.size by simp];exact h.zz c i d,by simpa using h.lR,cY h.hB _ _,(cg _ _ h.ne.symm).trans h.hb,h.ne,h.lB,h.lb,
  ai a h.p6,ai a h.p7,ai a h.p8,ai a h.EN,ai a g,ai a h.EP,ai a h.EQ,ai a h.ER,dA a h.pb⟩
theorem OI.LJ(h:OI w Z x B b cap ZZ v6 v7 v8 v10 v11 eP fo fy cb W){v:Value}(g:PR W ZZ ay T8 x.2.2.2.2.2.2.2.1 [v]):OI w Z x B b cap ZZ v6 v7 v8 v10 v11 v fo fy cb (W.setCell ⟨B,13,none⟩ v):=by
 have a:=fV (W:=W) (fun c i d=>(h.zz c i d).2.1) 13 v;exact⟨gw h.ext h.lB _ _,fun c i d=>by rw[show(W.setCell ⟨B,13,none⟩ v).heap.size=W.heap.size by simp];exact h.zz c i d,by simpa using h.lR,cY h.hB _ _,(cg _ _ h.ne.symm).trans h.hb,h.ne,h.lB,h.lb,
  ai a h.p6,ai a h.p7,ai a h.p8,ai a h.EN,ai a h.EO,ai a g,ai a h.EQ,ai a h.ER,dA a h.pb⟩
theorem OI.LK(h:OI w Z x B b cap ZZ v6 v7 v8 v10 v11 eP fo fy cb W){v:Value}(g:PR W ZZ ay T8 x.2.2.2.2.2.2.2.2.1 [v]):OI w Z x B b cap ZZ v6 v7 v8 v10 v11 eP v fy cb (W.setCell ⟨B,14,none⟩ v):=by
 have a:=fV (W:=W) (fun c i d=>(h.zz c i d).2.1) 14 v;exact⟨gw h.ext h.lB _ _,fun c i d=>by rw[show(W.setCell ⟨B,14,none⟩ v).heap.size=W.heap.size by simp];exact h.zz c i d,by simpa using h.lR,cY h.hB _ _,(cg _ _ h.ne.symm).trans h.hb,h.ne,h.lB,h.lb,
  ai a h.p6,ai a h.p7,ai a h.p8,ai a h.EN,ai a h.EO,ai a h.EP,ai a g,ai a h.ER,dA a h.pb⟩
theorem OI.LL(h:OI w Z x B b cap ZZ v6 v7 v8 v10 v11 eP fo fy cb W){v:Value}(g:PR W ZZ ay T8 x.2.2.2.2.2.2.2.2.2.1 [v]):OI w Z x B b cap ZZ v6 v7 v8 v10 v11 eP fo v cb (W.setCell ⟨B,15,none⟩ v):=by
 have a:=fV (W:=W) (fun c i d=>(h.zz c i d).2.1) 15 v;exact⟨gw h.ext h.lB _ _,fun c i d=>by rw[show(W.setCell ⟨B,15,none⟩ v).heap.size=W.heap.size by simp];exact h.zz c i d,by simpa using h.lR,cY h.hB _ _,(cg _ _ h.ne.symm).trans h.hb,h.ne,h.lB,h.lb,
  ai a h.p6,ai a h.p7,ai a h.p8,ai a h.EN,ai a h.EO,ai a h.EP,ai a h.EQ,ai a g,dA a h.pb⟩
theorem OI.z1(h:OI w Z x B b cap ZZ v6 v7 v8 v10 v11 eP fo fy cb W){j q:Nat}{a:bC.den}(t:(dy x)[j]? =some a)(u:q<17){v:Value}(y:∀g,PR W ZZ ay bC a g→PR W ZZ ay bC a (g.set q v)):
  OI w Z x B b cap ZZ v6 v7 v8 v10 v11 eP fo fy (cb.setIfInBounds (j*17+q) v) (W.setCell ⟨b,j*17+q,none⟩ v):=by
 have d:=fV (W:=W) (fun c i l=>(h.zz c i l).2.2.1) (j*17+q) v;refine⟨gw h.ext h.lb _ _,fun c i l=>by rw[show(W.setCell ⟨b,j*17+q,none⟩ v).heap.size=W.heap.size by simp];exact h.zz c i l,by simpa using h.lR,(cg _ _ h.ne).trans h.hB,cY h.hb _ _,h.ne,h.lB,h.lb,
  ai d h.p6,ai d h.p7,ai d h.p8,ai d h.EN,ai d h.EO,ai d h.EP,ai d h.EQ,ai d h.ER,dA d ?_⟩
 have:=bm.setCell (k:=17) (fun x g r=>PR.length bC x g r) (dy x) _ j a q v h.pb t u (fun g p _=>y g p);rw[Array.toList_setIfInBounds,List.take_set];exact this
structure OG (x:dD.den):Prop where
 n6:x.2.1.1.length≤1000000000
 n7:x.2.1.2.length≤1000000000
 n8:aa (α:=Int) x.2.2.1≤1000000000
 LM:aa (α:=Int) x.2.2.2.2.1≤1000000000
 LN:aa (α:=Int) x.2.2.2.2.2.1≤1000000000
 LO:aa (α:=Int) x.2.2.2.2.2.2.2.1≤1000000000
 LP:aa (α:=Int) x.2.2.2.2.2.2.2.2.1≤1000000000
 LQ:aa (α:=Int) x.2.2.2.2.2.2.2.2.2.1≤1000000000
 L1:1≤(dy x).length
 L2:(dy x).length≤1000000
 nb:∀y∈dy x,aa (α:=Int) y.1≤1000000000∧aa (α:=Int) y.2.1≤1000000000∧aa (α:=Int) y.2.2.1≤1000000000∧aa (α:=Int) y.2.2.2.1≤1000000000∧aa (α:=Int) y.2.2.2.2.1≤1000000000∧aa (α:=Int) y.2.2.2.2.2.1≤1000000000∧aa (α:=Int) y.2.2.2.2.2.2.2.2.2.2.2.1≤1000000000∧aa (α:=Int) y.2.2.2.2.2.2.2.2.2.2.2.2.1≤1000000000∧aa (α:=Int) y.2.2.2.2.2.2.2.2.2.2.2.2.2.1≤1000000000
def iP(w:World)(Z:aL)(x:dD.den)(B b cap:Nat)(W:World)(g h:Nat):Prop:=
 ∃(l:List Int) (a:Option Addr) (n k:Nat) (ZZ:aL),(g=B∨g=b)∧aa l≤1000000000∧W.cell? ⟨g,h,none⟩=some (.slice a n k)∧(∀d,W.Extends d→d.cell? ⟨g,h,none⟩=some (.slice a n k)∧d.frozen? ⟨g,h,none⟩=false)∧
  PR W ZZ ay T8 l [.slice a n k]∧(∀c i,ZZ c i→c<W.heap.size)∧
  ∀d v,W.Extends d→PR d (qp ZZ W d) ay T8 l [v]→ee w Z x B b cap (d.setCell ⟨g,h,none⟩ v)
theorem ca{W:World}{ZZ Zp:aL}{e:Ty}{l:List e.den}{v:Value}(h:PR W ZZ Zp (.sl e) l [v]):∃a n k,v= .slice a n k:=by
 obtain⟨a,k,d,c,_⟩:=h;exact⟨a,_,k,by injection c⟩
theorem ee.NZ(h:ee w Z x B b cap W)(G:OG x):iP w Z x B b cap W B 8:=by
 obtain⟨ZZ,v6,v7,v8,v10,v11,eP,fo,fy,cb,h⟩:=h;obtain⟨a,n,k,rfl⟩:=ca h.p8;exact⟨x.2.2.1,a,n,k,ZZ,.inl rfl,G.n8,aA h.hB 8 _ rfl,fun d e=>⟨aA (aI e h.hB) 8 _ rfl,aU (aI e h.hB) 8⟩,h.p8,fun c i g=>(h.zz c i g).1,fun d v e j=>⟨_,_,_,_,_,_,_,_,_,_,(h.ext' e).NY j⟩⟩
theorem ee.LR(h:ee w Z x B b cap W)(G:OG x):iP w Z x B b cap W B 10:=by
 obtain⟨ZZ,v6,v7,v8,v10,v11,eP,fo,fy,cb,h⟩:=h;obtain⟨a,n,k,rfl⟩:=ca h.EN;exact⟨x.2.2.2.2.1,a,n,k,ZZ,.inl rfl,G.LM,aA h.hB 10 _ rfl,fun d e=>⟨aA (aI e h.hB) 10 _ rfl,aU (aI e h.hB) 10⟩,h.EN,fun c i g=>(h.zz c i g).1,fun d v e j=>⟨_,_,_,_,_,_,_,_,_,_,(h.ext' e).LH j⟩⟩
theorem ee.LU(h:ee w Z x B b cap W)(G:OG x):iP w Z x B b cap W B 11:=by
 obtain⟨ZZ,v6,v7,v8,v10,v11,eP,fo,fy,cb,h⟩:=h;obtain⟨a,n,k,rfl⟩:=ca h.EO;exact⟨x.2.2.2.2.2.1,a,n,k,ZZ,.inl rfl,G.LN,aA h.hB 11 _ rfl,fun d e=>⟨aA (aI e h.hB) 11 _ rfl,aU (aI e h.hB) 11⟩,h.EO,fun c i g=>(h.zz c i g).1,fun d v e j=>⟨_,_,_,_,_,_,_,_,_,_,(h.ext' e).LI j⟩⟩
theorem ee.LV(h:ee w Z x B b cap W)(G:OG x):iP w Z x B b cap W B 13:=by
 obtain⟨ZZ,v6,v7,v8,v10,v11,eP,fo,fy,cb,h⟩:=h;obtain⟨a,n,k,rfl⟩:=ca h.EP;exact⟨x.2.2.2.2.2.2.2.1,a,n,k,ZZ,.inl rfl,G.LO,aA h.hB 13 _ rfl,fun d e=>⟨aA (aI e h.hB) 13 _ rfl,aU (aI e h.hB) 13⟩,h.EP,fun c i g=>(h.zz c i g).1,fun d v e j=>⟨_,_,_,_,_,_,_,_,_,_,(h.ext' e).LJ j⟩⟩
theorem ee.LW(h:ee w Z x B b cap W)(G:OG x):iP w Z x B b cap W B 14:=by
 obtain⟨ZZ,v6,v7,v8,v10,v11,eP,fo,fy,cb,h⟩:=h;obtain⟨a,n,k,rfl⟩:=ca h.EQ;exact⟨x.2.2.2.2.2.2.2.2.1,a,n,k,ZZ,.inl rfl,G.LP,aA h.hB 14 _ rfl,fun d e=>⟨aA (aI e h.hB) 14 _ rfl,aU (aI e h.hB) 14⟩,h.EQ,fun c i g=>(h.zz c i g).1,fun d v e j=>⟨_,_,_,_,_,_,_,_,_,_,(h.ext' e).LK j⟩⟩
theorem ee.LX(h:ee w Z x B b cap W)(G:OG x):iP w Z x B b cap W B 15:=by
 obtain⟨ZZ,v6,v7,v8,v10,v11,eP,fo,fy,cb,h⟩:=h;obtain⟨a,n,k,rfl⟩:=ca h.ER;exact⟨x.2.2.2.2.2.2.2.2.2.1,a,n,k,ZZ,.inl rfl,G.LQ,aA h.hB 15 _ rfl,fun d e=>⟨aA (aI e h.hB) 15 _ rfl,aU (aI e h.hB) 15⟩,h.ER,fun c i g=>(h.zz c i g).1,fun d v e j=>⟨_,_,_,_,_,_,_,_,_,_,(h.ext' e).LL j⟩⟩
theorem Dv{W:World}{ZZ:aL}{y:bC.den}{v:Value}(q:PR W ZZ ay T8 y.1 [v]):∀a,PR W ZZ ay bC y a→PR W ZZ ay bC y (a.set 0 v):=by
 intro a h;obtain⟨E,r,t,u3,u,z,i,j,k,rfl,D,g1,l,n,o,p,c,d,g⟩:=bR.1 h;exact bR.2 ⟨v,r,t,u3,u,z,i,j,k,rfl,q,g1,l,n,o,p,c,d,g⟩
theorem ee.LY(h:ee w Z x B b cap W)(G:OG x){j:Nat}(t:j<(dy x).length):iP w Z x B b cap W b (j*17+0):=by
 obtain⟨ZZ,v6,v7,v8,v10,v11,eP,fo,fy,cb,h⟩:=h;have p:=ah t;obtain⟨y,d⟩:∃y,(dy x)[j]=y:=⟨_,rfl⟩;rw[d]at p;have J:=G.nb y (d▸cf t);have L:=bm.get (k:=17) (fun x D M=>PR.length bC x D M) _ _ h.pb j y p;obtain⟨U,V,X,u3,Y,u5,O,P,Q,K,r,g1,g2,R,S,T,E,H,I⟩:=bR.1 L;obtain⟨a,n,k,rfl⟩:=ca r;have l:cb[j*17+0]? =some (.slice a n k):=by
  have g:(((cb.toList.take ((dy x).length*17)).drop (j*17)).take 17)[0]? =some (.slice a n k):=by rw[K];rfl
  rw[ao,if_pos (by omega),aT,ao]at g
  split at g
  ·rw[←av];exact g
  ·cases g
 exact⟨y.1,a,n,k,ZZ,.inr rfl,J.1,aA h.hb _ _ l,fun u e=>⟨aA (aI e h.hb) _ _ l,aU (aI e h.hb) _⟩,r,fun c i l=>(h.zz c i l).1,fun u v e N=>⟨_,_,_,_,_,_,_,_,_,_,(h.ext' e).z1 p (by omega) (Dv N)⟩⟩
theorem Dw{W:World}{ZZ:aL}{y:bC.den}{v:Value}(r:PR W ZZ ay T8 y.2.1 [v]):∀a,PR W ZZ ay bC y a→PR W ZZ ay bC y (a.set 1 v):=by
 intro a h;obtain⟨t,E,u,u3,z,D,i,j,k,rfl,l,g1,n,o,p,q,c,d,g⟩:=bR.1 h;exact bR.2 ⟨t,v,u,u3,z,D,i,j,k,rfl,l,r,n,o,p,q,c,d,g⟩
theorem ee.LZ(h:ee w Z x B b cap W)(G:OG x){j:Nat}(r:j<(dy x).length):iP w Z x B b cap W b (j*17+1):=by
 obtain⟨ZZ,v6,v7,v8,v10,v11,eP,fo,fy,cb,h⟩:=h;have p:=ah r;obtain⟨y,d⟩:∃y,(dy x)[j]=y:=⟨_,rfl⟩;rw[d]at p;have I:=G.nb y (d▸cf r);have K:=bm.get (k:=17) (fun x u L=>PR.length bC x u L) _ _ h.pb j y p;obtain⟨U,V,X,u3,Y,u5,N,O,P,J,Q,g1,g2,R,S,T,D,E,H⟩:=bR.1 K;obtain⟨a,n,k,rfl⟩:=ca g1;have l:cb[j*17+1]? =some (.slice a n k):=by
  have g:(((cb.toList.take ((dy x).length*17)).drop (j*17)).take 17)[1]? =some (.slice a n k):=by rw[J];rfl
  rw[ao,if_pos (by omega),aT,ao]at g
  split at g
  ·rw[←av];exact g
  ·cases g
 exact⟨y.2.1,a,n,k,ZZ,.inr rfl,I.2.1,aA h.hb _ _ l,fun t e=>⟨aA (aI e h.hb) _ _ l,aU (aI e h.hb) _⟩,g1,fun c i l=>(h.zz c i l).1,fun t v e M=>⟨_,_,_,_,_,_,_,_,_,_,(h.ext' e).z1 p (by omega) (Dw M)⟩⟩
theorem Dx{W:World}{ZZ:aL}{y:bC.den}{v:Value}(q:PR W ZZ ay T8 y.2.2.1 [v]):∀a,PR W ZZ ay bC y a→PR W ZZ ay bC y (a.set 2 v):=by
 intro a h;obtain⟨r,t,E,u3,u,z,i,j,k,rfl,l,g1,D,n,o,p,c,d,g⟩:=bR.1 h;exact bR.2 ⟨r,t,v,u3,u,z,i,j,k,rfl,l,g1,q,n,o,p,c,d,g⟩
theorem ee.L0(h:ee w Z x B b cap W)(G:OG x){j:Nat}(r:j<(dy x).length):iP w Z x B b cap W b (j*17+2):=by
 obtain⟨ZZ,v6,v7,v8,v10,v11,eP,fo,fy,cb,h⟩:=h;have p:=ah r;obtain⟨y,d⟩:∃y,(dy x)[j]=y:=⟨_,rfl⟩;rw[d]at p;have I:=G.nb y (d▸cf r);have K:=bm.get (k:=17) (fun x u L=>PR.length bC x u L) _ _ h.pb j y p;obtain⟨U,V,X,u3,Y,u5,N,O,P,J,Q,g1,g2,R,S,T,D,E,H⟩:=bR.1 K;obtain⟨a,n,k,rfl⟩:=ca g2;have l:cb[j*17+2]? =some (.slice a n k):=by
  have g:(((cb.toList.take ((dy x).length*17)).drop (j*17)).take 17)[2]? =some (.slice a n k):=by rw[J];rfl
  rw[ao,if_pos (by omega),aT,ao]at g
  split at g
  ·rw[←av];exact g
  ·cases g
 exact⟨y.2.2.1,a,n,k,ZZ,.inr rfl,I.2.2.1,aA h.hb _ _ l,fun t e=>⟨aA (aI e h.hb) _ _ l,aU (aI e h.hb) _⟩,g2,fun c i l=>(h.zz c i l).1,fun t v e M=>⟨_,_,_,_,_,_,_,_,_,_,(h.ext' e).z1 p (by omega) (Dx M)⟩⟩
theorem Dy{W:World}{ZZ:aL}{y:bC.den}{v:Value}(q:PR W ZZ ay T8 y.2.2.2.1 [v]):∀a,PR W ZZ ay bC y a→PR W ZZ ay bC y (a.set 3 v):=by
 intro a h;obtain⟨r,t,u,u3,z,D,i,j,k,rfl,l,g1,n,E,o,p,c,d,g⟩:=bR.1 h;exact bR.2 ⟨r,t,u,v,z,D,i,j,k,rfl,l,g1,n,q,o,p,c,d,g⟩
theorem ee.L5(h:ee w Z x B b cap W)(G:OG x){j:Nat}(t:j<(dy x).length):iP w Z x B b cap W b (j*17+3):=by
 obtain⟨ZZ,v6,v7,v8,v10,v11,eP,fo,fy,cb,h⟩:=h;have p:=ah t;obtain⟨y,d⟩:∃y,(dy x)[j]=y:=⟨_,rfl⟩;rw[d]at p;have J:=G.nb y (d▸cf t);have L:=bm.get (k:=17) (fun x D M=>PR.length bC x D M) _ _ h.pb j y p;obtain⟨U,V,X,u3,Y,u5,O,P,Q,K,R,g1,g2,r,S,T,E,H,I⟩:=bR.1 L;obtain⟨a,n,k,rfl⟩:=ca r;have l:cb[j*17+3]? =some (.slice a n k):=by
  have g:(((cb.toList.take ((dy x).length*17)).drop (j*17)).take 17)[3]? =some (.slice a n k):=by rw[K];rfl
  rw[ao,if_pos (by omega),aT,ao]at g
  split at g
  ·rw[←av];exact g
  ·cases g
 exact⟨y.2.2.2.1,a,n,k,ZZ,.inr rfl,J.2.2.2.1,aA h.hb _ _ l,fun u e=>⟨aA (aI e h.hb) _ _ l,aU (aI e h.hb) _⟩,r,fun c i l=>(h.zz c i l).1,fun u v e N=>⟨_,_,_,_,_,_,_,_,_,_,(h.ext' e).z1 p (by omega) (Dy N)⟩⟩
theorem Dz{W:World}{ZZ:aL}{y:bC.den}{v:Value}(q:PR W ZZ ay T8 y.2.2.2.2.1 [v]):∀a,PR W ZZ ay bC y a→PR W ZZ ay bC y (a.set 4 v):=by
 intro a h;obtain⟨r,t,u,u3,E,z,i,j,k,rfl,l,g1,n,o,D,p,c,d,g⟩:=bR.1 h;exact bR.2 ⟨r,t,u,u3,v,z,i,j,k,rfl,l,g1,n,o,q,p,c,d,g⟩
theorem ee.L6(h:ee w Z x B b cap W)(G:OG x){j:Nat}(t:j<(dy x).length):iP w Z x B b cap W b (j*17+4):=by
 obtain⟨ZZ,v6,v7,v8,v10,v11,eP,fo,fy,cb,h⟩:=h;have p:=ah t;obtain⟨y,d⟩:∃y,(dy x)[j]=y:=⟨_,rfl⟩;rw[d]at p;have J:=G.nb y (d▸cf t);have L:=bm.get (k:=17) (fun x D M=>PR.length bC x D M) _ _ h.pb j y p;obtain⟨U,V,X,u3,Y,u5,O,P,Q,K,R,g1,g2,S,r,T,E,H,I⟩:=bR.1 L;obtain⟨a,n,k,rfl⟩:=ca r;have l:cb[j*17+4]? =some (.slice a n k):=by
  have g:(((cb.toList.take ((dy x).length*17)).drop (j*17)).take 17)[4]? =some (.slice a n k):=by rw[K];rfl
  rw[ao,if_pos (by omega),aT,ao]at g
  split at g
  ·rw[←av];exact g
  ·cases g
 exact⟨y.2.2.2.2.1,a,n,k,ZZ,.inr rfl,J.2.2.2.2.1,aA h.hb _ _ l,fun u e=>⟨aA (aI e h.hb) _ _ l,aU (aI e h.hb) _⟩,r,fun c i l=>(h.zz c i l).1,fun u v e N=>⟨_,_,_,_,_,_,_,_,_,_,(h.ext' e).z1 p (by omega) (Dz N)⟩⟩
theorem DA{W:World}{ZZ:aL}{y:bC.den}{v:Value}(q:PR W ZZ ay T8 y.2.2.2.2.2.1 [v]):∀a,PR W ZZ ay bC y a→PR W ZZ ay bC y (a.set 5 v):=by
 intro a h;obtain⟨r,t,u,u3,z,E,i,j,k,rfl,l,g1,n,o,p,D,c,d,g⟩:=bR.1 h;exact bR.2 ⟨r,t,u,u3,z,v,i,j,k,rfl,l,g1,n,o,p,q,c,d,g⟩
theorem ee.L7(h:ee w Z x B b cap W)(G:OG x){j:Nat}(t:j<(dy x).length):iP w Z x B b cap W b (j*17+5):=by
 obtain⟨ZZ,v6,v7,v8,v10,v11,eP,fo,fy,cb,h⟩:=h;have p:=ah t;obtain⟨y,d⟩:∃y,(dy x)[j]=y:=⟨_,rfl⟩;rw[d]at p;have J:=G.nb y (d▸cf t);have L:=bm.get (k:=17) (fun x D M=>PR.length bC x D M) _ _ h.pb j y p;obtain⟨U,V,X,u3,Y,u5,O,P,Q,K,R,g1,g2,S,T,r,E,H,I⟩:=bR.1 L;obtain⟨a,n,k,rfl⟩:=ca r;have l:cb[j*17+5]? =some (.slice a n k):=by
  have g:(((cb.toList.take ((dy x).length*17)).drop (j*17)).take 17)[5]? =some (.slice a n k):=by rw[K];rfl
  rw[ao,if_pos (by omega),aT,ao]at g
  split at g
  ·rw[←av];exact g
  ·cases g
 exact⟨y.2.2.2.2.2.1,a,n,k,ZZ,.inr rfl,J.2.2.2.2.2.1,aA h.hb _ _ l,fun u e=>⟨aA (aI e h.hb) _ _ l,aU (aI e h.hb) _⟩,r,fun c i l=>(h.zz c i l).1,fun u v e N=>⟨_,_,_,_,_,_,_,_,_,_,(h.ext' e).z1 p (by omega) (DA N)⟩⟩
theorem B5{W:World}{ZZ:aL}{y:bC.den}{v:Value}(q:PR W ZZ ay T8 y.2.2.2.2.2.2.2.2.2.2.2.1 [v]):∀a,PR W ZZ ay bC y a→PR W ZZ ay bC y (a.set 11 v):=by
 intro a h;obtain⟨r,t,z,u3,D,E,u,g,i,rfl,j,g1,l,n,o,p,k,c,d⟩:=bR.1 h;exact bR.2 ⟨r,t,z,u3,D,E,v,g,i,rfl,j,g1,l,n,o,p,q,c,d⟩
theorem ee.JV(h:ee w Z x B b cap W)(G:OG x){j:Nat}(t:j<(dy x).length):iP w Z x B b cap W b (j*17+11):=by
 obtain⟨ZZ,v6,v7,v8,v10,v11,eP,fo,fy,cb,h⟩:=h;have r:=ah t;obtain⟨y,g⟩:∃y,(dy x)[j]=y:=⟨_,rfl⟩;rw[g]at r;have I:=G.nb y (g▸cf t);have K:=bm.get (k:=17) (fun x D L=>PR.length bC x D L) _ _ h.pb j y r;obtain⟨U,V,X,u3,Y,u5,N,O,P,J,Q,g1,g2,R,S,T,d,E,H⟩:=bR.1 K;obtain⟨a,n,k,rfl⟩:=ca d;have p:cb[j*17+11]? =some (.slice a n k):=by
  have l:(((cb.toList.take ((dy x).length*17)).drop (j*17)).take 17)[11]? =some (.slice a n k):=by rw[J];rfl
  rw[ao,if_pos (by omega),aT,ao]at l
  split at l
  ·rw[←av];exact l
  ·cases l
 exact⟨y.2.2.2.2.2.2.2.2.2.2.2.1,a,n,k,ZZ,.inr rfl,I.2.2.2.2.2.2.1,aA h.hb _ _ p,fun u e=>⟨aA (aI e h.hb) _ _ p,aU (aI e h.hb) _⟩,d,fun c i p=>(h.zz c i p).1,fun u v e M=>⟨_,_,_,_,_,_,_,_,_,_,(h.ext' e).z1 r (by omega) (B5 M)⟩⟩
theorem B6{W:World}{ZZ:aL}{y:bC.den}{v:Value}(q:PR W ZZ ay T8 y.2.2.2.2.2.2.2.2.2.2.2.2.1 [v]):∀a,PR W ZZ ay bC y a→PR W ZZ ay bC y (a.set 12 v):=by
 intro a h;obtain⟨r,t,z,u3,D,E,g,u,i,rfl,j,g1,l,n,o,p,c,k,d⟩:=bR.1 h;exact bR.2 ⟨r,t,z,u3,D,E,g,v,i,rfl,j,g1,l,n,o,p,c,q,d⟩
theorem ee.JW(h:ee w Z x B b cap W)(G:OG x){j:Nat}(t:j<(dy x).length):iP w Z x B b cap W b (j*17+12):=by
 obtain⟨ZZ,v6,v7,v8,v10,v11,eP,fo,fy,cb,h⟩:=h;have r:=ah t;obtain⟨y,g⟩:∃y,(dy x)[j]=y:=⟨_,rfl⟩;rw[g]at r;have I:=G.nb y (g▸cf t);have K:=bm.get (k:=17) (fun x D L=>PR.length bC x D L) _ _ h.pb j y r;obtain⟨U,V,X,u3,Y,u5,N,O,P,J,Q,g1,g2,R,S,T,E,d,H⟩:=bR.1 K;obtain⟨a,n,k,rfl⟩:=ca d;have p:cb[j*17+12]? =some (.slice a n k):=by
  have l:(((cb.toList.take ((dy x).length*17)).drop (j*17)).take 17)[12]? =some (.slice a n k):=by rw[J];rfl
  rw[ao,if_pos (by omega),aT,ao]at l
  split at l
  ·rw[←av];exact l
  ·cases l
 exact⟨y.2.2.2.2.2.2.2.2.2.2.2.2.1,a,n,k,ZZ,.inr rfl,I.2.2.2.2.2.2.2.1,aA h.hb _ _ p,fun u e=>⟨aA (aI e h.hb) _ _ p,aU (aI e h.hb) _⟩,d,fun c i p=>(h.zz c i p).1,fun u v e M=>⟨_,_,_,_,_,_,_,_,_,_,(h.ext' e).z1 r (by omega) (B6 M)⟩⟩
theorem B7{W:World}{ZZ:aL}{y:bC.den}{v:Value}(q:PR W ZZ ay T8 y.2.2.2.2.2.2.2.2.2.2.2.2.2.1 [v]):∀a,PR W ZZ ay bC y a→PR W ZZ ay bC y (a.set 13 v):=by
 intro a h;obtain⟨r,t,z,u3,D,E,g,i,u,rfl,j,g1,l,n,o,p,c,d,k⟩:=bR.1 h;exact bR.2 ⟨r,t,z,u3,D,E,g,i,v,rfl,j,g1,l,n,o,p,c,d,q⟩
theorem ee.JX(h:ee w Z x B b cap W)(G:OG x){j:Nat}(t:j<(dy x).length):iP w Z x B b cap W b (j*17+13):=by
 obtain⟨ZZ,v6,v7,v8,v10,v11,eP,fo,fy,cb,h⟩:=h;have r:=ah t;obtain⟨y,g⟩:∃y,(dy x)[j]=y:=⟨_,rfl⟩;rw[g]at r;have I:=G.nb y (g▸cf t);have K:=bm.get (k:=17) (fun x D L=>PR.length bC x D L) _ _ h.pb j y r;obtain⟨U,V,X,u3,Y,u5,N,O,P,J,Q,g1,g2,R,S,T,E,H,d⟩:=bR.1 K;obtain⟨a,n,k,rfl⟩:=ca d;have p:cb[j*17+13]? =some (.slice a n k):=by
  have l:(((cb.toList.take ((dy x).length*17)).drop (j*17)).take 17)[13]? =some (.slice a n k):=by rw[J];rfl
  rw[ao,if_pos (by omega),aT,ao]at l
  split at l
  ·rw[←av];exact l
  ·cases l
 exact⟨y.2.2.2.2.2.2.2.2.2.2.2.2.2.1,a,n,k,ZZ,.inr rfl,I.2.2.2.2.2.2.2.2,aA h.hb _ _ p,fun u e=>⟨aA (aI e h.hb) _ _ p,aU (aI e h.hb) _⟩,d,fun c i p=>(h.zz c i p).1,fun u v e M=>⟨_,_,_,_,_,_,_,_,_,_,(h.ext' e).z1 r (by omega) (B7 M)⟩⟩
theorem ee.ptr(h:ee w Z x B b cap W)(G:OG x){u:Value}(d:u∈wi B b (dy x).length):∃pb g,u= .pointer (some ⟨pb,g,none⟩)∧iP w Z x B b cap W pb g:=by
 unfold wi at d;rcases List.mem_append.1 d with d |d
 ·simp only[PB,List.mem_cons,List.not_mem_nil,or_false]at d;rcases d with rfl |rfl |rfl |rfl |rfl |rfl
  ·exact⟨_,_,rfl,h.NZ G⟩
  ·exact⟨_,_,rfl,h.LR G⟩
  ·exact⟨_,_,rfl,h.LU G⟩
  ·exact⟨_,_,rfl,h.LV G⟩
  ·exact⟨_,_,rfl,h.LW G⟩
  ·exact⟨_,_,rfl,h.LX G⟩
 ·obtain⟨l,i,d⟩:=List.mem_flatten.1 d;obtain⟨j,a,rfl⟩:=List.mem_map.1 i;have a:=List.mem_range.1 a;simp only[nine,List.mem_cons,List.not_mem_nil,or_false]at d;rcases d with rfl |rfl |rfl |rfl |rfl |rfl |rfl |rfl |rfl
  ·exact⟨_,_,rfl,h.LY G a⟩
  ·exact⟨_,_,rfl,h.LZ G a⟩
  ·exact⟨_,_,rfl,h.L0 G a⟩
  ·exact⟨_,_,rfl,h.L5 G a⟩
  ·exact⟨_,_,rfl,h.L6 G a⟩
  ·exact⟨_,_,rfl,h.L7 G a⟩
  ·exact⟨_,_,rfl,h.JV G a⟩
  ·exact⟨_,_,rfl,h.JW G a⟩
  ·exact⟨_,_,rfl,h.JX G a⟩
theorem ee.more(h:ee w Z x B b cap W){a:World}(e:W.Extends a):ee w Z x B b cap a:=by
 obtain⟨ZZ,v6,v7,v8,v10,v11,eP,fo,fy,cb,h⟩:=h;exact⟨_,_,_,_,_,_,_,_,_,_,h.ext' e⟩
theorem zb{W d:World}(h:Below W.heap.size W d):W.Extends d:=
 ⟨h.os,h.tape,h.output,h.size,fun a c=>az (h.block _ c),fun a c=>World.frozen?_of_block (h.block _ c),h.block⟩
theorem ee.done(h:ee w Z x B b cap W)(g:(dy x).length≤cap):w.Extends W∧∃v6 v7 v8 v10 v11 eP fo fy,W.heap[B]? =some (.cells (si x v6 v7 v8 v10 v11 (.slice (some ⟨b,0,none⟩) (dy x).length cap) eP fo fy).toArray 62 (0,0))∧
  PR W (fun c i=>lm Z w W c i∧c≠B+1) ay dD x (si x v6 v7 v8 v10 v11 (.slice (some ⟨b,0,none⟩) (dy x).length cap) eP fo fy)∧(∃a n k,v6= .slice a n k)∧(∃a n k,v7= .slice a n k)∧(∃a n k,v8= .slice a n k)∧(∃a n k,v10= .slice a n k)∧(∃a n k,v11= .slice a n k)∧(∃a n k,eP= .slice a n k)∧(∃a n k,fo= .slice a n k)∧(∃a n k,fy= .slice a n k):=by
 obtain⟨ZZ,v6,v7,v8,v10,v11,eP,fo,fy,cb,h⟩:=h;have d:bc W W ZZ (fun c i=>lm Z w W c i∧c≠B+1):=fun c i r=>⟨⟨(h.zz c i r).2.2.2.1.imp id fun t=>⟨t,(h.zz c i r).1⟩,(h.zz c i r).2.2.2.2⟩,rfl⟩;have p:=(Array.getElem?_eq_some_iff.1 h.hb).1;refine⟨h.ext,_,_,_,_,_,_,_,_,h.hB,?_,ca h.p6,ca h.p7,ca h.p8,ca h.EN,ca h.EO,ca h.EP,ca h.EQ,ca h.ER⟩;refine B4.2 ⟨v6,v7,v8,v10,v11,_,eP,fo,fy,rfl,ai d h.p6,ai d h.p7,ai d h.p8,ai d h.EN,ai d h.EO,?_,ai d h.EP,ai d h.EQ,ai d h.ER⟩;refine⟨_,cap,cb.toList.take ((dy x).length*17),rfl,g,dA d h.pb,fun _=>⟨b,0,rfl,fun j u l=>⟨?_,.inr ⟨h.lb,p⟩,h.lR.2⟩⟩⟩;rw[bv];refine aA h.hb j u ?_;rw[ao]at l
 split at l
 ·rw[←av];exact l
 ·cases l
theorem oz{c:Nat}{t:TypeId}:∀(vs:List Value) (o:Nat) (W:World) (a:Array Value),W.heap[c]? =some (.cells a t (0,0))→∃cs,(W.setCells c o vs).heap[c]? =some (.cells cs t (0,0))∧cs.size=a.size∧
  (∀j,j<o→cs[j]? =a[j]?)∧(∀j,o≤j→j<o+vs.length→j<a.size→cs[j]? =vs[j -o]?)
 |[],o,W,a,h=>⟨a,h,rfl,fun _ _=>rfl,fun j k g=>by simp at g;omega⟩
 |v::vs,o,W,a,h=>by
  obtain⟨cs,k,g,l,n⟩:=oz vs (o+1) (W.setCell ⟨c,o,none⟩ v) _ (cY h o v);refine⟨cs,k,by simpa using g,fun j r=> ?_,fun j q i d=> ?_⟩
  ·rw[l j (by omega),Array.getElem?_setIfInBounds_ne (by omega)]
  ·by_cases p:j=o
   ·subst p;rw[l j (by omega),Array.getElem?_setIfInBounds_self_of_lt d];simp
   ·rw[n j (by omega) (by simp at i;omega) (by simpa using d)];rw[show j -o=(j -(o+1))+1 by omega];simp
theorem xx{c:Nat}{t:TypeId}{vs:List Value}{W:World}{d:Array Value}(h:W.heap[c]? =some (.cells d t (0,0)))(p:d.size=vs.length):(W.setCells c 0 vs).heap[c]? =some (.cells vs.toArray t (0,0)):=by
 obtain⟨j,k,o,-,l⟩:=oz vs 0 W d h;rw[k];have:j=vs.toArray:=by
  refine Array.ext (by simp;omega) fun i g a=> ?_;have:=l i (Nat.zero_le _) (by simpa using a) (by omega);rw[Nat.sub_zero,ag g]at this;have n:vs[i]? =some vs[i]:=ah (by simpa using a)
  rw[n]at this;simpa using this
 rw[this]
theorem qq{w:World}{c:Nat}(a:w.heap.size≤c):∀(vs:List Value) (o:Nat) (W:World),w.Extends W→w.Extends (W.setCells c o vs)
 |[],_,_,h=>h
 |v::vs,o,W,h=>qq a vs (o+1) _ (gw h a o v)
theorem oA{c:Nat}:∀(vs:List Value) (o:Nat) (W:World),(W.setCells c o vs).heap.size=W.heap.size
 |[],_,_=>rfl
 |v::vs,o,W=>(oA vs (o+1) _).trans (by simp)
theorem mK{c k:Nat}(a:k≠c):∀(vs:List Value) (o:Nat) (W:World),(W.setCells c o vs).heap[k]? =W.heap[k]?
 |[],_,_=>rfl
 |v::vs,o,W=>(mK a vs (o+1) _).trans (cg o v a)
theorem HQ{w W:World}{Z:aL}{x:dD.den}{B:Nat}{g:List Value}(h:w.Extends W)(j:w.heap.size≤B+1)(p:PR W (fun c i=>lm Z w W c i∧c≠B+1) ay dD x g)(vs:List Value):
  w.Extends (W.setCells (B+1) 0 vs)∧PR (W.setCells (B+1) 0 vs) (lm Z w (W.setCells (B+1) 0 vs)) ay dD x g:=by
 refine⟨qq j _ _ _ h,ai (fun c i d=>⟨?_,az (mK d.2 _ _ _)⟩) p⟩;rcases d.1 with a |a
 ·exact .inl a
 ·exact .inr ⟨a.1,by rw[oA];exact a.2⟩
end Tryz
end Go.Proofs
namespace Go.Proofs
open Go.RowKit Go.Shelf Go.Am
attribute [local go_sem] Oper.semAt_some
namespace Tryz
noncomputable def DB:Code:=match Tryz.f89.body with |some (.seq _ (.seq _ c))=>c |_=> .skip
theorem HS:(Tryz.prog.info? 236).map (fun i=>(i.zero,i.size,i.bytes))=some (some (.pointer none),1,8):=by kernel_rfl
set_option maxRecDepth 100000 in
set_option maxHeartbeats 4000000 in
theorem HT(w W:World)(Z q:aL)(x:dD.den)(B:Nat)(x0 v6 v7 v8 v10 v11 eP fo fy t8 t9 t10 t11 t12 t13 t14 t15 t16 t17 t18 t19:Value)(a:Option Addr)(n k:Nat)(us:List Value)(cr:Array Value)(fn:Func)(hfr:fn.results= #[.cell 2 62])
  (G:OG x) (hn:Hid (n=(dy x).length)) (N0:w.Extends W) (J7:∀c i,q c i→c<W.heap.size∧c≠B∧c≠B+1∧(Z c i∨w.heap.size≤c)) (PC:w.heap.size≤B) (hzs:∀c i,Z c i→c<w.heap.size)
  (T:W.heap[B]? =some (.cells (si x v6 v7 v8 v10 v11 (.slice a n k) eP fo fy).toArray 62 (0,0)))
  (H:W.heap[B+1]? =some (.cells cr 62 (0,0))) (KD:cr.size=17)
  (p6:PR W q ay (.sl .str) x.2.1.1 [v6]) (p7:PR W q ay MP x.2.1.2 [v7]) (p8:PR W q ay T8 x.2.2.1 [v8]) (EN:PR W q ay T8 x.2.2.2.2.1 [v10]) (EO:PR W q ay T8 x.2.2.2.2.2.1 [v11])
  (EP:PR W q ay T8 x.2.2.2.2.2.2.2.1 [eP]) (EQ:PR W q ay T8 x.2.2.2.2.2.2.2.2.1 [fo]) (ER:PR W q ay T8 x.2.2.2.2.2.2.2.2.2.1 [fy])
  (Em:bm (PR W q ay bC) (dy x) us)
  (N1:Calls Tryz.prog 145 #[.slice a n k] W fun e E=>∃b cap cur,e= .returned (.slice (some ⟨b,0,none⟩) n cap)∧W.heap.size≤b∧E.heap[b]? =some (.cells cur 26 (0,0))∧cur.toList.take (n*17)=us∧n≤cap∧W.Extends E)
  (N2:∀(E:World) (L:aL) (l:List Int) (a:Option Addr) (n k:Nat),(∀c i,L c i→c<E.heap.size)→PR E L ay T8 l [.slice a n k]→aa l≤1000000000→
   Calls Tryz.prog 146 #[.slice a n k] E fun e K=>∃a n c,e= .returned (.slice a n c)∧E.Extends K∧PR K (qp L E K) ay T8 l [.slice a n c]):
  DB.wpIn Fence.wide 5 Tryz.prog (bodyPost Tryz.prog fn fun e w'=>∃v,e= .returned v∧w.Extends w'∧mf w' (lm Z w w') ay [dD] x v)
   { tmps:= #[x0,.pointer (some ⟨B,0,none⟩),.pointer (some ⟨B+1,0,none⟩),undef,undef,undef,undef,undef,t8,t9,t10,t11,t12,t13,t14,t15,t16,t17,t18,t19,
     undef,undef,undef,undef,undef,undef,undef,undef,undef,undef,undef,undef,undef,undef,undef,undef,undef,undef,undef,undef,undef,undef,undef,undef,undef,undef,undef,undef,undef,undef,
     undef,undef,undef,undef,undef,undef,undef,undef,undef,undef,undef,undef,undef,undef,undef,undef,undef,undef,undef,undef,undef,undef,undef,undef,undef,undef,undef,undef,undef,undef,
     undef,undef,undef,undef,undef,undef,undef,undef,undef],defers:=[] } W:=by
 obtain⟨R,hR⟩:∃R:Ending→World→Prop,(fun e w'=>∃v,e= .returned v∧w.Extends w'∧mf w' (lm Z w w') ay [dD] x v)=R:=⟨_,rfl⟩;have RI:W.cell? ⟨B,12,none⟩=some (.slice a n k):=aA T 12 _ rfl;have PD:1≤n:=by rw[hn.out];exact G.L1
 have hn2:n≤1000000:=by rw[hn.out];exact G.L2
 rw[hR];unfold DB Tryz.f89;dsimp only
 gi_wp2_with (refine⟨trivial,?_⟩;gi_at_call 145;refine(callsIn_wide.2 N1).mono ?_;rintro e W5 ⟨b,cap,cur,rfl,I4,Bk,RJ,RK,h⟩;have RL:W5.cell? ⟨B,12,none⟩=some (.slice a n k):=aA (aI h T) 12 _ rfl;have f12:=aU (aI h T) 12;have RM:((W5.setCell ⟨B,12,none⟩ (.slice (some ⟨b,0,none⟩) n cap)).alloc (.cells #[.pointer (some ⟨B,8,none⟩),.pointer (some ⟨B,10,none⟩),.pointer (some ⟨B,11,none⟩),.pointer (some ⟨B,13,none⟩),.pointer (some ⟨B,14,none⟩),.pointer (some ⟨B,15,none⟩)] 236)).cell? ⟨B,12,none⟩=some (.slice (some ⟨b,0,none⟩) n cap):=aA (za (cY (aI h T) 12 _)) 12 _ rfl)
 obtain⟨W6,r⟩:∃W6,W5.setCell ⟨B,12,none⟩ (.slice (some ⟨b,0,none⟩) n cap)=W6:=⟨_,rfl⟩;have SD:=(Array.getElem?_eq_some_iff.1 T).1;have SE:=(Array.getElem?_eq_some_iff.1 H).1;have hD:W5.heap.size=W6.heap.size:=by rw[←r];simp
 have U:ee w Z x B b cap W6:=by
  have RN:bc W W5 q q:=fun c i D=>⟨D,h.cell _ (J7 c i D).1⟩;have hk2:bc W5 W6 q q:=by rw[←r];exact fV (fun c i D=>(J7 c i D).2.1) 12 _
  have u:bc W W6 q q:=fun c i D=>⟨D,(hk2 c i D).2.trans (RN c i D).2⟩;have SF:=h.size;have SG:W6.heap.size=W5.heap.size:=hD.symm;refine⟨q,v6,v7,v8,v10,v11,eP,fo,fy,cur,?_,fun c i D=> ?_,⟨by omega,by omega⟩,?_,?_,by omega,PC,by omega,ai u p6,ai u p7,ai u p8,ai u EN,ai u EO,ai u EP,ai u EQ,ai u ER,?_⟩
  ·rw[←r];exact gw (N0.trans h) PC _ _
  ·obtain⟨a1,a2,a3,a4⟩:=J7 c i D;exact⟨by omega,a2,by omega,a4,a3⟩
  ·rw[←r,←hn.out];exact cY (aI h T) 12 _
  ·rw[←r,cg _ _ (by omega)];exact Bk
  ·rw[←hn.out,RJ];exact dA u Em
 have L8:W6.heap[B+1]? =some (.cells cr 62 (0,0)):=by rw[←r,cg _ _ (by omega)];exact aI h H
 have RO:W6.cell? ⟨B,12,none⟩=some (.slice (some ⟨b,0,none⟩) n cap):=by rw[←r];exact aA (cY (aI h T) 12 _) 12 _ rfl
 rw[r,hD];clear RM RL f12;have RP:B+1<W6.heap.size:=by rw[←hD];have:=h.size;omega
 have Il:Tryz.prog.follows .mixedOrders=true:=by kernel_rfl
 obtain⟨i0,hi,hz0,hz1,hz2⟩:=info_parts HS
 gi_loopg [3,34] (n) (fun gk s3 RQ wr=>∃i:Nat,RQ= .int .i64 (i:Int)∧i≤n∧n -i=gk∧wr.ownsRow W6.heap.size 236 1 s3 (6+9*i) (wi B b i)∧Below W6.heap.size W6 wr)
 case atStart=>
  exact⟨0,rfl,Nat.zero_le _,rfl,⟨rfl,.inr ⟨W6.heap.size,6,_,rfl,aq _,n3 W6 _,aq _,by unfold maxLen;omega,rfl,rfl⟩⟩,(Below.refl _ _).alloc (aq _) _⟩
 case round=>
  obtain⟨i,rfl,hin,SH,I,p⟩:=hrel;have RI:wr.cell? ⟨B,12,none⟩=some (.slice (some ⟨b,0,none⟩) n cap):=(az (p.block B (by omega))).trans RO
  by_cases hlt:i<n
  ·gi_wp2
   have hsz:=p.size;have z:(wr.drew.alloc (.cells (nine b i).toArray 236)).ownsRow W6.heap.size 236 1 u3 (6+9*i) (wi B b i):=World.ownsRow.alloc (w:=wr.drew) I _;obtain⟨v',w1,J,hown',Y,_⟩:=run_append_own (P:=Tryz.prog) (w:=wr.drew.alloc (.cells (nine b i).toArray 236)) W6.heap.size 237 237 236 i0 (.pointer none) 1 8 Tryz.underlying237 hi hz0 hz1 hz2 rfl (by decide) u3 _ _ z
    ⟨wr.heap.size,0,none⟩ 9 9 (nine b i) rfl (EL (w:=wr.drew) (nine b i)) (by simp[nine,cq]) (by unfold maxLen;omega) (by omega) (by rw[heap_alloc,Array.size_push];show _≤wr.heap.size+1;omega)
   have V:Below W6.heap.size W6 w1:=Below.grown (w:=wr.drew.alloc (.cells (nine b i).toArray 236)) (Below.alloc (w:=wr.drew) ⟨p.os,p.tape,p.output,p.size,p.block⟩ hsz _) Y (by rw[heap_alloc,Array.size_push];show _≤wr.heap.size+1;omega) (fun k u=>(z.lt k u).1);simp[go_sem,nine]at J
   gi_region_with_o (fail)
   clear J
   gi_wp2
   gi_roundg (n -(i+1))
   case measure=>omega
   case rel=>
    refine⟨i+1,?_,by omega,rfl,?_,V⟩
    ·rfl
    ·rw[EM];exact hown'
  ·have hin:i=n:=by omega
   subst hin;obtain⟨SI,h0 |⟨g,rc,t,rfl,zG,GX,Im,SJ,SL,RR⟩⟩:=I
   ·omega
   have N3:ee w Z x B b cap wr:=U.more (zb p);have L9:wr.heap[B+1]? =some (.cells cr 62 (0,0)):=(p.block _ RP).trans L8
   gi_wp2
   gi_loopg [77] (6+9*i) (fun gk RS wq=>∃j:Nat,RS= .int .i64 (j:Int)∧j≤6+9*i∧6+9*i -j=gk∧ee w Z x B b cap wq∧wq.heap[g]? =some (.cells t 236 (0,0))∧wq.heap[B+1]? =some (.cells cr 62 (0,0)))
   case atStart=>exact⟨0,rfl,Nat.zero_le _,rfl,N3,GX,L9⟩
   case round=>
    obtain⟨j,rfl,hjn,RT,hO,X,d⟩:=hrel
    by_cases NA:j<6+9*i
    ·have hu:t[j]? =some ((wi B b i).getD j undef):=by
      have h1:(t.toList.take ((6+9*i)*1))[j]? =some ((wi B b i).getD j undef):=by rw[RR,List.getD_eq_getElem?_getD,ah (by omega),Option.getD_some]
      rw[ao,if_pos (by omega)]at h1;rw[←av];exact h1
     have F:(wi B b i).getD j undef∈wi B b (dy x).length:=by
      rw[←hn.out,List.getD_eq_getElem?_getD,ah (by omega),Option.getD_some];exact cf _
     obtain⟨pb,po,PE,l,pa,pn,pk,ZP,PF,Bn,SM,MF,C6,RU,DT⟩:=hO.ptr G F;rw[PE]at hu;have SN:b<W6.heap.size:=by obtain⟨_,_,_,_,_,_,_,_,_,_,hh⟩:=U;exact(Array.getElem?_eq_some_iff.1 hh.hb).1
     have SO:b≠B+1:=by obtain⟨_,_,_,_,_,_,_,_,_,_,hh⟩:=U;exact hh.lR.2
     have N4:g≠pb:=by rcases PF with rfl |rfl<;>omega
     have N5:B+1≠pb:=by rcases PF with rfl |rfl<;>omega
     have q1:wr.cell? ⟨g,j,none⟩=some (.pointer (some ⟨pb,po,none⟩)):=aA X j _ hu;have CU:=N2 wr ZP l pa pn pk RU C6 Bn;clear PE F hu
     gi_wp2_with (refine⟨trivial,?_⟩;gi_at_call 146;refine(callsIn_wide.2 CU).mono ?_;rintro e W9 ⟨a9,n9,k9,rfl,e9,p9⟩;obtain⟨y1,y2⟩:=MF W9 e9)
     gi_roundg (6+9*i -(j+1))
     case measure=>omega
     case rel=>
      refine⟨j+1,?_,by omega,rfl,DT W9 _ e9 p9,?_,?_⟩
      ·rfl
      ·rw[cg _ _ N4];exact aI e9 X
      ·rw[cg _ _ N5];exact aI e9 d
    ·obtain⟨RV,z6,z7,z8,SP,SQ,SS,SU,SV,o,prf,⟨a6,n6,k6,rfl⟩,⟨a7,n7,k7,rfl⟩,⟨a8,n8,k8,rfl⟩,⟨M,LM,N6,rfl⟩,⟨N,LN,N7,rfl⟩,⟨O,LO,N8,rfl⟩,⟨Q,LP,N9,rfl⟩,⟨S,LQ,Oa,rfl⟩⟩:=hO.done (by rw[←hn.out];exact RK);obtain⟨m0,hm0⟩:∃m:Int,Hid (m=x.1.1):=⟨_,rfl⟩;have c0:wr.cell? ⟨B,0,none⟩=some (.int .i64 m0):=by rw[hm0.out];exact aA o 0 _ rfl
     obtain⟨m1,Oc⟩:∃m:Int,Hid (m=x.1.2.1):=⟨_,rfl⟩;have c1:wr.cell? ⟨B,1,none⟩=some (.int .i64 m1):=by rw[Oc.out];exact aA o 1 _ rfl
     obtain⟨m2,hm2⟩:∃m:Int,Hid (m=x.1.2.2.1):=⟨_,rfl⟩;have c2:wr.cell? ⟨B,2,none⟩=some (.int .i64 m2):=by rw[hm2.out];exact aA o 2 _ rfl
     obtain⟨m3,Od⟩:∃m:Int,Hid (m=x.1.2.2.2.1):=⟨_,rfl⟩;have c3:wr.cell? ⟨B,3,none⟩=some (.int .i64 m3):=by rw[Od.out];exact aA o 3 _ rfl
     obtain⟨m4,Oe⟩:∃m:Int,Hid (m=x.1.2.2.2.2.1):=⟨_,rfl⟩;have c4:wr.cell? ⟨B,4,none⟩=some (.int .i64 m4):=by rw[Oe.out];exact aA o 4 _ rfl
     obtain⟨m5,Of⟩:∃m:Int,Hid (m=x.1.2.2.2.2.2):=⟨_,rfl⟩;have c5:wr.cell? ⟨B,5,none⟩=some (.int .i64 m5):=by rw[Of.out];exact aA o 5 _ rfl
     have c6:wr.cell? ⟨B,6,none⟩=some (.slice a6 n6 k6):=aA o 6 _ rfl;have c7:wr.cell? ⟨B,7,none⟩=some (.slice a7 n7 k7):=aA o 7 _ rfl;have c8:wr.cell? ⟨B,8,none⟩=some (.slice a8 n8 k8):=aA o 8 _ rfl;obtain⟨m9,Og⟩:∃m:Int,Hid (m=x.2.2.2.1):=⟨_,rfl⟩;have c9:wr.cell? ⟨B,9,none⟩=some (.int .i64 m9):=by rw[Og.out];exact aA o 9 _ rfl
     have SW:wr.cell? ⟨B,10,none⟩=some (.slice M LM N6):=aA o 10 _ rfl;have SX:wr.cell? ⟨B,11,none⟩=some (.slice N LN N7):=aA o 11 _ rfl;have SY:wr.cell? ⟨B,12,none⟩=some (.slice (some ⟨b,0,none⟩) (dy x).length cap):=aA o 12 _ rfl;have SZ:wr.cell? ⟨B,13,none⟩=some (.slice O LO N8):=aA o 13 _ rfl;have S0:wr.cell? ⟨B,14,none⟩=some (.slice Q LP N9):=aA o 14 _ rfl;have S1:wr.cell? ⟨B,15,none⟩=some (.slice S LQ Oa):=aA o 15 _ rfl;obtain⟨Oh,y⟩:∃m:Int,Hid (m=x.2.2.2.2.2.2.2.2.2.2):=⟨_,rfl⟩;have S2:wr.cell? ⟨B,16,none⟩=some (.int .i64 Oh):=by rw[y.out];exact aA o 16 _ rfl
     obtain⟨d0,y0⟩:∃v,wr.cell? ⟨B+1,0,none⟩=some v:=⟨_,aA d 0 _ (ag (by omega))⟩;obtain⟨d1,y1⟩:∃v,wr.cell? ⟨B+1,1,none⟩=some v:=⟨_,aA d 1 _ (ag (by omega))⟩;obtain⟨d2,y2⟩:∃v,wr.cell? ⟨B+1,2,none⟩=some v:=⟨_,aA d 2 _ (ag (by omega))⟩;obtain⟨d3,y3⟩:∃v,wr.cell? ⟨B+1,3,none⟩=some v:=⟨_,aA d 3 _ (ag (by omega))⟩;obtain⟨d4,y4⟩:∃v,wr.cell? ⟨B+1,4,none⟩=some v:=⟨_,aA d 4 _ (ag (by omega))⟩;obtain⟨d5,y5⟩:∃v,wr.cell? ⟨B+1,5,none⟩=some v:=⟨_,aA d 5 _ (ag (by omega))⟩;obtain⟨d6,y6⟩:∃v,wr.cell? ⟨B+1,6,none⟩=some v:=⟨_,aA d 6 _ (ag (by omega))⟩;obtain⟨d7,y7⟩:∃v,wr.cell? ⟨B+1,7,none⟩=some v:=⟨_,aA d 7 _ (ag (by omega))⟩;obtain⟨d8,y8⟩:∃v,wr.cell? ⟨B+1,8,none⟩=some v:=⟨_,aA d 8 _ (ag (by omega))⟩;obtain⟨d9,y9⟩:∃v,wr.cell? ⟨B+1,9,none⟩=some v:=⟨_,aA d 9 _ (ag (by omega))⟩;obtain⟨d10,S3⟩:∃v,wr.cell? ⟨B+1,10,none⟩=some v:=⟨_,aA d 10 _ (ag (by omega))⟩;obtain⟨d11,S4⟩:∃v,wr.cell? ⟨B+1,11,none⟩=some v:=⟨_,aA d 11 _ (ag (by omega))⟩;obtain⟨d12,S5⟩:∃v,wr.cell? ⟨B+1,12,none⟩=some v:=⟨_,aA d 12 _ (ag (by omega))⟩;obtain⟨d13,S6⟩:∃v,wr.cell? ⟨B+1,13,none⟩=some v:=⟨_,aA d 13 _ (ag (by omega))⟩;obtain⟨d14,S7⟩:∃v,wr.cell? ⟨B+1,14,none⟩=some v:=⟨_,aA d 14 _ (ag (by omega))⟩;obtain⟨d15,S8⟩:∃v,wr.cell? ⟨B+1,15,none⟩=some v:=⟨_,aA d 15 _ (ag (by omega))⟩;obtain⟨d16,S9⟩:∃v,wr.cell? ⟨B+1,16,none⟩=some v:=⟨_,aA d 16 _ (ag (by omega))⟩;have f0:wr.frozen? ⟨B+1,0,none⟩=false:=aU d 0;have f1:wr.frozen? ⟨B+1,1,none⟩=false:=aU d 1;have f2:wr.frozen? ⟨B+1,2,none⟩=false:=aU d 2;have f3:wr.frozen? ⟨B+1,3,none⟩=false:=aU d 3;have f4:wr.frozen? ⟨B+1,4,none⟩=false:=aU d 4;have f5:wr.frozen? ⟨B+1,5,none⟩=false:=aU d 5;have f6:wr.frozen? ⟨B+1,6,none⟩=false:=aU d 6;have f7:wr.frozen? ⟨B+1,7,none⟩=false:=aU d 7;have f8:wr.frozen? ⟨B+1,8,none⟩=false:=aU d 8;have f9:wr.frozen? ⟨B+1,9,none⟩=false:=aU d 9;have f10:wr.frozen? ⟨B+1,10,none⟩=false:=aU d 10;have f11:wr.frozen? ⟨B+1,11,none⟩=false:=aU d 11;have f12:wr.frozen? ⟨B+1,12,none⟩=false:=aU d 12;have f13:wr.frozen? ⟨B+1,13,none⟩=false:=aU d 13;have f14:wr.frozen? ⟨B+1,14,none⟩=false:=aU d 14;have f15:wr.frozen? ⟨B+1,15,none⟩=false:=aU d 15;have f16:wr.frozen? ⟨B+1,16,none⟩=false:=aU d 16;have Oi:Hid _:=d;clear o d X
     gi_wp2
     have Ma:(wr.setCells (B+1) 0 [.int .i64 m0,.int .i64 m1,.int .i64 m2,.int .i64 m3,.int .i64 m4,.int .i64 m5,.slice a6 n6 k6,.slice a7 n7 k7,.slice a8 n8 k8,.int .i64 m9,.slice M LM N6,.slice N LN N7,.slice (some ⟨b,0,none⟩) (dy x).length cap,.slice O LO N8,.slice Q LP N9,.slice S LQ Oa,.int .i64 Oh]).heap[B+1]? =some (.cells _ 62 (0,0)):=xx Oi.out KD
     obtain⟨hx1,PG⟩:=HQ RV (by omega) prf [.int .i64 m0,.int .i64 m1,.int .i64 m2,.int .i64 m3,.int .i64 m4,.int .i64 m5,.slice a6 n6 k6,.slice a7 n7 k7,.slice a8 n8 k8,.int .i64 m9,.slice M LM N6,.slice N LN N7,.slice (some ⟨b,0,none⟩) (dy x).length cap,.slice O LO N8,.slice Q LP N9,.slice S LQ Oa,.int .i64 Oh];refine⟨rfl,_,results_cell_row hfr _ _ (B+1) 62 _ (0,0) _ rfl Ma Tryz.underlying62 rfl (by kernel_rfl),?_⟩;rw[←hR];refine⟨_,rfl,hx1,_,rfl,?_⟩;rw[hm0.out,Oc.out,hm2.out,Od.out,Oe.out,Of.out,Og.out,y.out];rw[hm0.out,Oc.out,hm2.out,Od.out,Oe.out,Of.out,Og.out,y.out]at PG;exact PG
end Tryz
end Go.Proofs
namespace Go.Proofs
open Go.RowKit Go.Shelf Go.Am
attribute [local go_sem] Oper.semAt_some
namespace Tryz
theorem wj{f:FuncId}{τ:Ty}{bt:Nat}(u:gu Tryz.prog f ⟨[.sl τ],τ,fun x=>app bt [] x⟩)(w:bt≤1000)(I:τ.aX=true){l:List τ.den}(B:aa l≤1000000000){W:World}{Z:aL}(F:∀b i,Z b i→b<W.heap.size){v:Value}(E:PR W Z ay (.sl τ) l [v]):
  Calls Tryz.prog f #[v] W fun e d=>∃a n c,e= .returned (.slice a n c)∧W.Extends d∧PR d (fun b i=>Z b i∨(W.heap.size≤b∧b<d.heap.size)) ay (.sl τ) l [.slice a n c]:=by
 have g:app bt [] l=some l:=by
  unfold app;have:aa l*bt≤1000000000*1000:=Nat.mul_le_mul B w;rw[if_pos]
  ·rfl
  ·unfold room;simp;omega
 refine(u.calls W Z ay l l [v] F (fun b i h=>h.elim) ⟨v,rfl,E⟩ g).mono fun e d ⟨p,J,y,j,D,_⟩=> ?_;have o:PR d (fun b i=>Z b i∨(W.heap.size≤b∧b<d.heap.size)) ay (.sl τ) l [p]:=PR.mono (fun b i z=>⟨z.imp id fun h=>⟨h.1,h.2.1⟩,rfl⟩) (bc.refl _ _) _ _ _ D;obtain⟨a,c,H,k,q,r,t⟩:=o;have k:p= .slice a (aa l) c:=by injection k
 subst k;exact⟨a,_,c,y,j,a,c,H,rfl,q,r,t⟩
set_option maxRecDepth 100000 in
set_option maxHeartbeats 4000000 in
theorem B8(w:World)(c0 M N O P Q S T d g h i j k l:Value)(q r:Option Addr)(n6 t x u:Nat)(P6 P7:World→World→Value→Prop)(R:Ending→World→Prop)
  (h6:∀W:World,w.Extends W→Calls Tryz.prog 143 #[.slice q n6 t] W fun e V=>∃a n c,e= .returned (.slice a n c)∧W.Extends V∧P6 W V (.slice a n c))
  (h7:∀W:World,w.Extends W→Calls Tryz.prog 144 #[.slice r x u] W fun e V=>∃a n c,e= .returned (.slice a n c)∧W.Extends V∧P7 W V (.slice a n c))
  (z:∀(D W5 W6:World) (E F:Option Addr) (K I L J:Nat) (x0 t8 t9 t10 t11 t12 t13 t14 t15 t16 t17 t18 t19:Value),w.Extends D→D.heap.size=w.heap.size+2→D.Extends W5→W5.Extends W6→P6 D W5 (.slice E K I)→P7 W5 W6 (.slice F L J)→
   W6.heap[w.heap.size]? =some (.cells #[c0,M,N,O,P,Q,.slice q n6 t,.slice r x u,S,T,d,g,h,i,j,k,l] 62)→W6.heap[w.heap.size+1]? =some (.cells #[.int .i64 0,.int .i64 0,.int .i64 0,.int .i64 0,.int .i64 0,.int .i64 0,.slice none 0 0,.slice none 0 0,.slice none 0 0,.int .i64 0,.slice none 0 0,.slice none 0 0,.slice none 0 0,.slice none 0 0,.slice none 0 0,.slice none 0 0,.int .i64 0] 62)→
   DB.wpIn Fence.wide 5 Tryz.prog (bodyPost Tryz.prog Tryz.f89 R)
    { tmps:= #[x0,.pointer (some ⟨w.heap.size,0,none⟩),.pointer (some ⟨w.heap.size+1,0,none⟩),undef,undef,undef,undef,undef,t8,t9,t10,t11,t12,t13,t14,t15,t16,t17,t18,t19,
     undef,undef,undef,undef,undef,undef,undef,undef,undef,undef,undef,undef,undef,undef,undef,undef,undef,undef,undef,undef,undef,undef,undef,undef,undef,undef,undef,undef,undef,undef,
     undef,undef,undef,undef,undef,undef,undef,undef,undef,undef,undef,undef,undef,undef,undef,undef,undef,undef,undef,undef,undef,undef,undef,undef,undef,undef,undef,undef,undef,undef,
     undef,undef,undef,undef,undef,undef,undef,undef,undef],defers:=[] } ((W6.setCell ⟨w.heap.size,6,none⟩ (.slice E K I)).setCell ⟨w.heap.size,7,none⟩ (.slice F L J))):
  Calls Tryz.prog 89 #[.agg #[c0,M,N,O,P,Q,.slice q n6 t,.slice r x u,S,T,d,g,h,i,j,k,l]] w R:=by
 refine(callsIn_wide (n:=5)).1 ?_;refine callsIn_of_wp Tryz.func89 rfl trivial ?_ rfl;simp only[Tryz.ntmps89,bD,List.length_cons,List.length_nil,Nat.reduceAdd,Nat.reduceSub,Array.replicate_succ,Array.replicate_zero,List.push_toArray,List.append_toArray,bH,bU];have H:Hid _:=z;clear z
 gi_wp2
 obtain⟨B,Y⟩:∃B,w.heap.size=B:=⟨_,rfl⟩;have x1:=((World.Extends.refl w).alloc (.cells #[c0,M,N,O,P,Q,.slice q n6 t,.slice r x u,S,T,d,g,h,i,j,k,l] 62)).alloc (.cells #[.int .i64 0,.int .i64 0,.int .i64 0,.int .i64 0,.int .i64 0,.int .i64 0,.slice none 0 0,.slice none 0 0,.slice none 0 0,.int .i64 0,.slice none 0 0,.slice none 0 0,.slice none 0 0,.slice none 0 0,.slice none 0 0,.slice none 0 0,.int .i64 0] 62);have X:=za (o:=(.cells #[.int .i64 0,.int .i64 0,.int .i64 0,.int .i64 0,.int .i64 0,.int .i64 0,.slice none 0 0,.slice none 0 0,.slice none 0 0,.int .i64 0,.slice none 0 0,.slice none 0 0,.slice none 0 0,.slice none 0 0,.slice none 0 0,.slice none 0 0,.int .i64 0] 62)) (n3 w (.cells #[c0,M,N,O,P,Q,.slice q n6 t,.slice r x u,S,T,d,g,h,i,j,k,l] 62));have b2:=n3 (w.alloc (.cells #[c0,M,N,O,P,Q,.slice q n6 t,.slice r x u,S,T,d,g,h,i,j,k,l] 62)) (.cells #[.int .i64 0,.int .i64 0,.int .i64 0,.int .i64 0,.int .i64 0,.int .i64 0,.slice none 0 0,.slice none 0 0,.slice none 0 0,.int .i64 0,.slice none 0 0,.slice none 0 0,.slice none 0 0,.slice none 0 0,.slice none 0 0,.slice none 0 0,.int .i64 0] 62);have e2:(w.alloc (.cells #[c0,M,N,O,P,Q,.slice q n6 t,.slice r x u,S,T,d,g,h,i,j,k,l] 62)).heap.size=B+1:=by rw[heap_alloc,Array.size_push,Y]
 have e3:((w.alloc (.cells #[c0,M,N,O,P,Q,.slice q n6 t,.slice r x u,S,T,d,g,h,i,j,k,l] 62)).alloc (.cells #[.int .i64 0,.int .i64 0,.int .i64 0,.int .i64 0,.int .i64 0,.int .i64 0,.slice none 0 0,.slice none 0 0,.slice none 0 0,.int .i64 0,.slice none 0 0,.slice none 0 0,.slice none 0 0,.slice none 0 0,.slice none 0 0,.slice none 0 0,.int .i64 0] 62)).heap.size=B+2:=by rw[heap_alloc,Array.size_push,e2]
 rw[e2]at b2;rw[Y]at X;generalize Ta:((w.alloc (.cells #[c0,M,N,O,P,Q,.slice q n6 t,.slice r x u,S,T,d,g,h,i,j,k,l] 62)).alloc (.cells #[.int .i64 0,.int .i64 0,.int .i64 0,.int .i64 0,.int .i64 0,.int .i64 0,.slice none 0 0,.slice none 0 0,.slice none 0 0,.int .i64 0,.slice none 0 0,.slice none 0 0,.slice none 0 0,.slice none 0 0,.slice none 0 0,.slice none 0 0,.int .i64 0] 62))=D at*;simp only[Y];have q6:D.cell? ⟨B,6,none⟩=some (.slice q n6 t):=aA X 6 _ rfl;have q7:D.cell? ⟨B,7,none⟩=some (.slice r x u):=aA X 7 _ rfl;have Il:Tryz.prog.follows .mixedOrders=true:=by kernel_rfl
 gi_region_with_o (first
  |(refine⟨trivial,?_⟩;gi_at_call 143;refine(callsIn_wide.2 (h6 _ ?_)).mono ?_;exact x1.drew;rintro e W5 ⟨E,K,I,rfl,b,RW⟩;have U:=aI (W:=D.drew) b X;have Z:=aI (W:=D.drew) b b2;have r6:W5.cell? ⟨B,6,none⟩=some (.slice q n6 t):=aA U 6 _ rfl;have r7:W5.cell? ⟨B,7,none⟩=some (.slice r x u):=aA U 7 _ rfl)
  |(refine⟨trivial,?_⟩;gi_at_call 144;refine(callsIn_wide.2 (h7 _ ?_)).mono ?_;exact x1.drew.trans b;rintro e W6 ⟨F,L,J,rfl,p,RX⟩;have y:=aI p U;have RY:=aI p Z;have s6:W6.cell? ⟨B,6,none⟩=some (.slice q n6 t):=aA y 6 _ rfl;have s7:W6.cell? ⟨B,7,none⟩=some (.slice r x u):=aA y 7 _ rfl;have f6:=aU y 6;have f7:=aU y 7))
 all_goals (gi_step;gi_step)
 all_goals (have hh:=H.out D.drew W5 W6 E F K I L J;rw[Y]at hh;exact hh _ _ _ _ _ _ _ _ _ _ _ _ _ x1.drew e3 b p RW RX y RY)
end Tryz
end Go.Proofs
namespace Go.Am
open Go Go.Proofs
set_option maxRecDepth 100000
def Oj:jc:=⟨[.sl .str],.str,fun x=>app 16 [] x⟩
theorem HU:gu Tryz.prog 143 Oj:=fa (X:={ tt:=tt,calls:=[],owns:=[],loops:=[],bu:=[],nt:=8,fuel:=0 }) (fn:=Tryz.f143) (e0:=.str) (eT:=.str) mixed ⟨cX,c0,o0,s0,v0⟩ Tryz.func143 (by kernel_rfl) (by kernel_rfl) (by kernel_rfl) (by decide) fun x l h=>by
 have a:gd { tt:=tt,calls:=[],owns:=[],loops:=[],bu:=[],nt:=8,fuel:=0 } Tryz.f143 .str [.v false [.sl .str x .nn]]=(app 16 [] x).bind fun l=>some l:=by kernel_rfl
 refine⟨?_,fun b=> ?_⟩
 ·rw[a,h];rfl
 ·subst b
  cases h
  kernel_rfl
def Ok:jc:=⟨[.sl Y1],Y1,fun x=>app 24 [] x⟩
theorem HV:gu Tryz.prog 144 Ok:=fa (X:={ tt:=tt,calls:=[],owns:=[],loops:=[],bu:=[],nt:=8,fuel:=0 }) (fn:=Tryz.f144) (e0:=Y1) (eT:=Y1) mixed ⟨cX,c0,o0,s0,v0⟩ Tryz.func144 (by kernel_rfl) (by kernel_rfl) (by kernel_rfl) (by decide) fun x l h=>by
 have a:gd { tt:=tt,calls:=[],owns:=[],loops:=[],bu:=[],nt:=8,fuel:=0 } Tryz.f144 Y1 [.v false [.sl Y1 x .nn]]=(app 24 [] x).bind fun l=>some l:=by kernel_rfl
 refine⟨?_,fun b=> ?_⟩
 ·rw[a,h];rfl
 ·subst b
  cases h
  kernel_rfl
end Go.Am
namespace Go.Proofs
open Go.RowKit Go.Shelf Go.Am
namespace Tryz
open Go.RowKit Go.Lib
theorem Gi(b off n c:Nat)(a:List Value)(w:World)(H:a.length=n*17)(N:n≤1000000)(F:∀j u,a[j]? =some u→w.cell? ⟨b,off+j,none⟩=some u)(D:∀u∈a,u.oneCell'=true)(I:1≤n):
  Calls Tryz.prog 145 #[.slice (some ⟨b,off,none⟩) n c] w fun e k=>∃b cap cur,e= .returned (.slice (some ⟨b,0,none⟩) n cap)∧w.heap.size≤b∧k.heap[b]? =some (.cells cur 26 (0,0))∧cur.toList.take (n*17)=a∧n≤cap∧w.Extends k:=by
 have d:=JS
 cases i:Tryz.prog.info? 26 with
 |none=>rw[i]at d;cases d
 |some r=>
  rw[i]at d
  cases l:r.zero with
  |none=>rw[Option.map_some,l]at d;cases d
  |some z=>
   rw[Option.map_some,l]at d;simp only[Option.map_some,Option.some.injEq,Prod.mk.injEq]at d;obtain⟨t,o,x⟩:=d;have K:∀w,(Go.sizeOf 26).run Tryz.prog w= .ok 17 w:=fun w=>by simp[Go.sizeOf,typeInfo,i,o]
   refine(AnyE.slices_Clone Tryz.Gh r z 17 280 i l o x t (by decide) K b off n c a w H (by unfold maxLen;omega) (by omega) F D).mono ?_;rintro e k ⟨O,rfl,h,J,E⟩;obtain⟨g1,⟨p,q⟩|⟨g,cap,cur,rfl,p,q,y,L,M,B⟩⟩:=h
   ·omega
   ·exact⟨g,cap,cur,rfl,p,q,B,y,zb E⟩
theorem JY(g:World)(d:aL)(l:List Int)(a:Option Addr)(n k:Nat)(o:∀c i,d c i→c<g.heap.size)(j:PR g d ay T8 l [.slice a n k])(h:aa l≤1000000000):
 Calls Tryz.prog 146 #[.slice a n k] g fun e b=>∃a n c,e= .returned (.slice a n c)∧g.Extends b∧PR b (qp d g b) ay T8 l [.slice a n c]:=wj (τ:=.int .i8) (bt:=1) D2 (by decide) rfl h o j
theorem B9(w:World)(Z Zp:aL)(x:dD.den)(us:List Value)(q:∀b i,Z b i→b<w.heap.size)(hp:PR w Z Zp dD x us)(G:OG x):
  Calls Tryz.prog 89 #[.agg us.toArray] w fun e w'=>∃v,e= .returned v∧w.Extends w'∧mf w' (lm Z w w') ay [dD] x v:=by
 have hp:=PR.aX (rT:=ay) dD x us rfl hp;obtain⟨v6,v7,v8,O,P,E1,Q,R,S,rfl,h6,h7,h8,Y,h11,h12,RZ,R0,R5⟩:=B4.1 hp;obtain⟨a6,n6,k6,rfl⟩:=ca h6;obtain⟨a7,n7,k7,rfl⟩:=ca h7;obtain⟨H,d,U,y,R6,B,JR⟩:=h12;obtain⟨n,I⟩:∃n,Hid (n=(dy x).length):=⟨_,rfl⟩;have y:E1= .slice H n d:=by rw[I.out];injection y
 subst y;have z:U.length=n*17:=by rw[I.out];exact bm.length (fun x es hh=>PR.length bC x es hh) _ _ B
 have PD:1≤n:=by rw[I.out];exact G.L1
 have hn2:n≤1000000:=by rw[I.out];exact G.L2
 obtain⟨X,N,rfl,r⟩:=JR (by intro h;rw[h]at z;simp at z;omega);have l:∀W:World,w.Extends W→bc w W Z Z:=fun W e c i a=>⟨a,e.cell _ (q c i a)⟩;refine B8 w _ _ _ _ _ _ _ _ _ _ _ _ _ _ _ a6 a7 n6 k6 n7 k7 (fun W t v=>PR t (qp Z W t) ay (.sl .str) x.2.1.1 [v]) (fun W t v=>PR t (qp Z W t) ay MP x.2.1.2 [v]) _
  (fun W e=>(wj (τ:=.str) (bt:=16) HU (by decide) rfl G.n6 (fun c i a=>aK (q c i a) e.size) (ai (l W e) h6)).mono fun e t h=>h)
  (fun W e=>(wj (τ:=Y1) (bt:=24) HV (by decide) rfl G.n7 (fun c i a=>aK (q c i a) e.size) (ai (l W e) h7)).mono fun e t h=>h) ?_
 intro W1 W5 W6 E F L J M K x0 t8 t9 t10 t11 t12 t13 t14 t15 t16 t17 t18 t19 f1 f2 f3 f4 f5 f6 f7 f8;obtain⟨g,k⟩:∃g,(W6.setCell ⟨w.heap.size,6,none⟩ (.slice E L J)).setCell ⟨w.heap.size,7,none⟩ (.slice F M K)=g:=⟨_,rfl⟩;have s7:g.heap.size=W6.heap.size:=by rw[←k];simp
 have s5:=f3.size;have s6:=f4.size;have x6:w.Extends W6:=(f1.trans f3).trans f4;have V:w.Extends g:=by rw[←k];exact gw (gw x6 (aq _) _ _) (aq _) _ _
 let T:aL:=fun c i=>Z c i∨(w.heap.size+2≤c∧c<W6.heap.size)
 have o:∀c,c≠w.heap.size→g.heap[c]? =W6.heap[c]? :=fun c a=>by rw[←k,cg _ _ a,cg _ _ a]
 have D:bc w g Z T:=fun c i a=>⟨.inl a,V.cell _ (q c i a)⟩;have k5:bc W5 g (qp Z W1 W5) T:=fun c i a=>by
  have p:c<W5.heap.size∧c≠w.heap.size:=by
   rcases a with a |a
   ·have:=q c i a;omega
   ·omega
  exact⟨a.imp id fun h=>⟨by omega,by omega⟩,(az (o c p.2)).trans (f4.cell _ p.1)⟩
 have R7:bc W6 g (qp Z W5 W6) T:=fun c i a=>by
  have p:c≠w.heap.size:=by
   rcases a with a |a
   ·have:=q c i a;omega
   ·omega
  exact⟨a.imp id fun h=>⟨by omega,h.2⟩,az (o c p)⟩
 have R8:g.heap[w.heap.size]? =some (.cells (si x (.slice E L J) (.slice F M K) v8 O P (.slice (some ⟨X,N,none⟩) n d) Q R S).toArray 62 (0,0)):=by
  rw[←k];exact cY (cY f7 _ _) _ _
 have R9:=(o (w.heap.size+1) (by omega)).trans f8;rw[k];refine HT w g Z T x w.heap.size x0 _ _ v8 O P Q R S t8 t9 t10 t11 t12 t13 t14 t15 t16 t17 t18 t19 _ n d U _ Tryz.f89 rfl G I V (fun c i a=> ?_) (aq _) q R8 R9 rfl (ai k5 f5) (ai R7 f6) (ai D h8) (ai D Y) (ai D h11) (ai D RZ) (ai D R0) (ai D R5) (dA D B) ?_ JY
 ·have hxs:=V.size;rcases a with a |a
  ·have:=q c i a;exact⟨by omega,by omega,by omega,.inl a⟩
  ·exact⟨by omega,by omega,by omega,.inr (by omega)⟩
 ·exact Gi X N n d U g z hn2 (fun j u hj=>(V.cell _ (q X _ (r j u hj).2)).trans (r j u hj).1) (uV (dy x) U B) PD
theorem z2:aw Tryz.prog 89 ⟨[dD],[dD],zT⟩:=by
 refine⟨⟨f89,func89,by kernel_rfl,by kernel_rfl⟩,rfl,fun w Z g x r c L M I e=> ?_⟩;obtain⟨v,rfl,N,rfl,J⟩:=I;have e:zT x=some r:=e;unfold zT at e;rcases ja e with⟨d,e⟩|⟨_,e⟩
 ·cases e;simp only[ae,decide_eq_true_eq,iO,bg]at d;obtain⟨⟨⟨⟨⟨⟨⟨⟨⟨⟨g1,t⟩,u⟩,z⟩,B⟩,D⟩,E⟩,F⟩,H⟩,a⟩,b⟩:=d;refine B9 w Z g x N L J ⟨g1,t,u,z,B,F,H,a,D,E,fun y K=> ?_⟩;obtain⟨⟨⟨⟨⟨⟨⟨⟨h,i⟩,j⟩,k⟩,l⟩,n⟩,o⟩,p⟩,q⟩:=b y K;exact⟨h,i,j,k,l,n,o,p,q⟩
 ·cases e
end Tryz
end Go.Proofs
namespace Go.Proofs
open Go.RowKit Go.Shelf Go.Am
namespace Tryz
theorem xy:be Tryz.prog 230 ⟨[.gs 2,.data (.int .i64),.data (.sl (.int .i64))],[.gs 2],[(2,.bf (.data (.int .i64)))],[],DY⟩:=
 ⟨⟨f230,func230,by kernel_rfl,by kernel_rfl⟩,by decide,fun n c d g x l k r b a h i j e=>by cases e⟩
end Tryz
end Go.Proofs
