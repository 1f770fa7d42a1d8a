import Derived.Shelf.SlicesE.Clone
import Derived.Test.YtpdgokkbljiccaaGreatT
import Derived.Sort.LoopGhostIn
import Derived.Test.YtpdgokkbljiccaaGreatGT
import Derived.RegionIn
import Derived.Shelf.RegionOpen
set_option linter.unusedVariables false
set_option linter.unusedSimpArgs false
open Array renaming getElem?_eq_getElem→ak,getElem?_toList→aD
open Bool renaming and_eq_true→ah
open List renaming all_eq_true→bR,append_assoc→bI,cons_append→cK,getD_eq_getElem?_getD→bd,getElem?_drop→bA,getElem?_eq_getElem→ai,getElem?_take→ax,getElem_mem→ap,length_cons→ca,length_nil→cH,length→ac,map_append→acl,nil_append→ct,range→abY,size_toArray→cu
open Nat renaming add_assoc→cX,add_mul→bw,le_refl→av,lt_of_lt_of_le→bi,mul_le_mul→aT,zero_add→b9
open Go.Value renaming oneCell'→dp
open Go.World renaming cell?_of_block→aL
set_option linter.unusedVariables false
namespace Go.Proofs
namespace Tryz
open Go.Shelf
def aaH:Go.Shelf.Ren:=⟨fun |41=>145 |n=>n,fun |22=>60 |23=>26 |4=>4 |n=>n,fun |n=>n⟩
theorem Z6:Go.Proofs.SlLaysE0.n41 Tryz.prog Tryz.aaH:={ mixed:=by kernel_rfl,f41:=⟨Tryz.f145.name,by decide,Tryz.func145.trans (congrArg some (by kernel_rfl))⟩,t4:=Tryz.underlying4,a4:=Tryz.isAgg4,z4:=Tryz.sizeOf4,v4:=Tryz.zeroValue4,t22:=Tryz.underlying60,a22:=Tryz.isAgg60,z22:=Tryz.sizeOf60,v22:=Tryz.zeroValue60 }
open Go.RowKit Go.Lib
theorem adY:(Tryz.prog.info? 26).map (fun i=>(i.zero.map fun z=>z.cells.size,i.size,i.bytes))=some (some 17,17,280):=by kernel_rfl
end Tryz
end Go.Proofs
namespace Go.Proofs
open Go.RowKit Go.Shelf Go.Am
namespace Tryz
abbrev adZ:Ty:=.pair (.int .i64) (.pair (.int .i64) (.pair (.int .i64) (.pair (.int .i64) (.pair (.int .i64) (.int .i64)))))
abbrev ad0:Ty:=.pair (.sl .str) (.sl (.pair (.int .i64) (.pair (.int .i64) (.int .i64))))
abbrev T8:Ty:=.sl (.int .i8)
abbrev T64:Ty:=.int .i64
abbrev cq:Ty:=.pair T8 (.pair T8 (.pair T8 (.pair T8 (.pair T8 (.pair T8 (.pair T64 (.pair T64 (.pair T64 (.pair T64 (.pair T64 (.pair T8 (.pair T8 (.pair T8 (.pair T64 (.pair T64 T64)))))))))))))))
abbrev gJ:Ty:=.pair adZ (.pair ad0 (.pair T8 (.pair T64 (.pair T8 (.pair T8 (.pair (.sl cq) (.pair T8 (.pair T8 (.pair T8 T64)))))))))
abbrev MP:Ty:=.sl (.pair (.int .i64) (.pair (.int .i64) (.int .i64)))
theorem acB{w:World}{Z Zp:bj}{e:Ty}{x:List e.den}{a:List Value}:PR w Z Zp (.sl e) x a↔∃v,a=[v]∧PR w Z Zp (.sl e) x [v]:=by
 constructor
 ·intro h;obtain⟨b,c,d,g,i⟩:=h;exact⟨_,g,b,c,d,rfl,i⟩
 ·rintro⟨v,rfl,h⟩;exact h
theorem L7{w:World}{Z Zp:bj}{a b:Ty}{x:a.den×b.den}{c:List Value}:PR w Z Zp (.pair a b) x c↔∃u r,c=u++r∧PR w Z Zp a x.1 u∧PR w Z Zp b x.2 r:=Iff.rfl
theorem V0{w:World}{Z Zp:bj}{k:IntKind}{x:Int}{a:List Value}:PR w Z Zp (.int k) x a↔a=[.int k x]:=Iff.rfl
theorem cE{w:World}{Z Zp:bj}{e b:Ty}{x:List e.den×b.den}{d:List Value}:PR w Z Zp (.pair (.sl e) b) x d↔∃v r,d=v::r∧PR w Z Zp (.sl e) x.1 [v]∧PR w Z Zp b x.2 r:=by
 constructor
 ·rintro⟨u,r,rfl,a,c⟩;obtain⟨v,rfl,a⟩:=acB.1 a;exact⟨v,r,rfl,a,c⟩
 ·rintro⟨v,r,rfl,a,c⟩;exact⟨[v],r,rfl,a,c⟩
theorem cP{w:World}{Z Zp:bj}{k:IntKind}{b:Ty}{x:Int×b.den}{d:List Value}:PR w Z Zp (.pair (.int k) b) x d↔∃r,d= .int k x.1::r∧PR w Z Zp b x.2 r:=by
 constructor
 ·rintro⟨u,r,rfl,a,c⟩;have a:u=[.int k x.1]:=a;subst a;exact⟨r,rfl,c⟩
 ·rintro⟨r,rfl,c⟩;exact⟨[_],r,rfl,rfl,c⟩
theorem cJ{w:World}{Z Zp:bj}{x:cq.den}{us:List Value}:PR w Z Zp cq x us↔∃v0 i j k v4 l v11 a kw,
  us=[v0,i,j,k,v4,l,.int .i64 x.2.2.2.2.2.2.1,.int .i64 x.2.2.2.2.2.2.2.1,.int .i64 x.2.2.2.2.2.2.2.2.1,.int .i64 x.2.2.2.2.2.2.2.2.2.1,.int .i64 x.2.2.2.2.2.2.2.2.2.2.1,v11,a,kw,
   .int .i64 x.2.2.2.2.2.2.2.2.2.2.2.2.2.2.1,.int .i64 x.2.2.2.2.2.2.2.2.2.2.2.2.2.2.2.1,.int .i64 x.2.2.2.2.2.2.2.2.2.2.2.2.2.2.2.2]∧
  PR w Z Zp T8 x.1 [v0]∧PR w Z Zp T8 x.2.1 [i]∧PR w Z Zp T8 x.2.2.1 [j]∧PR w Z Zp T8 x.2.2.2.1 [k]∧PR w Z Zp T8 x.2.2.2.2.1 [v4]∧PR w Z Zp T8 x.2.2.2.2.2.1 [l]∧
  PR w Z Zp T8 x.2.2.2.2.2.2.2.2.2.2.2.1 [v11]∧PR w Z Zp T8 x.2.2.2.2.2.2.2.2.2.2.2.2.1 [a]∧PR w Z Zp T8 x.2.2.2.2.2.2.2.2.2.2.2.2.2.1 [kw]:=by
 constructor
 ·intro h;obtain⟨v0,r_1,e1,K,Q⟩:=cE.1 h;obtain⟨i,r_2,e2,L,R⟩:=cE.1 Q;obtain⟨j,r_3,e3,M,S⟩:=cE.1 R;obtain⟨k,r_4,e4,N,T⟩:=cE.1 S;obtain⟨v4,r_5,e5,O,U⟩:=cE.1 T;obtain⟨l,r_6,e6,P,V⟩:=cE.1 U;obtain⟨r_7,e7,X⟩:=cP.1 V;obtain⟨r_8,e8,Y⟩:=cP.1 X;obtain⟨r_9,e9,h_9⟩:=cP.1 Y;obtain⟨alV,y,n⟩:=cP.1 h_9;obtain⟨aif,z,o⟩:=cP.1 n;obtain⟨v11,aig,D,c,p⟩:=cE.1 o;obtain⟨a,aih,E,d,q⟩:=cE.1 p;obtain⟨kw,aii,F,g,r⟩:=cE.1 q;obtain⟨aij,H,t⟩:=cP.1 r;obtain⟨aik,I,u⟩:=cP.1 t;have J:=V0.1 u;subst J;subst I;subst H;subst F;subst E;subst D;subst z;subst y;subst e9;subst e8;subst e7;subst e6;subst e5;subst e4;subst e3;subst e2;subst e1;exact⟨v0,i,j,k,v4,l,v11,a,kw,rfl,K,L,M,N,O,P,c,d,g⟩
 ·rintro⟨v0,i,j,k,v4,l,v11,a,kw,rfl,K,L,M,N,O,P,c,d,g⟩;exact cE.2 ⟨v0,_,rfl,K,cE.2 ⟨i,_,rfl,L,cE.2 ⟨j,_,rfl,M,cE.2 ⟨k,_,rfl,N,cE.2 ⟨v4,_,rfl,O,cE.2 ⟨l,_,rfl,P,
   cP.2 ⟨_,rfl,cP.2 ⟨_,rfl,cP.2 ⟨_,rfl,cP.2 ⟨_,rfl,cP.2 ⟨_,rfl,cE.2 ⟨v11,_,rfl,c,cE.2 ⟨a,_,rfl,d,cE.2 ⟨kw,_,rfl,g,cP.2 ⟨_,rfl,cP.2 ⟨_,rfl,rfl⟩⟩⟩⟩⟩⟩⟩⟩⟩⟩⟩⟩⟩⟩⟩⟩
def HH(x:gJ.den)(v6 v7 v8 v10 v11 a kw mc md:Value):List Value:=
 [.int .i64 x.1.1,.int .i64 x.1.2.1,.int .i64 x.1.2.2.1,.int .i64 x.1.2.2.2.1,.int .i64 x.1.2.2.2.2.1,.int .i64 x.1.2.2.2.2.2,v6,v7,v8,.int .i64 x.2.2.2.1,v10,v11,a,kw,mc,md,.int .i64 x.2.2.2.2.2.2.2.2.2.2]
theorem T7{w:World}{Z Zp:bj}{x:gJ.den}{us:List Value}:PR w Z Zp gJ x us↔∃v6 v7 v8 v10 v11 a kw mc md,
  us=HH x v6 v7 v8 v10 v11 a kw mc md∧PR w Z Zp (.sl .str) x.2.1.1 [v6]∧PR w Z Zp MP x.2.1.2 [v7]∧PR w Z Zp T8 x.2.2.1 [v8]∧PR w Z Zp T8 x.2.2.2.2.1 [v10]∧PR w Z Zp T8 x.2.2.2.2.2.1 [v11]∧
  PR w Z Zp (.sl cq) x.2.2.2.2.2.2.1 [a]∧PR w Z Zp T8 x.2.2.2.2.2.2.2.1 [kw]∧PR w Z Zp T8 x.2.2.2.2.2.2.2.2.1 [mc]∧PR w Z Zp T8 x.2.2.2.2.2.2.2.2.2.1 [md]:=by
 constructor
 ·intro h;obtain⟨u_1,r_1,e1,y,Y⟩:=L7.1 h;obtain⟨alW,e2,z⟩:=cP.1 y;obtain⟨alX,e3,D⟩:=cP.1 z;obtain⟨alY,e4,E⟩:=cP.1 D;obtain⟨alZ,e5,F⟩:=cP.1 E;obtain⟨al0,e6,H⟩:=cP.1 F;have e7:=V0.1 H;obtain⟨u_8,r_8,e8,I,h_8⟩:=L7.1 Y;obtain⟨v6,al1,e9,T,U⟩:=cE.1 I;obtain⟨v7,J,V⟩:=acB.1 U;obtain⟨v8,aif,K,X,l⟩:=cE.1 h_8;obtain⟨aig,L,n⟩:=cP.1 l;obtain⟨v10,aih,M,c,o⟩:=cE.1 n;obtain⟨v11,aii,N,d,p⟩:=cE.1 o;obtain⟨a,aij,O,g,q⟩:=cE.1 p;obtain⟨kw,aik,P,i,r⟩:=cE.1 q;obtain⟨mc,al2,Q,j,t⟩:=cE.1 r;obtain⟨md,al3,R,k,u⟩:=cE.1 t;have S:=V0.1 u;subst S;subst R;subst Q;subst P;subst O;subst N;subst M;subst L;subst K;subst J;subst e9;subst e8;subst e7;subst e6;subst e5;subst e4;subst e3;subst e2;subst e1;exact⟨v6,v7,v8,v10,v11,a,kw,mc,md,rfl,T,V,X,c,d,g,i,j,k⟩
 ·rintro⟨v6,v7,v8,v10,v11,a,kw,mc,md,rfl,T,U,X,c,d,g,i,j,k⟩;refine L7.2 ⟨[.int .i64 x.1.1,.int .i64 x.1.2.1,.int .i64 x.1.2.2.1,.int .i64 x.1.2.2.2.1,.int .i64 x.1.2.2.2.2.1,.int .i64 x.1.2.2.2.2.2],[v6,v7,v8,.int .i64 x.2.2.2.1,v10,v11,a,kw,mc,md,.int .i64 x.2.2.2.2.2.2.2.2.2.2],rfl,?_,?_⟩
  ·exact cP.2 ⟨_,rfl,cP.2 ⟨_,rfl,cP.2 ⟨_,rfl,cP.2 ⟨_,rfl,cP.2 ⟨_,rfl,rfl⟩⟩⟩⟩⟩
  ·exact L7.2 ⟨[v6,v7],[v8,.int .i64 x.2.2.2.1,v10,v11,a,kw,mc,md,.int .i64 x.2.2.2.2.2.2.2.2.2.2],rfl,cE.2 ⟨v6,_,rfl,T,U⟩,cE.2 ⟨v8,_,rfl,X,cP.2 ⟨_,rfl,cE.2 ⟨v10,_,rfl,c,cE.2 ⟨v11,_,rfl,d,
    cE.2 ⟨a,_,rfl,g,cE.2 ⟨kw,_,rfl,i,cE.2 ⟨mc,_,rfl,j,cE.2 ⟨md,_,rfl,k,rfl⟩⟩⟩⟩⟩⟩⟩⟩⟩
theorem bY.setCell{α:Type}{R:α→List Value→Prop}{k:Nat}(H:∀x es,R x es→es.length=k):∀(l:List α) (us:List Value) (j:Nat) (x:α) (q:Nat) (v:Value),bY R l us→l[j]? =some x→q<k→
  (∀es,R x es→es=(us.drop (j*k)).take k→R x (es.set q v))→bY R l (us.set (j*k+q) v)
 |[],_,j,x,q,v,_,i,_,_=>by simp at i
 |y::l,_,0,x,q,v,⟨es,a,e,p,E⟩,i,K,hr=>by
  simp at i;subst i;subst e;have I:=H _ _ p;have:=hr es p (by simp[←I]);refine⟨es.set q v,a,?_,this,E⟩;rw[Nat.zero_mul,b9,List.set_append_left _ _ (by omega)]
 |y::l,_,j+1,x,q,v,⟨es,a,e,p,E⟩,i,K,hr=>by
  subst e;have I:=H _ _ p;have J:(j+1)*k=es.length+j*k:=by rw[I,bw];omega
  have:=bY.setCell H l a j x q v E (by simpa using i) K fun D L M=>hr D L (by rw[J,←List.drop_drop,List.drop_left];exact M);refine⟨es,a.set (j*k+q) v,?_,p,this⟩;rw[J,cX,List.set_append_right _ _ (by omega),Nat.add_sub_cancel_left]
theorem heap_alloc(w:World)(o:Obj):(w.alloc o).heap=w.heap.push o:=rfl
theorem BN(w:World)(o:Obj):(w.alloc o).heap[w.heap.size]? =some o:=by rw[heap_alloc];simp
theorem QF{w:World}{o p:Obj}{b:Nat}(h:w.heap[b]? =some p):(w.alloc o).heap[b]? =some p:=by
 have a:=(Array.getElem?_eq_some_iff.1 h).1;rw[heap_alloc,Array.getElem?_push,if_neg (by omega),h]
theorem aZ{W a:World}(h:W.Extends a){b:Nat}{o:Obj}(c:W.heap[b]? =some o):a.heap[b]? =some o:=
 (h.block b (Array.getElem?_eq_some_iff.1 c).1).trans c
theorem aM{W:World}{b:Nat}{cur:Array Value}{t:TypeId}(a:W.heap[b]? =some (.cells cur t (0,0)))(i:Nat)(v:Value)(c:cur[i]? =some v):W.cell? ⟨b,i,none⟩=some v:=by simp[World.cell?,a,c]
theorem bC{W:World}{b:Nat}{cur:Array Value}{t:TypeId}(a:W.heap[b]? =some (.cells cur t (0,0)))(i:Nat):W.frozen? ⟨b,i,none⟩=false:=by simp[World.frozen?,a]
theorem eN{W:World}{b:Nat}{cur:Array Value}{t:TypeId}(a:W.heap[b]? =some (.cells cur t (0,0)))(i:Nat)(v:Value):(W.setCell ⟨b,i,none⟩ v).heap[b]? =some (.cells (cur.setIfInBounds i v) t (0,0)):=by
 simp only[World.setCell,Array.getElem?_modify,if_pos,a,Option.map_some];rfl
theorem cY{W:World}{b c:Nat}(i:Nat)(v:Value)(h:c≠b):(W.setCell ⟨b,i,none⟩ v).heap[c]? =W.heap[c]? :=by
 simp only[World.setCell,Array.getElem?_modify,if_neg (Ne.symm h)]
theorem X6{w:World}{t:TypeId}(l:List Value):∀j u,l[j]? =some u→(w.alloc (.cells l.toArray t)).cell? ((⟨w.heap.size,0,none⟩:Addr).add j)=some u:=fun j u a=>by
 rw[Addr.add_lit];exact aM (BN w _) _ _ (by simpa using a)
def six(B:Nat):List Value:=[.pointer (some ⟨B,8,none⟩),.pointer (some ⟨B,10,none⟩),.pointer (some ⟨B,11,none⟩),.pointer (some ⟨B,13,none⟩),.pointer (some ⟨B,14,none⟩),.pointer (some ⟨B,15,none⟩)]
def nine(b j:Nat):List Value:=[.pointer (some ⟨b,j*17,none⟩),.pointer (some ⟨b,j*17+1,none⟩),.pointer (some ⟨b,j*17+2,none⟩),.pointer (some ⟨b,j*17+3,none⟩),.pointer (some ⟨b,j*17+4,none⟩),.pointer (some ⟨b,j*17+5,none⟩),
 .pointer (some ⟨b,j*17+11,none⟩),.pointer (some ⟨b,j*17+12,none⟩),.pointer (some ⟨b,j*17+13,none⟩)]
def Nc(B b i:Nat):List Value:=six B++((abY i).map (nine b)).flatten
theorem X7(B b i:Nat):Nc B b (i+1)=Nc B b i++nine b i:=by
 unfold Nc;rw[List.range_succ,acl,List.flatten_append,bI];simp
abbrev gc(x:gJ.den):List cq.den:=x.2.2.2.2.2.2.1
structure OI (w:World) (Z:bj) (x:gJ.den) (B b cap:Nat) (ZZ:bj) (v6 v7 v8 v10 v11 kw mc md:Value) (cb:Array Value) (W:World):Prop where
 ext:w.Extends W
 zz:∀c i,ZZ c i→c<W.heap.size∧c≠B∧c≠b∧(Z c i∨w.heap.size≤c)∧c≠B+1
 lR:B+1<W.heap.size∧b≠B+1
 hB:W.heap[B]? =some (.cells (HH x v6 v7 v8 v10 v11 (.slice (some ⟨b,0,none⟩) (gc x).length cap) kw mc md).toArray 62 (0,0))
 hb:W.heap[b]? =some (.cells cb 26 (0,0))
 ne:B≠b
 lB:w.heap.size≤B
 lb:w.heap.size≤b
 p6:PR W ZZ aI (.sl .str) x.2.1.1 [v6]
 p7:PR W ZZ aI MP x.2.1.2 [v7]
 p8:PR W ZZ aI T8 x.2.2.1 [v8]
 X8:PR W ZZ aI T8 x.2.2.2.2.1 [v10]
 X9:PR W ZZ aI T8 x.2.2.2.2.2.1 [v11]
 Ya:PR W ZZ aI T8 x.2.2.2.2.2.2.2.1 [kw]
 Yb:PR W ZZ aI T8 x.2.2.2.2.2.2.2.2.1 [mc]
 Yc:PR W ZZ aI T8 x.2.2.2.2.2.2.2.2.2.1 [md]
 pb:bY (PR W ZZ aI cq) (gc x) (cb.toList.take ((gc x).length*17))
def iF(w:World)(Z:bj)(x:gJ.den)(B b cap:Nat)(W:World):Prop:=∃(ZZ:bj) (v6 v7 v8 v10 v11 kw mc md:Value) (cb:Array Value),OI w Z x B b cap ZZ v6 v7 v8 v10 v11 kw mc md cb W
variable {w W:World} {Z ZZ:bj} {x:gJ.den} {B b cap:Nat} {v6 v7 v8 v10 v11 kw mc md:Value} {cb:Array Value}
theorem au{W a:World}{Z c:bj}(h:bQ W a Z c){τ:Ty}{x:τ.den}{d:List Value}(p:PR W Z aI τ x d):PR a c aI τ x d:=PR.mono h (fun _ _ g=>g.elim) _ _ _ p
theorem gv{W a:World}{Z c:bj}(h:bQ W a Z c){τ:Ty}{l:List τ.den}{d:List Value}(p:bY (PR W Z aI τ) l d):bY (PR a c aI τ) l d:=bY.mono (fun x g q=>au h q) _ _ p
abbrev E4(ZZ:bj)(W a:World):bj:=fun c i=>ZZ c i∨(W.heap.size≤c∧c<a.heap.size)
theorem OI.ext'(h:OI w Z x B b cap ZZ v6 v7 v8 v10 v11 kw mc md cb W){p:World}(e:W.Extends p):OI w Z x B b cap (E4 ZZ W p) v6 v7 v8 v10 v11 kw mc md cb p:=by
 have a:bQ W p ZZ (E4 ZZ W p):=fun c i j=>⟨.inl j,e.cell _ (h.zz c i j).1⟩;have I:=(Array.getElem?_eq_some_iff.1 h.hB).1;have K:=(Array.getElem?_eq_some_iff.1 h.hb).1;have J:=h.lR;refine⟨h.ext.trans e,fun c i j=> ?_,⟨by have:=e.size;omega,J.2⟩,aZ e h.hB,aZ e h.hb,h.ne,h.lB,h.lb,au a h.p6,au a h.p7,au a h.p8,au a h.X8,au a h.X9,au a h.Ya,au a h.Yb,au a h.Yc,gv a h.pb⟩;rcases j with j |⟨L,H⟩
 ·obtain⟨a1,y,D,E⟩:=h.zz c i j;exact⟨bi a1 e.size,y,D,E⟩
 ·have:=h.ext.size;exact⟨H,by omega,by omega,.inr (by omega),by omega⟩
theorem mu{w W:World}(h:w.Extends W){c:Nat}(l:w.heap.size≤c)(i:Nat)(v:Value):w.Extends (W.setCell ⟨c,i,none⟩ v):=by
 have d:∀g:Nat,g<w.heap.size→(W.setCell ⟨c,i,none⟩ v).heap[g]? =w.heap[g]? :=fun g k=>(cY i v (by omega)).trans (h.block g k)
 exact⟨h.os,h.tape,h.output,by simpa using h.size,fun a j=>aL (d a.block j),fun a j=>World.frozen?_of_block (d a.block j),d⟩
theorem lY{W:World}{ZZ:bj}{c:Nat}(g:∀a i,ZZ a i→a≠c)(i:Nat)(v:Value):bQ W (W.setCell ⟨c,i,none⟩ v) ZZ ZZ:=fun a h d=>⟨d,aL (cY i v (g a h d))⟩
theorem OI.ail(h:OI w Z x B b cap ZZ v6 v7 v8 v10 v11 kw mc md cb W){v:Value}(p:PR W ZZ aI T8 x.2.2.1 [v]):OI w Z x B b cap ZZ v6 v7 v v10 v11 kw mc md cb (W.setCell ⟨B,8,none⟩ v):=by
 have a:=lY (W:=W) (fun c i j=>(h.zz c i j).2.1) 8 v;exact⟨mu h.ext h.lB _ _,fun c i j=>by rw[show(W.setCell ⟨B,8,none⟩ v).heap.size=W.heap.size by simp];exact h.zz c i j,by simpa using h.lR,eN h.hB _ _,(cY _ _ h.ne.symm).trans h.hb,h.ne,h.lB,h.lb,
  au a h.p6,au a h.p7,au a p,au a h.X8,au a h.X9,au a h.Ya,au a h.Yb,au a h.Yc,gv a h.pb⟩
theorem OI.afV(h:OI w Z x B b cap ZZ v6 v7 v8 v10 v11 kw mc md cb W){v:Value}(p:PR W ZZ aI T8 x.2.2.2.2.1 [v]):OI w Z x B b cap ZZ v6 v7 v8 v v11 kw mc md cb (W.setCell ⟨B,10,none⟩ v):=by
 have a:=lY (W:=W) (fun c i j=>(h.zz c i j).2.1) 10 v;exact⟨mu h.ext h.lB _ _,fun c i j=>by rw[show(W.setCell ⟨B,10,none⟩ v).heap.size=W.heap.size by simp];exact h.zz c i j,by simpa using h.lR,eN h.hB _ _,(cY _ _ h.ne.symm).trans h.hb,h.ne,h.lB,h.lb,
  au a h.p6,au a h.p7,au a h.p8,au a p,au a h.X9,au a h.Ya,au a h.Yb,au a h.Yc,gv a h.pb⟩
theorem OI.afW(h:OI w Z x B b cap ZZ v6 v7 v8 v10 v11 kw mc md cb W){v:Value}(p:PR W ZZ aI T8 x.2.2.2.2.2.1 [v]):OI w Z x B b cap ZZ v6 v7 v8 v10 v kw mc md cb (W.setCell ⟨B,11,none⟩ v):=by
 have a:=lY (W:=W) (fun c i j=>(h.zz c i j).2.1) 11 v;exact⟨mu h.ext h.lB _ _,fun c i j=>by rw[show(W.setCell ⟨B,11,none⟩ v).heap.size=W.heap.size by simp];exact h.zz c i j,by simpa using h.lR,eN h.hB _ _,(cY _ _ h.ne.symm).trans h.hb,h.ne,h.lB,h.lb,
  au a h.p6,au a h.p7,au a h.p8,au a h.X8,au a p,au a h.Ya,au a h.Yb,au a h.Yc,gv a h.pb⟩
theorem OI.afX(h:OI w Z x B b cap ZZ v6 v7 v8 v10 v11 kw mc md cb W){v:Value}(p:PR W ZZ aI T8 x.2.2.2.2.2.2.2.1 [v]):OI w Z x B b cap ZZ v6 v7 v8 v10 v11 v mc md cb (W.setCell ⟨B,13,none⟩ v):=by
 have a:=lY (W:=W) (fun c i j=>(h.zz c i j).2.1) 13 v;exact⟨mu h.ext h.lB _ _,fun c i j=>by rw[show(W.setCell ⟨B,13,none⟩ v).heap.size=W.heap.size by simp];exact h.zz c i j,by simpa using h.lR,eN h.hB _ _,(cY _ _ h.ne.symm).trans h.hb,h.ne,h.lB,h.lb,
  au a h.p6,au a h.p7,au a h.p8,au a h.X8,au a h.X9,au a p,au a h.Yb,au a h.Yc,gv a h.pb⟩
theorem OI.afY(h:OI w Z x B b cap ZZ v6 v7 v8 v10 v11 kw mc md cb W){v:Value}(p:PR W ZZ aI T8 x.2.2.2.2.2.2.2.2.1 [v]):OI w Z x B b cap ZZ v6 v7 v8 v10 v11 kw v md cb (W.setCell ⟨B,14,none⟩ v):=by
 have a:=lY (W:=W) (fun c i j=>(h.zz c i j).2.1) 14 v;exact⟨mu h.ext h.lB _ _,fun c i j=>by rw[show(W.setCell ⟨B,14,none⟩ v).heap.size=W.heap.size by simp];exact h.zz c i j,by simpa using h.lR,eN h.hB _ _,(cY _ _ h.ne.symm).trans h.hb,h.ne,h.lB,h.lb,
  au a h.p6,au a h.p7,au a h.p8,au a h.X8,au a h.X9,au a h.Ya,au a p,au a h.Yc,gv a h.pb⟩
theorem OI.afZ(h:OI w Z x B b cap ZZ v6 v7 v8 v10 v11 kw mc md cb W){v:Value}(p:PR W ZZ aI T8 x.2.2.2.2.2.2.2.2.2.1 [v]):OI w Z x B b cap ZZ v6 v7 v8 v10 v11 kw mc v cb (W.setCell ⟨B,15,none⟩ v):=by
 have a:=lY (W:=W) (fun c i j=>(h.zz c i j).2.1) 15 v;exact⟨mu h.ext h.lB _ _,fun c i j=>by rw[show(W.setCell ⟨B,15,none⟩ v).heap.size=W.heap.size by simp];exact h.zz c i j,by simpa using h.lR,eN h.hB _ _,(cY _ _ h.ne.symm).trans h.hb,h.ne,h.lB,h.lb,
  au a h.p6,au a h.p7,au a h.p8,au a h.X8,au a h.X9,au a h.Ya,au a h.Yb,au a p,gv a h.pb⟩
theorem OI.RM(h:OI w Z x B b cap ZZ v6 v7 v8 v10 v11 kw mc md cb W){j q:Nat}{a:cq.den}(E:(gc x)[j]? =some a)(H:q<17){v:Value}(I:∀es,PR W ZZ aI cq a es→PR W ZZ aI cq a (es.set q v)):
  OI w Z x B b cap ZZ v6 v7 v8 v10 v11 kw mc md (cb.setIfInBounds (j*17+q) v) (W.setCell ⟨b,j*17+q,none⟩ v):=by
 have p:=lY (W:=W) (fun c i y=>(h.zz c i y).2.2.1) (j*17+q) v;refine⟨mu h.ext h.lb _ _,fun c i y=>by rw[show(W.setCell ⟨b,j*17+q,none⟩ v).heap.size=W.heap.size by simp];exact h.zz c i y,by simpa using h.lR,(cY _ _ h.ne).trans h.hB,eN h.hb _ _,h.ne,h.lB,h.lb,
  au p h.p6,au p h.p7,au p h.p8,au p h.X8,au p h.X9,au p h.Ya,au p h.Yb,au p h.Yc,gv p ?_⟩
 have:=bY.setCell (k:=17) (fun x es hh=>PR.length cq x es hh) (gc x) _ j a q v h.pb E H (fun es D _=>I es D);rw[Array.toList_setIfInBounds,List.take_set];exact this
structure OG (x:gJ.den):Prop where
 n6:x.2.1.1.length≤1000000000
 n7:x.2.1.2.length≤1000000000
 n8:ac (α:=Int) x.2.2.1≤1000000000
 n10:ac (α:=Int) x.2.2.2.2.1≤1000000000
 n11:ac (α:=Int) x.2.2.2.2.2.1≤1000000000
 n13:ac (α:=Int) x.2.2.2.2.2.2.2.1≤1000000000
 n14:ac (α:=Int) x.2.2.2.2.2.2.2.2.1≤1000000000
 n15:ac (α:=Int) x.2.2.2.2.2.2.2.2.2.1≤1000000000
 L1:1≤(gc x).length
 L2:(gc x).length≤1000000
 nb:∀y∈gc x,ac (α:=Int) y.1≤1000000000∧ac (α:=Int) y.2.1≤1000000000∧ac (α:=Int) y.2.2.1≤1000000000∧ac (α:=Int) y.2.2.2.1≤1000000000∧ac (α:=Int) y.2.2.2.2.1≤1000000000∧ac (α:=Int) y.2.2.2.2.2.1≤1000000000∧ac (α:=Int) y.2.2.2.2.2.2.2.2.2.2.2.1≤1000000000∧ac (α:=Int) y.2.2.2.2.2.2.2.2.2.2.2.2.1≤1000000000∧ac (α:=Int) y.2.2.2.2.2.2.2.2.2.2.2.2.2.1≤1000000000
def qi(w:World)(Z:bj)(x:gJ.den)(B b cap:Nat)(W:World)(g h:Nat):Prop:=
 ∃(l:List Int) (a:Option Addr) (n k:Nat) (ZZ:bj),(g=B∨g=b)∧ac l≤1000000000∧W.cell? ⟨g,h,none⟩=some (.slice a n k)∧(∀d,W.Extends d→d.cell? ⟨g,h,none⟩=some (.slice a n k)∧d.frozen? ⟨g,h,none⟩=false)∧
  PR W ZZ aI T8 l [.slice a n k]∧(∀c i,ZZ c i→c<W.heap.size)∧
  ∀d v,W.Extends d→PR d (E4 ZZ W d) aI T8 l [v]→iF w Z x B b cap (d.setCell ⟨g,h,none⟩ v)
theorem cU{W:World}{ZZ Zp:bj}{e:Ty}{l:List e.den}{v:Value}(h:PR W ZZ Zp (.sl e) l [v]):∃a n k,v= .slice a n k:=by
 obtain⟨a,k,d,c,_⟩:=h;exact⟨a,_,k,by injection c⟩
theorem iF.aim(h:iF w Z x B b cap W)(G:OG x):qi w Z x B b cap W B 8:=by
 obtain⟨ZZ,v6,v7,v8,v10,v11,kw,mc,md,cb,h⟩:=h;obtain⟨a,n,k,rfl⟩:=cU h.p8;exact⟨x.2.2.1,a,n,k,ZZ,.inl rfl,G.n8,aM h.hB 8 _ rfl,fun j e=>⟨aM (aZ e h.hB) 8 _ rfl,bC (aZ e h.hB) 8⟩,h.p8,fun c i p=>(h.zz c i p).1,fun j v e y=>⟨_,_,_,_,_,_,_,_,_,_,(h.ext' e).ail y⟩⟩
theorem iF.af5(h:iF w Z x B b cap W)(G:OG x):qi w Z x B b cap W B 10:=by
 obtain⟨ZZ,v6,v7,v8,v10,v11,kw,mc,md,cb,h⟩:=h;obtain⟨a,n,k,rfl⟩:=cU h.X8;exact⟨x.2.2.2.2.1,a,n,k,ZZ,.inl rfl,G.n10,aM h.hB 10 _ rfl,fun j e=>⟨aM (aZ e h.hB) 10 _ rfl,bC (aZ e h.hB) 10⟩,h.X8,fun c i p=>(h.zz c i p).1,fun j v e y=>⟨_,_,_,_,_,_,_,_,_,_,(h.ext' e).afV y⟩⟩
theorem iF.af6(h:iF w Z x B b cap W)(G:OG x):qi w Z x B b cap W B 11:=by
 obtain⟨ZZ,v6,v7,v8,v10,v11,kw,mc,md,cb,h⟩:=h;obtain⟨a,n,k,rfl⟩:=cU h.X9;exact⟨x.2.2.2.2.2.1,a,n,k,ZZ,.inl rfl,G.n11,aM h.hB 11 _ rfl,fun j e=>⟨aM (aZ e h.hB) 11 _ rfl,bC (aZ e h.hB) 11⟩,h.X9,fun c i p=>(h.zz c i p).1,fun j v e y=>⟨_,_,_,_,_,_,_,_,_,_,(h.ext' e).afW y⟩⟩
theorem iF.af7(h:iF w Z x B b cap W)(G:OG x):qi w Z x B b cap W B 13:=by
 obtain⟨ZZ,v6,v7,v8,v10,v11,kw,mc,md,cb,h⟩:=h;obtain⟨a,n,k,rfl⟩:=cU h.Ya;exact⟨x.2.2.2.2.2.2.2.1,a,n,k,ZZ,.inl rfl,G.n13,aM h.hB 13 _ rfl,fun j e=>⟨aM (aZ e h.hB) 13 _ rfl,bC (aZ e h.hB) 13⟩,h.Ya,fun c i p=>(h.zz c i p).1,fun j v e y=>⟨_,_,_,_,_,_,_,_,_,_,(h.ext' e).afX y⟩⟩
theorem iF.af8(h:iF w Z x B b cap W)(G:OG x):qi w Z x B b cap W B 14:=by
 obtain⟨ZZ,v6,v7,v8,v10,v11,kw,mc,md,cb,h⟩:=h;obtain⟨a,n,k,rfl⟩:=cU h.Yb;exact⟨x.2.2.2.2.2.2.2.2.1,a,n,k,ZZ,.inl rfl,G.n14,aM h.hB 14 _ rfl,fun j e=>⟨aM (aZ e h.hB) 14 _ rfl,bC (aZ e h.hB) 14⟩,h.Yb,fun c i p=>(h.zz c i p).1,fun j v e y=>⟨_,_,_,_,_,_,_,_,_,_,(h.ext' e).afY y⟩⟩
theorem iF.af9(h:iF w Z x B b cap W)(G:OG x):qi w Z x B b cap W B 15:=by
 obtain⟨ZZ,v6,v7,v8,v10,v11,kw,mc,md,cb,h⟩:=h;obtain⟨a,n,k,rfl⟩:=cU h.Yc;exact⟨x.2.2.2.2.2.2.2.2.2.1,a,n,k,ZZ,.inl rfl,G.n15,aM h.hB 15 _ rfl,fun j e=>⟨aM (aZ e h.hB) 15 _ rfl,bC (aZ e h.hB) 15⟩,h.Yc,fun c i p=>(h.zz c i p).1,fun j v e y=>⟨_,_,_,_,_,_,_,_,_,_,(h.ext' e).afZ y⟩⟩
theorem V1{W:World}{ZZ:bj}{y:cq.den}{v:Value}(q:PR W ZZ aI T8 y.1 [v]):∀a,PR W ZZ aI cq y a→PR W ZZ aI cq y (a.set 0 v):=by
 intro a h;obtain⟨E,r,t,u3,u,z,i,j,k,rfl,D,g1,l,n,o,p,c,d,g⟩:=cJ.1 h;exact cJ.2 ⟨v,r,t,u3,u,z,i,j,k,rfl,q,g1,l,n,o,p,c,d,g⟩
theorem iF.aga(h:iF w Z x B b cap W)(G:OG x){j:Nat}(J:j<(gc x).length):qi w Z x B b cap W b (j*17+0):=by
 obtain⟨ZZ,v6,v7,v8,v10,v11,kw,mc,md,cb,h⟩:=h;have H:=ai J;obtain⟨y,p⟩:∃y,(gc x)[j]=y:=⟨_,rfl⟩;rw[p]at H;have O:=G.nb y (p▸ap J);have Q:=bY.get (k:=17) (fun x es hh=>PR.length cq x es hh) _ _ h.pb j y H;obtain⟨u0,u1,u2,u3,u4,u5,S,T,U,P,I,g1,g2,V,X,Y,L,M,N⟩:=cJ.1 Q;obtain⟨a,n,k,rfl⟩:=cU I;have E:cb[j*17+0]? =some (.slice a n k):=by
  have D:(((cb.toList.take ((gc x).length*17)).drop (j*17)).take 17)[0]? =some (.slice a n k):=by rw[P];rfl
  rw[ax,if_pos (by omega),bA,ax]at D
  split at D
  ·rw[←aD];exact D
  ·cases D
 exact⟨y.1,a,n,k,ZZ,.inr rfl,O.1,aM h.hb _ _ E,fun K e=>⟨aM (aZ e h.hb) _ _ E,bC (aZ e h.hb) _⟩,I,fun c i E=>(h.zz c i E).1,fun K v e R=>⟨_,_,_,_,_,_,_,_,_,_,(h.ext' e).RM H (by omega) (V1 R)⟩⟩
theorem V2{W:World}{ZZ:bj}{y:cq.den}{v:Value}(r:PR W ZZ aI T8 y.2.1 [v]):∀a,PR W ZZ aI cq y a→PR W ZZ aI cq y (a.set 1 v):=by
 intro a h;obtain⟨t,E,u,u3,z,D,i,j,k,rfl,l,g1,n,o,p,q,c,d,g⟩:=cJ.1 h;exact cJ.2 ⟨t,v,u,u3,z,D,i,j,k,rfl,l,r,n,o,p,q,c,d,g⟩
theorem iF.agb(h:iF w Z x B b cap W)(G:OG x){j:Nat}(I:j<(gc x).length):qi w Z x B b cap W b (j*17+1):=by
 obtain⟨ZZ,v6,v7,v8,v10,v11,kw,mc,md,cb,h⟩:=h;have H:=ai I;obtain⟨y,p⟩:∃y,(gc x)[j]=y:=⟨_,rfl⟩;rw[p]at H;have N:=G.nb y (p▸ap I);have P:=bY.get (k:=17) (fun x es hh=>PR.length cq x es hh) _ _ h.pb j y H;obtain⟨u0,u1,u2,u3,u4,u5,R,S,T,O,U,g1,g2,V,X,Y,K,L,M⟩:=cJ.1 P;obtain⟨a,n,k,rfl⟩:=cU g1;have E:cb[j*17+1]? =some (.slice a n k):=by
  have D:(((cb.toList.take ((gc x).length*17)).drop (j*17)).take 17)[1]? =some (.slice a n k):=by rw[O];rfl
  rw[ax,if_pos (by omega),bA,ax]at D
  split at D
  ·rw[←aD];exact D
  ·cases D
 exact⟨y.2.1,a,n,k,ZZ,.inr rfl,N.2.1,aM h.hb _ _ E,fun J e=>⟨aM (aZ e h.hb) _ _ E,bC (aZ e h.hb) _⟩,g1,fun c i E=>(h.zz c i E).1,fun J v e Q=>⟨_,_,_,_,_,_,_,_,_,_,(h.ext' e).RM H (by omega) (V2 Q)⟩⟩
theorem V3{W:World}{ZZ:bj}{y:cq.den}{v:Value}(q:PR W ZZ aI T8 y.2.2.1 [v]):∀a,PR W ZZ aI cq y a→PR W ZZ aI cq y (a.set 2 v):=by
 intro a h;obtain⟨r,t,E,u3,u,z,i,j,k,rfl,l,g1,D,n,o,p,c,d,g⟩:=cJ.1 h;exact cJ.2 ⟨r,t,v,u3,u,z,i,j,k,rfl,l,g1,q,n,o,p,c,d,g⟩
theorem iF.agc(h:iF w Z x B b cap W)(G:OG x){j:Nat}(I:j<(gc x).length):qi w Z x B b cap W b (j*17+2):=by
 obtain⟨ZZ,v6,v7,v8,v10,v11,kw,mc,md,cb,h⟩:=h;have H:=ai I;obtain⟨y,p⟩:∃y,(gc x)[j]=y:=⟨_,rfl⟩;rw[p]at H;have N:=G.nb y (p▸ap I);have P:=bY.get (k:=17) (fun x es hh=>PR.length cq x es hh) _ _ h.pb j y H;obtain⟨u0,u1,u2,u3,u4,u5,R,S,T,O,U,g1,g2,V,X,Y,K,L,M⟩:=cJ.1 P;obtain⟨a,n,k,rfl⟩:=cU g2;have E:cb[j*17+2]? =some (.slice a n k):=by
  have D:(((cb.toList.take ((gc x).length*17)).drop (j*17)).take 17)[2]? =some (.slice a n k):=by rw[O];rfl
  rw[ax,if_pos (by omega),bA,ax]at D
  split at D
  ·rw[←aD];exact D
  ·cases D
 exact⟨y.2.2.1,a,n,k,ZZ,.inr rfl,N.2.2.1,aM h.hb _ _ E,fun J e=>⟨aM (aZ e h.hb) _ _ E,bC (aZ e h.hb) _⟩,g2,fun c i E=>(h.zz c i E).1,fun J v e Q=>⟨_,_,_,_,_,_,_,_,_,_,(h.ext' e).RM H (by omega) (V3 Q)⟩⟩
theorem V4{W:World}{ZZ:bj}{y:cq.den}{v:Value}(q:PR W ZZ aI T8 y.2.2.2.1 [v]):∀a,PR W ZZ aI cq y a→PR W ZZ aI cq y (a.set 3 v):=by
 intro a h;obtain⟨r,t,u,u3,z,D,i,j,k,rfl,l,g1,n,E,o,p,c,d,g⟩:=cJ.1 h;exact cJ.2 ⟨r,t,u,v,z,D,i,j,k,rfl,l,g1,n,q,o,p,c,d,g⟩
theorem iF.agd(h:iF w Z x B b cap W)(G:OG x){j:Nat}(J:j<(gc x).length):qi w Z x B b cap W b (j*17+3):=by
 obtain⟨ZZ,v6,v7,v8,v10,v11,kw,mc,md,cb,h⟩:=h;have H:=ai J;obtain⟨y,p⟩:∃y,(gc x)[j]=y:=⟨_,rfl⟩;rw[p]at H;have O:=G.nb y (p▸ap J);have Q:=bY.get (k:=17) (fun x es hh=>PR.length cq x es hh) _ _ h.pb j y H;obtain⟨u0,u1,u2,u3,u4,u5,S,T,U,P,V,g1,g2,I,X,Y,L,M,N⟩:=cJ.1 Q;obtain⟨a,n,k,rfl⟩:=cU I;have E:cb[j*17+3]? =some (.slice a n k):=by
  have D:(((cb.toList.take ((gc x).length*17)).drop (j*17)).take 17)[3]? =some (.slice a n k):=by rw[P];rfl
  rw[ax,if_pos (by omega),bA,ax]at D
  split at D
  ·rw[←aD];exact D
  ·cases D
 exact⟨y.2.2.2.1,a,n,k,ZZ,.inr rfl,O.2.2.2.1,aM h.hb _ _ E,fun K e=>⟨aM (aZ e h.hb) _ _ E,bC (aZ e h.hb) _⟩,I,fun c i E=>(h.zz c i E).1,fun K v e R=>⟨_,_,_,_,_,_,_,_,_,_,(h.ext' e).RM H (by omega) (V4 R)⟩⟩
theorem V5{W:World}{ZZ:bj}{y:cq.den}{v:Value}(q:PR W ZZ aI T8 y.2.2.2.2.1 [v]):∀a,PR W ZZ aI cq y a→PR W ZZ aI cq y (a.set 4 v):=by
 intro a h;obtain⟨r,t,u,u3,E,z,i,j,k,rfl,l,g1,n,o,D,p,c,d,g⟩:=cJ.1 h;exact cJ.2 ⟨r,t,u,u3,v,z,i,j,k,rfl,l,g1,n,o,q,p,c,d,g⟩
theorem iF.age(h:iF w Z x B b cap W)(G:OG x){j:Nat}(J:j<(gc x).length):qi w Z x B b cap W b (j*17+4):=by
 obtain⟨ZZ,v6,v7,v8,v10,v11,kw,mc,md,cb,h⟩:=h;have H:=ai J;obtain⟨y,p⟩:∃y,(gc x)[j]=y:=⟨_,rfl⟩;rw[p]at H;have O:=G.nb y (p▸ap J);have Q:=bY.get (k:=17) (fun x es hh=>PR.length cq x es hh) _ _ h.pb j y H;obtain⟨u0,u1,u2,u3,u4,u5,S,T,U,P,V,g1,g2,X,I,Y,L,M,N⟩:=cJ.1 Q;obtain⟨a,n,k,rfl⟩:=cU I;have E:cb[j*17+4]? =some (.slice a n k):=by
  have D:(((cb.toList.take ((gc x).length*17)).drop (j*17)).take 17)[4]? =some (.slice a n k):=by rw[P];rfl
  rw[ax,if_pos (by omega),bA,ax]at D
  split at D
  ·rw[←aD];exact D
  ·cases D
 exact⟨y.2.2.2.2.1,a,n,k,ZZ,.inr rfl,O.2.2.2.2.1,aM h.hb _ _ E,fun K e=>⟨aM (aZ e h.hb) _ _ E,bC (aZ e h.hb) _⟩,I,fun c i E=>(h.zz c i E).1,fun K v e R=>⟨_,_,_,_,_,_,_,_,_,_,(h.ext' e).RM H (by omega) (V5 R)⟩⟩
theorem V6{W:World}{ZZ:bj}{y:cq.den}{v:Value}(q:PR W ZZ aI T8 y.2.2.2.2.2.1 [v]):∀a,PR W ZZ aI cq y a→PR W ZZ aI cq y (a.set 5 v):=by
 intro a h;obtain⟨r,t,u,u3,z,E,i,j,k,rfl,l,g1,n,o,p,D,c,d,g⟩:=cJ.1 h;exact cJ.2 ⟨r,t,u,u3,z,v,i,j,k,rfl,l,g1,n,o,p,q,c,d,g⟩
theorem iF.agf(h:iF w Z x B b cap W)(G:OG x){j:Nat}(J:j<(gc x).length):qi w Z x B b cap W b (j*17+5):=by
 obtain⟨ZZ,v6,v7,v8,v10,v11,kw,mc,md,cb,h⟩:=h;have H:=ai J;obtain⟨y,p⟩:∃y,(gc x)[j]=y:=⟨_,rfl⟩;rw[p]at H;have O:=G.nb y (p▸ap J);have Q:=bY.get (k:=17) (fun x es hh=>PR.length cq x es hh) _ _ h.pb j y H;obtain⟨u0,u1,u2,u3,u4,u5,S,T,U,P,V,g1,g2,X,Y,I,L,M,N⟩:=cJ.1 Q;obtain⟨a,n,k,rfl⟩:=cU I;have E:cb[j*17+5]? =some (.slice a n k):=by
  have D:(((cb.toList.take ((gc x).length*17)).drop (j*17)).take 17)[5]? =some (.slice a n k):=by rw[P];rfl
  rw[ax,if_pos (by omega),bA,ax]at D
  split at D
  ·rw[←aD];exact D
  ·cases D
 exact⟨y.2.2.2.2.2.1,a,n,k,ZZ,.inr rfl,O.2.2.2.2.2.1,aM h.hb _ _ E,fun K e=>⟨aM (aZ e h.hb) _ _ E,bC (aZ e h.hb) _⟩,I,fun c i E=>(h.zz c i E).1,fun K v e R=>⟨_,_,_,_,_,_,_,_,_,_,(h.ext' e).RM H (by omega) (V6 R)⟩⟩
theorem Ua{W:World}{ZZ:bj}{y:cq.den}{v:Value}(q:PR W ZZ aI T8 y.2.2.2.2.2.2.2.2.2.2.2.1 [v]):∀a,PR W ZZ aI cq y a→PR W ZZ aI cq y (a.set 11 v):=by
 intro a h;obtain⟨r,t,z,u3,D,E,u,g,i,rfl,j,g1,l,n,o,p,k,c,d⟩:=cJ.1 h;exact cJ.2 ⟨r,t,z,u3,D,E,v,g,i,rfl,j,g1,l,n,o,p,q,c,d⟩
theorem iF.ad1(h:iF w Z x B b cap W)(G:OG x){j:Nat}(J:j<(gc x).length):qi w Z x B b cap W b (j*17+11):=by
 obtain⟨ZZ,v6,v7,v8,v10,v11,kw,mc,md,cb,h⟩:=h;have I:=ai J;obtain⟨y,D⟩:∃y,(gc x)[j]=y:=⟨_,rfl⟩;rw[D]at I;have N:=G.nb y (D▸ap J);have P:=bY.get (k:=17) (fun x es hh=>PR.length cq x es hh) _ _ h.pb j y I;obtain⟨u0,u1,u2,u3,u4,u5,R,S,T,O,U,g1,g2,V,X,Y,p,L,M⟩:=cJ.1 P;obtain⟨a,n,k,rfl⟩:=cU p;have H:cb[j*17+11]? =some (.slice a n k):=by
  have E:(((cb.toList.take ((gc x).length*17)).drop (j*17)).take 17)[11]? =some (.slice a n k):=by rw[O];rfl
  rw[ax,if_pos (by omega),bA,ax]at E
  split at E
  ·rw[←aD];exact E
  ·cases E
 exact⟨y.2.2.2.2.2.2.2.2.2.2.2.1,a,n,k,ZZ,.inr rfl,N.2.2.2.2.2.2.1,aM h.hb _ _ H,fun K e=>⟨aM (aZ e h.hb) _ _ H,bC (aZ e h.hb) _⟩,p,fun c i H=>(h.zz c i H).1,fun K v e Q=>⟨_,_,_,_,_,_,_,_,_,_,(h.ext' e).RM I (by omega) (Ua Q)⟩⟩
theorem Ub{W:World}{ZZ:bj}{y:cq.den}{v:Value}(q:PR W ZZ aI T8 y.2.2.2.2.2.2.2.2.2.2.2.2.1 [v]):∀a,PR W ZZ aI cq y a→PR W ZZ aI cq y (a.set 12 v):=by
 intro a h;obtain⟨r,t,z,u3,D,E,g,u,i,rfl,j,g1,l,n,o,p,c,k,d⟩:=cJ.1 h;exact cJ.2 ⟨r,t,z,u3,D,E,g,v,i,rfl,j,g1,l,n,o,p,c,q,d⟩
theorem iF.ad2(h:iF w Z x B b cap W)(G:OG x){j:Nat}(J:j<(gc x).length):qi w Z x B b cap W b (j*17+12):=by
 obtain⟨ZZ,v6,v7,v8,v10,v11,kw,mc,md,cb,h⟩:=h;have I:=ai J;obtain⟨y,D⟩:∃y,(gc x)[j]=y:=⟨_,rfl⟩;rw[D]at I;have N:=G.nb y (D▸ap J);have P:=bY.get (k:=17) (fun x es hh=>PR.length cq x es hh) _ _ h.pb j y I;obtain⟨u0,u1,u2,u3,u4,u5,R,S,T,O,U,g1,g2,V,X,Y,L,p,M⟩:=cJ.1 P;obtain⟨a,n,k,rfl⟩:=cU p;have H:cb[j*17+12]? =some (.slice a n k):=by
  have E:(((cb.toList.take ((gc x).length*17)).drop (j*17)).take 17)[12]? =some (.slice a n k):=by rw[O];rfl
  rw[ax,if_pos (by omega),bA,ax]at E
  split at E
  ·rw[←aD];exact E
  ·cases E
 exact⟨y.2.2.2.2.2.2.2.2.2.2.2.2.1,a,n,k,ZZ,.inr rfl,N.2.2.2.2.2.2.2.1,aM h.hb _ _ H,fun K e=>⟨aM (aZ e h.hb) _ _ H,bC (aZ e h.hb) _⟩,p,fun c i H=>(h.zz c i H).1,fun K v e Q=>⟨_,_,_,_,_,_,_,_,_,_,(h.ext' e).RM I (by omega) (Ub Q)⟩⟩
theorem Uc{W:World}{ZZ:bj}{y:cq.den}{v:Value}(q:PR W ZZ aI T8 y.2.2.2.2.2.2.2.2.2.2.2.2.2.1 [v]):∀a,PR W ZZ aI cq y a→PR W ZZ aI cq y (a.set 13 v):=by
 intro a h;obtain⟨r,t,z,u3,D,E,g,i,u,rfl,j,g1,l,n,o,p,c,d,k⟩:=cJ.1 h;exact cJ.2 ⟨r,t,z,u3,D,E,g,i,v,rfl,j,g1,l,n,o,p,c,d,q⟩
theorem iF.ad3(h:iF w Z x B b cap W)(G:OG x){j:Nat}(J:j<(gc x).length):qi w Z x B b cap W b (j*17+13):=by
 obtain⟨ZZ,v6,v7,v8,v10,v11,kw,mc,md,cb,h⟩:=h;have I:=ai J;obtain⟨y,D⟩:∃y,(gc x)[j]=y:=⟨_,rfl⟩;rw[D]at I;have N:=G.nb y (D▸ap J);have P:=bY.get (k:=17) (fun x es hh=>PR.length cq x es hh) _ _ h.pb j y I;obtain⟨u0,u1,u2,u3,u4,u5,R,S,T,O,U,g1,g2,V,X,Y,L,M,p⟩:=cJ.1 P;obtain⟨a,n,k,rfl⟩:=cU p;have H:cb[j*17+13]? =some (.slice a n k):=by
  have E:(((cb.toList.take ((gc x).length*17)).drop (j*17)).take 17)[13]? =some (.slice a n k):=by rw[O];rfl
  rw[ax,if_pos (by omega),bA,ax]at E
  split at E
  ·rw[←aD];exact E
  ·cases E
 exact⟨y.2.2.2.2.2.2.2.2.2.2.2.2.2.1,a,n,k,ZZ,.inr rfl,N.2.2.2.2.2.2.2.2,aM h.hb _ _ H,fun K e=>⟨aM (aZ e h.hb) _ _ H,bC (aZ e h.hb) _⟩,p,fun c i H=>(h.zz c i H).1,fun K v e Q=>⟨_,_,_,_,_,_,_,_,_,_,(h.ext' e).RM I (by omega) (Uc Q)⟩⟩
theorem iF.ptr(h:iF w Z x B b cap W)(G:OG x){u:Value}(i:u∈Nc B b (gc x).length):∃pb p,u= .pointer (some ⟨pb,p,none⟩)∧qi w Z x B b cap W pb p:=by
 unfold Nc at i;rcases List.mem_append.1 i with i |i
 ·simp only[six,List.mem_cons,List.not_mem_nil,or_false]at i;rcases i with rfl |rfl |rfl |rfl |rfl |rfl
  ·exact⟨_,_,rfl,h.aim G⟩
  ·exact⟨_,_,rfl,h.af5 G⟩
  ·exact⟨_,_,rfl,h.af6 G⟩
  ·exact⟨_,_,rfl,h.af7 G⟩
  ·exact⟨_,_,rfl,h.af8 G⟩
  ·exact⟨_,_,rfl,h.af9 G⟩
 ·obtain⟨l,y,i⟩:=List.mem_flatten.1 i;obtain⟨j,a,rfl⟩:=List.mem_map.1 y;have a:=List.mem_range.1 a;simp only[nine,List.mem_cons,List.not_mem_nil,or_false]at i;rcases i with rfl |rfl |rfl |rfl |rfl |rfl |rfl |rfl |rfl
  ·exact⟨_,_,rfl,h.aga G a⟩
  ·exact⟨_,_,rfl,h.agb G a⟩
  ·exact⟨_,_,rfl,h.agc G a⟩
  ·exact⟨_,_,rfl,h.agd G a⟩
  ·exact⟨_,_,rfl,h.age G a⟩
  ·exact⟨_,_,rfl,h.agf G a⟩
  ·exact⟨_,_,rfl,h.ad1 G a⟩
  ·exact⟨_,_,rfl,h.ad2 G a⟩
  ·exact⟨_,_,rfl,h.ad3 G a⟩
theorem iF.more(h:iF w Z x B b cap W){a:World}(e:W.Extends a):iF w Z x B b cap a:=by
 obtain⟨ZZ,v6,v7,v8,v10,v11,kw,mc,md,cb,h⟩:=h;exact⟨_,_,_,_,_,_,_,_,_,_,h.ext' e⟩
theorem QG{W d:World}(h:Below W.heap.size W d):W.Extends d:=
 ⟨h.os,h.tape,h.output,h.size,fun a c=>aL (h.block _ c),fun a c=>World.frozen?_of_block (h.block _ c),h.block⟩
theorem iF.done(h:iF w Z x B b cap W)(y:(gc x).length≤cap):w.Extends W∧∃v6 v7 v8 v10 v11 kw mc md,W.heap[B]? =some (.cells (HH x v6 v7 v8 v10 v11 (.slice (some ⟨b,0,none⟩) (gc x).length cap) kw mc md).toArray 62 (0,0))∧
  PR W (fun c i=>w7 Z w W c i∧c≠B+1) aI gJ x (HH x v6 v7 v8 v10 v11 (.slice (some ⟨b,0,none⟩) (gc x).length cap) kw mc md)∧(∃a n k,v6= .slice a n k)∧(∃a n k,v7= .slice a n k)∧(∃a n k,v8= .slice a n k)∧(∃a n k,v10= .slice a n k)∧(∃a n k,v11= .slice a n k)∧(∃a n k,kw= .slice a n k)∧(∃a n k,mc= .slice a n k)∧(∃a n k,md= .slice a n k):=by
 obtain⟨ZZ,v6,v7,v8,v10,v11,kw,mc,md,cb,h⟩:=h;have p:bQ W W ZZ (fun c i=>w7 Z w W c i∧c≠B+1):=fun c i H=>⟨⟨(h.zz c i H).2.2.2.1.imp id fun hh=>⟨hh,(h.zz c i H).1⟩,(h.zz c i H).2.2.2.2⟩,rfl⟩;have E:=(Array.getElem?_eq_some_iff.1 h.hb).1;refine⟨h.ext,_,_,_,_,_,_,_,_,h.hB,?_,cU h.p6,cU h.p7,cU h.p8,cU h.X8,cU h.X9,cU h.Ya,cU h.Yb,cU h.Yc⟩;refine T7.2 ⟨v6,v7,v8,v10,v11,_,kw,mc,md,rfl,au p h.p6,au p h.p7,au p h.p8,au p h.X8,au p h.X9,?_,au p h.Ya,au p h.Yb,au p h.Yc⟩;refine⟨_,cap,cb.toList.take ((gc x).length*17),rfl,y,gv p h.pb,fun _=>⟨b,0,rfl,fun j u D=>⟨?_,.inr ⟨h.lb,E⟩,h.lR.2⟩⟩⟩;rw[b9];refine aM h.hb j u ?_;rw[ax]at D
 split at D
 ·rw[←aD];exact D
 ·cases D
theorem Cl{c:Nat}{t:TypeId}:∀(vs:List Value) (o:Nat) (W:World) (a:Array Value),W.heap[c]? =some (.cells a t (0,0))→∃cs,(W.setCells c o vs).heap[c]? =some (.cells cs t (0,0))∧cs.size=a.size∧
  (∀j,j<o→cs[j]? =a[j]?)∧(∀j,o≤j→j<o+vs.length→j<a.size→cs[j]? =vs[j -o]?)
 |[],o,W,a,h=>⟨a,h,rfl,fun _ _=>rfl,fun j k g=>by simp at g;omega⟩
 |v::vs,o,W,a,h=>by
  obtain⟨cs,k,g,l,n⟩:=Cl vs (o+1) (W.setCell ⟨c,o,none⟩ v) _ (eN h o v);refine⟨cs,k,by simpa using g,fun j r=> ?_,fun j q i d=> ?_⟩
  ·rw[l j (by omega),Array.getElem?_setIfInBounds_ne (by omega)]
  ·by_cases p:j=o
   ·subst p;rw[l j (by omega),Array.getElem?_setIfInBounds_self_of_lt d];simp
   ·rw[n j (by omega) (by simp at i;omega) (by simpa using d)];rw[show j -o=(j -(o+1))+1 by omega];simp
theorem O9{c:Nat}{t:TypeId}{vs:List Value}{W:World}{d:Array Value}(h:W.heap[c]? =some (.cells d t (0,0)))(p:d.size=vs.length):(W.setCells c 0 vs).heap[c]? =some (.cells vs.toArray t (0,0)):=by
 obtain⟨j,k,o,-,l⟩:=Cl vs 0 W d h;rw[k];have:j=vs.toArray:=by
  refine Array.ext (by simp;omega) fun i g a=> ?_;have:=l i (Nat.zero_le _) (by simpa using a) (by omega);rw[Nat.sub_zero,ak g]at this;have n:vs[i]? =some vs[i]:=ai (by simpa using a)
  rw[n]at this;simpa using this
 rw[this]
theorem E5{w:World}{c:Nat}(a:w.heap.size≤c):∀(vs:List Value) (o:Nat) (W:World),w.Extends W→w.Extends (W.setCells c o vs)
 |[],_,_,h=>h
 |v::vs,o,W,h=>E5 a vs (o+1) _ (mu h a o v)
theorem Cm{c:Nat}:∀(vs:List Value) (o:Nat) (W:World),(W.setCells c o vs).heap.size=W.heap.size
 |[],_,_=>rfl
 |v::vs,o,W=>(Cm vs (o+1) _).trans (by simp)
theorem zY{c k:Nat}(a:k≠c):∀(vs:List Value) (o:Nat) (W:World),(W.setCells c o vs).heap[k]? =W.heap[k]?
 |[],_,_=>rfl
 |v::vs,o,W=>(zY a vs (o+1) _).trans (cY o v a)
theorem abR{w W:World}{Z:bj}{x:gJ.den}{B:Nat}{g:List Value}(h:w.Extends W)(j:w.heap.size≤B+1)(p:PR W (fun c i=>w7 Z w W c i∧c≠B+1) aI gJ x g)(vs:List Value):
  w.Extends (W.setCells (B+1) 0 vs)∧PR (W.setCells (B+1) 0 vs) (w7 Z w (W.setCells (B+1) 0 vs)) aI gJ x g:=by
 refine⟨E5 j _ _ _ h,au (fun c i d=>⟨?_,aL (zY d.2 _ _ _)⟩) p⟩;rcases d.1 with a |a
 ·exact .inl a
 ·exact .inr ⟨a.1,by rw[Cm];exact a.2⟩
end Tryz
end Go.Proofs
namespace Go.Proofs
open Go.RowKit Go.Shelf Go.Am
attribute [local go_sem] Oper.semAt_some
namespace Tryz
noncomputable def V7:Code:=match Tryz.f89.body with |some (.seq _ (.seq _ c))=>c |_=> .skip
theorem abS:(Tryz.prog.info? 236).map (fun i=>(i.zero,i.size,i.bytes))=some (some (.pointer none),1,8):=by kernel_rfl
set_option maxRecDepth 100000 in
set_option maxHeartbeats 4000000 in
theorem abT(w W:World)(Z q:bj)(x:gJ.den)(B:Nat)(x0 v6 v7 v8 v10 v11 kw mc md t8 t9 t10 t11 t12 t13 t14 t15 t16 t17 t18 t19:Value)(a:Option Addr)(n k:Nat)(us:List Value)(cr:Array Value)(fn:Func)(hfr:fn.results= #[.cell 2 62])
  (G:OG x) (hn:Hid (n=(gc x).length)) (ain:w.Extends W) (hzz:∀c i,q c i→c<W.heap.size∧c≠B∧c≠B+1∧(Z c i∨w.heap.size≤c)) (hlB:w.heap.size≤B) (hzs:∀c i,Z c i→c<w.heap.size)
  (T:W.heap[B]? =some (.cells (HH x v6 v7 v8 v10 v11 (.slice a n k) kw mc md).toArray 62 (0,0)))
  (H:W.heap[B+1]? =some (.cells cr 62 (0,0))) (hcr:cr.size=17)
  (p6:PR W q aI (.sl .str) x.2.1.1 [v6]) (p7:PR W q aI MP x.2.1.2 [v7]) (p8:PR W q aI T8 x.2.2.1 [v8]) (X8:PR W q aI T8 x.2.2.2.2.1 [v10]) (X9:PR W q aI T8 x.2.2.2.2.2.1 [v11])
  (Ya:PR W q aI T8 x.2.2.2.2.2.2.2.1 [kw]) (Yb:PR W q aI T8 x.2.2.2.2.2.2.2.2.1 [mc]) (Yc:PR W q aI T8 x.2.2.2.2.2.2.2.2.2.1 [md])
  (XK:bY (PR W q aI cq) (gc x) us)
  (aio:Calls Tryz.prog 145 #[.slice a n k] W fun e E=>∃b cap cur,e= .returned (.slice (some ⟨b,0,none⟩) n cap)∧W.heap.size≤b∧E.heap[b]? =some (.cells cur 26 (0,0))∧cur.toList.take (n*17)=us∧n≤cap∧W.Extends E)
  (aip:∀(E:World) (L:bj) (l:List Int) (a:Option Addr) (n k:Nat),(∀c i,L c i→c<E.heap.size)→PR E L aI T8 l [.slice a n k]→ac l≤1000000000→
   Calls Tryz.prog 146 #[.slice a n k] E fun e K=>∃a n c,e= .returned (.slice a n c)∧E.Extends K∧PR K (E4 L E K) aI T8 l [.slice a n c]):
  V7.wpIn Fence.wide 5 Tryz.prog (bodyPost Tryz.prog fn fun e w'=>∃v,e= .returned v∧w.Extends w'∧zl w' (w7 Z w w') aI [gJ] x v)
   { tmps:= #[x0,.pointer (some ⟨B,0,none⟩),.pointer (some ⟨B+1,0,none⟩),undef,undef,undef,undef,undef,t8,t9,t10,t11,t12,t13,t14,t15,t16,t17,t18,t19,
     undef,undef,undef,undef,undef,undef,undef,undef,undef,undef,undef,undef,undef,undef,undef,undef,undef,undef,undef,undef,undef,undef,undef,undef,undef,undef,undef,undef,undef,undef,
     undef,undef,undef,undef,undef,undef,undef,undef,undef,undef,undef,undef,undef,undef,undef,undef,undef,undef,undef,undef,undef,undef,undef,undef,undef,undef,undef,undef,undef,undef,
     undef,undef,undef,undef,undef,undef,undef,undef,undef],defers:=[] } W:=by
 obtain⟨R,hR⟩:∃R:Ending→World→Prop,(fun e w'=>∃v,e= .returned v∧w.Extends w'∧zl w' (w7 Z w w') aI [gJ] x v)=R:=⟨_,rfl⟩;have q12:W.cell? ⟨B,12,none⟩=some (.slice a n k):=aM T 12 _ rfl;have hn1:1≤n:=by rw[hn.out];exact G.L1
 have hn2:n≤1000000:=by rw[hn.out];exact G.L2
 rw[hR];unfold V7 Tryz.f89;dsimp only
 gi_wp2_with (refine⟨trivial,?_⟩;gi_at_call 145;refine(callsIn_wide.2 aio).mono ?_;rintro e W5 ⟨b,cap,cur,rfl,hb1,S0,hb3,hb4,h⟩;have r12:W5.cell? ⟨B,12,none⟩=some (.slice a n k):=aM (aZ h T) 12 _ rfl;have f12:=bC (aZ h T) 12;have z12:((W5.setCell ⟨B,12,none⟩ (.slice (some ⟨b,0,none⟩) n cap)).alloc (.cells #[.pointer (some ⟨B,8,none⟩),.pointer (some ⟨B,10,none⟩),.pointer (some ⟨B,11,none⟩),.pointer (some ⟨B,13,none⟩),.pointer (some ⟨B,14,none⟩),.pointer (some ⟨B,15,none⟩)] 236)).cell? ⟨B,12,none⟩=some (.slice (some ⟨b,0,none⟩) n cap):=aM (QF (eN (aZ h T) 12 _)) 12 _ rfl)
 obtain⟨W6,r⟩:∃W6,W5.setCell ⟨B,12,none⟩ (.slice (some ⟨b,0,none⟩) n cap)=W6:=⟨_,rfl⟩;have hBs:=(Array.getElem?_eq_some_iff.1 T).1;have hRs:=(Array.getElem?_eq_some_iff.1 H).1;have hD:W5.heap.size=W6.heap.size:=by rw[←r];simp
 have U:iF w Z x B b cap W6:=by
  have hk1:bQ W W5 q q:=fun c i D=>⟨D,h.cell _ (hzz c i D).1⟩;have hk2:bQ W5 W6 q q:=by rw[←r];exact lY (fun c i D=>(hzz c i D).2.1) 12 _
  have u:bQ W W6 q q:=fun c i D=>⟨D,(hk2 c i D).2.trans (hk1 c i D).2⟩;have hs5:=h.size;have hz6:W6.heap.size=W5.heap.size:=hD.symm;refine⟨q,v6,v7,v8,v10,v11,kw,mc,md,cur,?_,fun c i D=> ?_,⟨by omega,by omega⟩,?_,?_,by omega,hlB,by omega,au u p6,au u p7,au u p8,au u X8,au u X9,au u Ya,au u Yb,au u Yc,?_⟩
  ·rw[←r];exact mu (ain.trans h) hlB _ _
  ·obtain⟨a1,a2,a3,a4⟩:=hzz c i D;exact⟨by omega,a2,by omega,a4,a3⟩
  ·rw[←r,←hn.out];exact eN (aZ h T) 12 _
  ·rw[←r,cY _ _ (by omega)];exact S0
  ·rw[←hn.out,hb3];exact gv u XK
 have agh:W6.heap[B+1]? =some (.cells cr 62 (0,0)):=by rw[←r,cY _ _ (by omega)];exact aZ h H
 have hB6:W6.cell? ⟨B,12,none⟩=some (.slice (some ⟨b,0,none⟩) n cap):=by rw[←r];exact aM (eN (aZ h T) 12 _) 12 _ rfl
 rw[r,hD];clear z12 r12 f12;have hBD:B+1<W6.heap.size:=by rw[←hD];have:=h.size;omega
 have hmx:Tryz.prog.follows .mixedOrders=true:=by kernel_rfl
 obtain⟨i0,hi,hz0,hz1,hz2⟩:=info_parts abS
 gi_loopg [3,34] (n) (fun gk s3 RN wr=>∃i:Nat,RN= .int .i64 (i:Int)∧i≤n∧n -i=gk∧wr.ownsRow W6.heap.size 236 1 s3 (6+9*i) (Nc B b i)∧Below W6.heap.size W6 wr)
 case atStart=>
  exact⟨0,rfl,Nat.zero_le _,rfl,⟨rfl,.inr ⟨W6.heap.size,6,_,rfl,av _,BN W6 _,av _,by unfold maxLen;omega,rfl,rfl⟩⟩,(Below.refl _ _).alloc (av _) _⟩
 case round=>
  obtain⟨i,rfl,hin,hgk,I,p⟩:=hrel;have q12:wr.cell? ⟨B,12,none⟩=some (.slice (some ⟨b,0,none⟩) n cap):=(aL (p.block B (by omega))).trans hB6
  by_cases hlt:i<n
  ·gi_wp2
   have hsz:=p.size;have z:(wr.drew.alloc (.cells (nine b i).toArray 236)).ownsRow W6.heap.size 236 1 u3 (6+9*i) (Nc B b i):=World.ownsRow.alloc (w:=wr.drew) I _;obtain⟨v',w1,J,hown',Y,_⟩:=run_append_own (P:=Tryz.prog) (w:=wr.drew.alloc (.cells (nine b i).toArray 236)) W6.heap.size 237 237 236 i0 (.pointer none) 1 8 Tryz.underlying237 hi hz0 hz1 hz2 rfl (by decide) u3 _ _ z
    ⟨wr.heap.size,0,none⟩ 9 9 (nine b i) rfl (X6 (w:=wr.drew) (nine b i)) (by simp[nine,dp]) (by unfold maxLen;omega) (by omega) (by rw[heap_alloc,Array.size_push];show _≤wr.heap.size+1;omega)
   have V:Below W6.heap.size W6 w1:=Below.grown (w:=wr.drew.alloc (.cells (nine b i).toArray 236)) (Below.alloc (w:=wr.drew) ⟨p.os,p.tape,p.output,p.size,p.block⟩ hsz _) Y (by rw[heap_alloc,Array.size_push];show _≤wr.heap.size+1;omega) (fun k u=>(z.lt k u).1);simp[go_sem,nine]at J
   gi_region_with_o (fail)
   clear J
   gi_wp2
   gi_roundg (n -(i+1))
   case measure=>omega
   case rel=>
    refine⟨i+1,?_,by omega,rfl,?_,V⟩
    ·rfl
    ·rw[X7];exact hown'
  ·have hin:i=n:=by omega
   subst hin;obtain⟨hxl,h0 |⟨g,rc,t,rfl,Ru,hg2,hg3,hg4,hg5,hg6⟩⟩:=I
   ·omega
   have aiq:iF w Z x B b cap wr:=U.more (QG p);have agi:wr.heap[B+1]? =some (.cells cr 62 (0,0)):=(p.block _ hBD).trans agh
   gi_wp2
   gi_loopg [77] (6+9*i) (fun gk s77 wq=>∃j:Nat,s77= .int .i64 (j:Int)∧j≤6+9*i∧6+9*i -j=gk∧iF w Z x B b cap wq∧wq.heap[g]? =some (.cells t 236 (0,0))∧wq.heap[B+1]? =some (.cells cr 62 (0,0)))
   case atStart=>exact⟨0,rfl,Nat.zero_le _,rfl,aiq,hg2,agi⟩
   case round=>
    obtain⟨j,rfl,hjn,amd,hO,X,d⟩:=hrel
    by_cases ahY:j<6+9*i
    ·have hu:t[j]? =some ((Nc B b i).getD j undef):=by
      have h1:(t.toList.take ((6+9*i)*1))[j]? =some ((Nc B b i).getD j undef):=by rw[hg6,bd,ai (by omega),Option.getD_some]
      rw[ax,if_pos (by omega)]at h1;rw[←aD];exact h1
     have F:(Nc B b i).getD j undef∈Nc B b (gc x).length:=by
      rw[←hn.out,bd,ai (by omega),Option.getD_some];exact ap _
     obtain⟨pb,po,hup,l,pa,pn,pk,ZP,hpb,Tg,hpc,hpe,VC,hpz,W7⟩:=hO.ptr G F;rw[hup]at hu;have hbW:b<W6.heap.size:=by obtain⟨_,_,_,_,_,_,_,_,_,_,hh⟩:=U;exact(Array.getElem?_eq_some_iff.1 hh.hb).1
     have hbR:b≠B+1:=by obtain⟨_,_,_,_,_,_,_,_,_,_,hh⟩:=U;exact hh.lR.2
     have air:g≠pb:=by rcases hpb with rfl |rfl<;>omega
     have ais:B+1≠pb:=by rcases hpb with rfl |rfl<;>omega
     have q1:wr.cell? ⟨g,j,none⟩=some (.pointer (some ⟨pb,po,none⟩)):=aM X j _ hu;have Vq:=aip wr ZP l pa pn pk hpz VC Tg;clear hup F hu
     gi_wp2_with (refine⟨trivial,?_⟩;gi_at_call 146;refine(callsIn_wide.2 Vq).mono ?_;rintro e W9 ⟨a9,n9,k9,rfl,e9,p9⟩;obtain⟨y1,y2⟩:=hpe W9 e9)
     gi_roundg (6+9*i -(j+1))
     case measure=>omega
     case rel=>
      refine⟨j+1,?_,by omega,rfl,W7 W9 _ e9 p9,?_,?_⟩
      ·rfl
      ·rw[cY _ _ air];exact aZ e9 X
      ·rw[cY _ _ ais];exact aZ e9 d
    ·obtain⟨hxw,z6,z7,z8,z10,z11,z13,z14,z15,o,prf,⟨a6,n6,k6,rfl⟩,⟨a7,n7,k7,rfl⟩,⟨a8,n8,k8,rfl⟩,⟨M,n10,k10,rfl⟩,⟨N,n11,k11,rfl⟩,⟨O,n13,k13,rfl⟩,⟨Q,n14,k14,rfl⟩,⟨S,n15,k15,rfl⟩⟩:=hO.done (by rw[←hn.out];exact hb4);obtain⟨m0,hm0⟩:∃m:Int,Hid (m=x.1.1):=⟨_,rfl⟩;have c0:wr.cell? ⟨B,0,none⟩=some (.int .i64 m0):=by rw[hm0.out];exact aM o 0 _ rfl
     obtain⟨m1,hm1⟩:∃m:Int,Hid (m=x.1.2.1):=⟨_,rfl⟩;have c1:wr.cell? ⟨B,1,none⟩=some (.int .i64 m1):=by rw[hm1.out];exact aM o 1 _ rfl
     obtain⟨m2,hm2⟩:∃m:Int,Hid (m=x.1.2.2.1):=⟨_,rfl⟩;have c2:wr.cell? ⟨B,2,none⟩=some (.int .i64 m2):=by rw[hm2.out];exact aM o 2 _ rfl
     obtain⟨m3,hm3⟩:∃m:Int,Hid (m=x.1.2.2.2.1):=⟨_,rfl⟩;have c3:wr.cell? ⟨B,3,none⟩=some (.int .i64 m3):=by rw[hm3.out];exact aM o 3 _ rfl
     obtain⟨m4,hm4⟩:∃m:Int,Hid (m=x.1.2.2.2.2.1):=⟨_,rfl⟩;have c4:wr.cell? ⟨B,4,none⟩=some (.int .i64 m4):=by rw[hm4.out];exact aM o 4 _ rfl
     obtain⟨m5,hm5⟩:∃m:Int,Hid (m=x.1.2.2.2.2.2):=⟨_,rfl⟩;have c5:wr.cell? ⟨B,5,none⟩=some (.int .i64 m5):=by rw[hm5.out];exact aM o 5 _ rfl
     have c6:wr.cell? ⟨B,6,none⟩=some (.slice a6 n6 k6):=aM o 6 _ rfl;have c7:wr.cell? ⟨B,7,none⟩=some (.slice a7 n7 k7):=aM o 7 _ rfl;have c8:wr.cell? ⟨B,8,none⟩=some (.slice a8 n8 k8):=aM o 8 _ rfl;obtain⟨m9,hm9⟩:∃m:Int,Hid (m=x.2.2.2.1):=⟨_,rfl⟩;have c9:wr.cell? ⟨B,9,none⟩=some (.int .i64 m9):=by rw[hm9.out];exact aM o 9 _ rfl
     have c10:wr.cell? ⟨B,10,none⟩=some (.slice M n10 k10):=aM o 10 _ rfl;have c11:wr.cell? ⟨B,11,none⟩=some (.slice N n11 k11):=aM o 11 _ rfl;have c12:wr.cell? ⟨B,12,none⟩=some (.slice (some ⟨b,0,none⟩) (gc x).length cap):=aM o 12 _ rfl;have c13:wr.cell? ⟨B,13,none⟩=some (.slice O n13 k13):=aM o 13 _ rfl;have c14:wr.cell? ⟨B,14,none⟩=some (.slice Q n14 k14):=aM o 14 _ rfl;have c15:wr.cell? ⟨B,15,none⟩=some (.slice S n15 k15):=aM o 15 _ rfl;obtain⟨m16,y⟩:∃m:Int,Hid (m=x.2.2.2.2.2.2.2.2.2.2):=⟨_,rfl⟩;have c16:wr.cell? ⟨B,16,none⟩=some (.int .i64 m16):=by rw[y.out];exact aM o 16 _ rfl
     obtain⟨d0,y0⟩:∃v,wr.cell? ⟨B+1,0,none⟩=some v:=⟨_,aM d 0 _ (ak (by omega))⟩;obtain⟨d1,y1⟩:∃v,wr.cell? ⟨B+1,1,none⟩=some v:=⟨_,aM d 1 _ (ak (by omega))⟩;obtain⟨d2,y2⟩:∃v,wr.cell? ⟨B+1,2,none⟩=some v:=⟨_,aM d 2 _ (ak (by omega))⟩;obtain⟨d3,y3⟩:∃v,wr.cell? ⟨B+1,3,none⟩=some v:=⟨_,aM d 3 _ (ak (by omega))⟩;obtain⟨d4,y4⟩:∃v,wr.cell? ⟨B+1,4,none⟩=some v:=⟨_,aM d 4 _ (ak (by omega))⟩;obtain⟨d5,y5⟩:∃v,wr.cell? ⟨B+1,5,none⟩=some v:=⟨_,aM d 5 _ (ak (by omega))⟩;obtain⟨d6,y6⟩:∃v,wr.cell? ⟨B+1,6,none⟩=some v:=⟨_,aM d 6 _ (ak (by omega))⟩;obtain⟨d7,y7⟩:∃v,wr.cell? ⟨B+1,7,none⟩=some v:=⟨_,aM d 7 _ (ak (by omega))⟩;obtain⟨d8,y8⟩:∃v,wr.cell? ⟨B+1,8,none⟩=some v:=⟨_,aM d 8 _ (ak (by omega))⟩;obtain⟨d9,y9⟩:∃v,wr.cell? ⟨B+1,9,none⟩=some v:=⟨_,aM d 9 _ (ak (by omega))⟩;obtain⟨d10,y10⟩:∃v,wr.cell? ⟨B+1,10,none⟩=some v:=⟨_,aM d 10 _ (ak (by omega))⟩;obtain⟨d11,y11⟩:∃v,wr.cell? ⟨B+1,11,none⟩=some v:=⟨_,aM d 11 _ (ak (by omega))⟩;obtain⟨d12,y12⟩:∃v,wr.cell? ⟨B+1,12,none⟩=some v:=⟨_,aM d 12 _ (ak (by omega))⟩;obtain⟨d13,y13⟩:∃v,wr.cell? ⟨B+1,13,none⟩=some v:=⟨_,aM d 13 _ (ak (by omega))⟩;obtain⟨d14,y14⟩:∃v,wr.cell? ⟨B+1,14,none⟩=some v:=⟨_,aM d 14 _ (ak (by omega))⟩;obtain⟨d15,y15⟩:∃v,wr.cell? ⟨B+1,15,none⟩=some v:=⟨_,aM d 15 _ (ak (by omega))⟩;obtain⟨d16,y16⟩:∃v,wr.cell? ⟨B+1,16,none⟩=some v:=⟨_,aM d 16 _ (ak (by omega))⟩;have f0:wr.frozen? ⟨B+1,0,none⟩=false:=bC d 0;have f1:wr.frozen? ⟨B+1,1,none⟩=false:=bC d 1;have f2:wr.frozen? ⟨B+1,2,none⟩=false:=bC d 2;have f3:wr.frozen? ⟨B+1,3,none⟩=false:=bC d 3;have f4:wr.frozen? ⟨B+1,4,none⟩=false:=bC d 4;have f5:wr.frozen? ⟨B+1,5,none⟩=false:=bC d 5;have f6:wr.frozen? ⟨B+1,6,none⟩=false:=bC d 6;have f7:wr.frozen? ⟨B+1,7,none⟩=false:=bC d 7;have f8:wr.frozen? ⟨B+1,8,none⟩=false:=bC d 8;have f9:wr.frozen? ⟨B+1,9,none⟩=false:=bC d 9;have f10:wr.frozen? ⟨B+1,10,none⟩=false:=bC d 10;have f11:wr.frozen? ⟨B+1,11,none⟩=false:=bC d 11;have f12:wr.frozen? ⟨B+1,12,none⟩=false:=bC d 12;have f13:wr.frozen? ⟨B+1,13,none⟩=false:=bC d 13;have f14:wr.frozen? ⟨B+1,14,none⟩=false:=bC d 14;have f15:wr.frozen? ⟨B+1,15,none⟩=false:=bC d 15;have f16:wr.frozen? ⟨B+1,16,none⟩=false:=bC d 16;have aiE:Hid _:=d;clear o d X
     gi_wp2
     have agk:(wr.setCells (B+1) 0 [.int .i64 m0,.int .i64 m1,.int .i64 m2,.int .i64 m3,.int .i64 m4,.int .i64 m5,.slice a6 n6 k6,.slice a7 n7 k7,.slice a8 n8 k8,.int .i64 m9,.slice M n10 k10,.slice N n11 k11,.slice (some ⟨b,0,none⟩) (gc x).length cap,.slice O n13 k13,.slice Q n14 k14,.slice S n15 k15,.int .i64 m16]).heap[B+1]? =some (.cells _ 62 (0,0)):=O9 aiE.out hcr
     obtain⟨hx1,hx2⟩:=abR hxw (by omega) prf [.int .i64 m0,.int .i64 m1,.int .i64 m2,.int .i64 m3,.int .i64 m4,.int .i64 m5,.slice a6 n6 k6,.slice a7 n7 k7,.slice a8 n8 k8,.int .i64 m9,.slice M n10 k10,.slice N n11 k11,.slice (some ⟨b,0,none⟩) (gc x).length cap,.slice O n13 k13,.slice Q n14 k14,.slice S n15 k15,.int .i64 m16];refine⟨rfl,_,results_cell_row hfr _ _ (B+1) 62 _ (0,0) _ rfl agk Tryz.underlying62 rfl (by kernel_rfl),?_⟩;rw[←hR];refine⟨_,rfl,hx1,_,rfl,?_⟩;rw[hm0.out,hm1.out,hm2.out,hm3.out,hm4.out,hm5.out,hm9.out,y.out];rw[hm0.out,hm1.out,hm2.out,hm3.out,hm4.out,hm5.out,hm9.out,y.out]at hx2;exact hx2
end Tryz
end Go.Proofs
namespace Go.Proofs
open Go.RowKit Go.Shelf Go.Am
attribute [local go_sem] Oper.semAt_some
namespace Tryz
theorem Nd{f:FuncId}{τ:Ty}{bt:Nat}(u:n5 Tryz.prog f ⟨[.sl τ],τ,fun x=>app bt [] x⟩)(w:bt≤1000)(I:τ.bH=true){l:List τ.den}(B:ac l≤1000000000){W:World}{Z:bj}(F:∀b i,Z b i→b<W.heap.size){v:Value}(E:PR W Z aI (.sl τ) l [v]):
  Calls Tryz.prog f #[v] W fun e d=>∃a n c,e= .returned (.slice a n c)∧W.Extends d∧PR d (fun b i=>Z b i∨(W.heap.size≤b∧b<d.heap.size)) aI (.sl τ) l [.slice a n c]:=by
 have g:app bt [] l=some l:=by
  unfold app;have:ac l*bt≤1000000000*1000:=aT B w;rw[if_pos]
  ·rfl
  ·unfold room;simp;omega
 refine(u.calls W Z aI l l [v] F (fun b i h=>h.elim) ⟨v,rfl,E⟩ g).mono fun e d ⟨p,J,y,j,D,_⟩=> ?_;have o:PR d (fun b i=>Z b i∨(W.heap.size≤b∧b<d.heap.size)) aI (.sl τ) l [p]:=PR.mono (fun b i z=>⟨z.imp id fun h=>⟨h.1,h.2.1⟩,rfl⟩) (bQ.refl _ _) _ _ _ D;obtain⟨a,c,H,k,q,r,t⟩:=o;have k:p= .slice a (ac l) c:=by injection k
 subst k;exact⟨a,_,c,y,j,a,c,H,rfl,q,r,t⟩
set_option maxRecDepth 100000 in
set_option maxHeartbeats 4000000 in
theorem Ud(w:World)(c0 K L M N O P Q d g h i j k l:Value)(a6 a7:Option Addr)(n6 q t r:Nat)(P6 P7:World→World→Value→Prop)(R:Ending→World→Prop)
  (h6:∀W:World,w.Extends W→Calls Tryz.prog 143 #[.slice a6 n6 q] W fun e T=>∃a n c,e= .returned (.slice a n c)∧W.Extends T∧P6 W T (.slice a n c))
  (h7:∀W:World,w.Extends W→Calls Tryz.prog 144 #[.slice a7 t r] W fun e T=>∃a n c,e= .returned (.slice a n c)∧W.Extends T∧P7 W T (.slice a n c))
  (x:∀(y W5 W6:World) (z D:Option Addr) (I F J H:Nat) (x0 t8 t9 t10 t11 t12 t13 t14 t15 t16 t17 t18 t19:Value),w.Extends y→y.heap.size=w.heap.size+2→y.Extends W5→W5.Extends W6→P6 y W5 (.slice z I F)→P7 W5 W6 (.slice D J H)→
   W6.heap[w.heap.size]? =some (.cells #[c0,K,L,M,N,O,.slice a6 n6 q,.slice a7 t r,P,Q,d,g,h,i,j,k,l] 62)→W6.heap[w.heap.size+1]? =some (.cells #[.int .i64 0,.int .i64 0,.int .i64 0,.int .i64 0,.int .i64 0,.int .i64 0,.slice none 0 0,.slice none 0 0,.slice none 0 0,.int .i64 0,.slice none 0 0,.slice none 0 0,.slice none 0 0,.slice none 0 0,.slice none 0 0,.slice none 0 0,.int .i64 0] 62)→
   V7.wpIn Fence.wide 5 Tryz.prog (bodyPost Tryz.prog Tryz.f89 R)
    { tmps:= #[x0,.pointer (some ⟨w.heap.size,0,none⟩),.pointer (some ⟨w.heap.size+1,0,none⟩),undef,undef,undef,undef,undef,t8,t9,t10,t11,t12,t13,t14,t15,t16,t17,t18,t19,
     undef,undef,undef,undef,undef,undef,undef,undef,undef,undef,undef,undef,undef,undef,undef,undef,undef,undef,undef,undef,undef,undef,undef,undef,undef,undef,undef,undef,undef,undef,
     undef,undef,undef,undef,undef,undef,undef,undef,undef,undef,undef,undef,undef,undef,undef,undef,undef,undef,undef,undef,undef,undef,undef,undef,undef,undef,undef,undef,undef,undef,
     undef,undef,undef,undef,undef,undef,undef,undef,undef],defers:=[] } ((W6.setCell ⟨w.heap.size,6,none⟩ (.slice z I F)).setCell ⟨w.heap.size,7,none⟩ (.slice D J H))):
  Calls Tryz.prog 89 #[.agg #[c0,K,L,M,N,O,.slice a6 n6 q,.slice a7 t r,P,Q,d,g,h,i,j,k,l]] w R:=by
 refine(callsIn_wide (n:=5)).1 ?_;refine callsIn_of_wp Tryz.func89 rfl trivial ?_ rfl;simp only[Tryz.ntmps89,cu,ca,cH,Nat.reduceAdd,Nat.reduceSub,Array.replicate_succ,Array.replicate_zero,List.push_toArray,List.append_toArray,ct,cK];have E:Hid _:=x;clear x
 gi_wp2
 obtain⟨B,V⟩:∃B,w.heap.size=B:=⟨_,rfl⟩;have x1:=((World.Extends.refl w).alloc (.cells #[c0,K,L,M,N,O,.slice a6 n6 q,.slice a7 t r,P,Q,d,g,h,i,j,k,l] 62)).alloc (.cells #[.int .i64 0,.int .i64 0,.int .i64 0,.int .i64 0,.int .i64 0,.int .i64 0,.slice none 0 0,.slice none 0 0,.slice none 0 0,.int .i64 0,.slice none 0 0,.slice none 0 0,.slice none 0 0,.slice none 0 0,.slice none 0 0,.slice none 0 0,.int .i64 0] 62);have U:=QF (o:=(.cells #[.int .i64 0,.int .i64 0,.int .i64 0,.int .i64 0,.int .i64 0,.int .i64 0,.slice none 0 0,.slice none 0 0,.slice none 0 0,.int .i64 0,.slice none 0 0,.slice none 0 0,.slice none 0 0,.slice none 0 0,.slice none 0 0,.slice none 0 0,.int .i64 0] 62)) (BN w (.cells #[c0,K,L,M,N,O,.slice a6 n6 q,.slice a7 t r,P,Q,d,g,h,i,j,k,l] 62));have b2:=BN (w.alloc (.cells #[c0,K,L,M,N,O,.slice a6 n6 q,.slice a7 t r,P,Q,d,g,h,i,j,k,l] 62)) (.cells #[.int .i64 0,.int .i64 0,.int .i64 0,.int .i64 0,.int .i64 0,.int .i64 0,.slice none 0 0,.slice none 0 0,.slice none 0 0,.int .i64 0,.slice none 0 0,.slice none 0 0,.slice none 0 0,.slice none 0 0,.slice none 0 0,.slice none 0 0,.int .i64 0] 62);have e2:(w.alloc (.cells #[c0,K,L,M,N,O,.slice a6 n6 q,.slice a7 t r,P,Q,d,g,h,i,j,k,l] 62)).heap.size=B+1:=by rw[heap_alloc,Array.size_push,V]
 have e3:((w.alloc (.cells #[c0,K,L,M,N,O,.slice a6 n6 q,.slice a7 t r,P,Q,d,g,h,i,j,k,l] 62)).alloc (.cells #[.int .i64 0,.int .i64 0,.int .i64 0,.int .i64 0,.int .i64 0,.int .i64 0,.slice none 0 0,.slice none 0 0,.slice none 0 0,.int .i64 0,.slice none 0 0,.slice none 0 0,.slice none 0 0,.slice none 0 0,.slice none 0 0,.slice none 0 0,.int .i64 0] 62)).heap.size=B+2:=by rw[heap_alloc,Array.size_push,e2]
 rw[e2]at b2;rw[V]at U;generalize hW1:((w.alloc (.cells #[c0,K,L,M,N,O,.slice a6 n6 q,.slice a7 t r,P,Q,d,g,h,i,j,k,l] 62)).alloc (.cells #[.int .i64 0,.int .i64 0,.int .i64 0,.int .i64 0,.int .i64 0,.int .i64 0,.slice none 0 0,.slice none 0 0,.slice none 0 0,.int .i64 0,.slice none 0 0,.slice none 0 0,.slice none 0 0,.slice none 0 0,.slice none 0 0,.slice none 0 0,.int .i64 0] 62))=y at*;simp only[V];have q6:y.cell? ⟨B,6,none⟩=some (.slice a6 n6 q):=aM U 6 _ rfl;have q7:y.cell? ⟨B,7,none⟩=some (.slice a7 t r):=aM U 7 _ rfl;have hmx:Tryz.prog.follows .mixedOrders=true:=by kernel_rfl
 gi_region_with_o (first
  |(refine⟨trivial,?_⟩;gi_at_call 143;refine(callsIn_wide.2 (h6 _ ?_)).mono ?_;exact x1.drew;rintro e W5 ⟨z,I,F,rfl,b,Z⟩;have S:=aZ (W:=y.drew) b U;have X:=aZ (W:=y.drew) b b2;have r6:W5.cell? ⟨B,6,none⟩=some (.slice a6 n6 q):=aM S 6 _ rfl;have r7:W5.cell? ⟨B,7,none⟩=some (.slice a7 t r):=aM S 7 _ rfl)
  |(refine⟨trivial,?_⟩;gi_at_call 144;refine(callsIn_wide.2 (h7 _ ?_)).mono ?_;exact x1.drew.trans b;rintro e W6 ⟨D,J,H,rfl,p,hp7⟩;have u:=aZ p S;have Y:=aZ p X;have s6:W6.cell? ⟨B,6,none⟩=some (.slice a6 n6 q):=aM u 6 _ rfl;have s7:W6.cell? ⟨B,7,none⟩=some (.slice a7 t r):=aM u 7 _ rfl;have f6:=bC u 6;have f7:=bC u 7))
 all_goals (gi_step;gi_step)
 all_goals (have hh:=E.out y.drew W5 W6 z D I F J H;rw[V]at hh;exact hh _ _ _ _ _ _ _ _ _ _ _ _ _ x1.drew e3 b p Z hp7 u Y)
end Tryz
end Go.Proofs
namespace Go.Am
open Go Go.Proofs
set_option maxRecDepth 100000
def aiF:uJ:=⟨[.sl .str],.str,fun x=>app 16 [] x⟩
theorem abU:n5 Tryz.prog 143 aiF:=mq (X:={ tt:=tt,calls:=[],owns:=[],loops:=[],cN:=[],nt:=8,fuel:=0 }) (fn:=Tryz.f143) (e0:=.str) (eT:=.str) mixed ⟨iX,c0,o0,s0,v0⟩ Tryz.func143 (by kernel_rfl) (by kernel_rfl) (by kernel_rfl) (by decide) fun x l h=>by
 have a:af3 { tt:=tt,calls:=[],owns:=[],loops:=[],cN:=[],nt:=8,fuel:=0 } Tryz.f143 .str [.v false [.sl .str x .nn]]=(app 16 [] x).bind fun l=>some l:=by kernel_rfl
 refine⟨?_,fun b=> ?_⟩
 ·rw[a,h];rfl
 ·subst b
  cases h
  kernel_rfl
def aiG:uJ:=⟨[.sl Y1],Y1,fun x=>app 24 [] x⟩
theorem abV:n5 Tryz.prog 144 aiG:=mq (X:={ tt:=tt,calls:=[],owns:=[],loops:=[],cN:=[],nt:=8,fuel:=0 }) (fn:=Tryz.f144) (e0:=Y1) (eT:=Y1) mixed ⟨iX,c0,o0,s0,v0⟩ Tryz.func144 (by kernel_rfl) (by kernel_rfl) (by kernel_rfl) (by decide) fun x l h=>by
 have a:af3 { tt:=tt,calls:=[],owns:=[],loops:=[],cN:=[],nt:=8,fuel:=0 } Tryz.f144 Y1 [.v false [.sl Y1 x .nn]]=(app 24 [] x).bind fun l=>some l:=by kernel_rfl
 refine⟨?_,fun b=> ?_⟩
 ·rw[a,h];rfl
 ·subst b
  cases h
  kernel_rfl
end Go.Am
namespace Go.Proofs
open Go.RowKit Go.Shelf Go.Am
namespace Tryz
open Go.RowKit Go.Lib
theorem Z7(b off n c:Nat)(a:List Value)(w:World)(H:a.length=n*17)(N:n≤1000000)(F:∀j u,a[j]? =some u→w.cell? ⟨b,off+j,none⟩=some u)(D:∀u∈a,u.oneCell'=true)(I:1≤n):
  Calls Tryz.prog 145 #[.slice (some ⟨b,off,none⟩) n c] w fun e k=>∃b cap cur,e= .returned (.slice (some ⟨b,0,none⟩) n cap)∧w.heap.size≤b∧k.heap[b]? =some (.cells cur 26 (0,0))∧cur.toList.take (n*17)=a∧n≤cap∧w.Extends k:=by
 have d:=adY
 cases i:Tryz.prog.info? 26 with
 |none=>rw[i]at d;cases d
 |some r=>
  rw[i]at d
  cases l:r.zero with
  |none=>rw[Option.map_some,l]at d;cases d
  |some z=>
   rw[Option.map_some,l]at d;simp only[Option.map_some,Option.some.injEq,Prod.mk.injEq]at d;obtain⟨t,o,x⟩:=d;have K:∀w,(Go.sizeOf 26).run Tryz.prog w= .ok 17 w:=fun w=>by simp[Go.sizeOf,typeInfo,i,o]
   refine(AnyE.slices_Clone Tryz.Z6 r z 17 280 i l o x t (by decide) K b off n c a w H (by unfold maxLen;omega) (by omega) F D).mono ?_;rintro e k ⟨O,rfl,h,J,E⟩;obtain⟨g1,⟨p,q⟩|⟨g,cap,cur,rfl,p,q,y,L,M,B⟩⟩:=h
   ·omega
   ·exact⟨g,cap,cur,rfl,p,q,B,y,QG E⟩
theorem ad4(g:World)(d:bj)(l:List Int)(a:Option Addr)(n k:Nat)(o:∀c i,d c i→c<g.heap.size)(j:PR g d aI T8 l [.slice a n k])(h:ac l≤1000000000):
 Calls Tryz.prog 146 #[.slice a n k] g fun e b=>∃a n c,e= .returned (.slice a n c)∧g.Extends b∧PR b (E4 d g b) aI T8 l [.slice a n c]:=Nd (τ:=.int .i8) (bt:=1) Xe (by decide) rfl h o j
theorem Ue(w:World)(Z Zp:bj)(x:gJ.den)(us:List Value)(q:∀b i,Z b i→b<w.heap.size)(hp:PR w Z Zp gJ x us)(G:OG x):
  Calls Tryz.prog 89 #[.agg us.toArray] w fun e w'=>∃v,e= .returned v∧w.Extends w'∧zl w' (w7 Z w w') aI [gJ] x v:=by
 have hp:=PR.bH (Hm:=aI) gJ x us rfl hp;obtain⟨v6,v7,v8,O,P,v12,Q,R,S,rfl,h6,h7,h8,Y,h11,h12,h13,h14,h15⟩:=T7.1 hp;obtain⟨a6,n6,k6,rfl⟩:=cU h6;obtain⟨a7,n7,k7,rfl⟩:=cU h7;obtain⟨H,d,U,y,amk,B,hat⟩:=h12;obtain⟨n,I⟩:∃n,Hid (n=(gc x).length):=⟨_,rfl⟩;have y:v12= .slice H n d:=by rw[I.out];injection y
 subst y;have z:U.length=n*17:=by rw[I.out];exact bY.length (fun x es hh=>PR.length cq x es hh) _ _ B
 have hn1:1≤n:=by rw[I.out];exact G.L1
 have hn2:n≤1000000:=by rw[I.out];exact G.L2
 obtain⟨X,N,rfl,r⟩:=hat (by intro h;rw[h]at z;simp at z;omega);have l:∀W:World,w.Extends W→bQ w W Z Z:=fun W e c i a=>⟨a,e.cell _ (q c i a)⟩;refine Ud w _ _ _ _ _ _ _ _ _ _ _ _ _ _ _ a6 a7 n6 k6 n7 k7 (fun W t v=>PR t (E4 Z W t) aI (.sl .str) x.2.1.1 [v]) (fun W t v=>PR t (E4 Z W t) aI MP x.2.1.2 [v]) _
  (fun W e=>(Nd (τ:=.str) (bt:=16) abU (by decide) rfl G.n6 (fun c i a=>bi (q c i a) e.size) (au (l W e) h6)).mono fun e t h=>h)
  (fun W e=>(Nd (τ:=Y1) (bt:=24) abV (by decide) rfl G.n7 (fun c i a=>bi (q c i a) e.size) (au (l W e) h7)).mono fun e t h=>h) ?_
 intro W1 W5 W6 E F L J M K x0 t8 t9 t10 t11 t12 t13 t14 t15 t16 t17 t18 t19 f1 f2 f3 f4 f5 f6 f7 f8;obtain⟨g,k⟩:∃g,(W6.setCell ⟨w.heap.size,6,none⟩ (.slice E L J)).setCell ⟨w.heap.size,7,none⟩ (.slice F M K)=g:=⟨_,rfl⟩;have s7:g.heap.size=W6.heap.size:=by rw[←k];simp
 have s5:=f3.size;have s6:=f4.size;have x6:w.Extends W6:=(f1.trans f3).trans f4;have V:w.Extends g:=by rw[←k];exact mu (mu x6 (av _) _ _) (av _) _ _
 let T:bj:=fun c i=>Z c i∨(w.heap.size+2≤c∧c<W6.heap.size)
 have o:∀c,c≠w.heap.size→g.heap[c]? =W6.heap[c]? :=fun c a=>by rw[←k,cY _ _ a,cY _ _ a]
 have D:bQ w g Z T:=fun c i a=>⟨.inl a,V.cell _ (q c i a)⟩;have k5:bQ W5 g (E4 Z W1 W5) T:=fun c i a=>by
  have p:c<W5.heap.size∧c≠w.heap.size:=by
   rcases a with a |a
   ·have:=q c i a;omega
   ·omega
  exact⟨a.imp id fun h=>⟨by omega,by omega⟩,(aL (o c p.2)).trans (f4.cell _ p.1)⟩
 have k6b:bQ W6 g (E4 Z W5 W6) T:=fun c i a=>by
  have p:c≠w.heap.size:=by
   rcases a with a |a
   ·have:=q c i a;omega
   ·omega
  exact⟨a.imp id fun h=>⟨by omega,h.2⟩,aL (o c p)⟩
 have hBh:g.heap[w.heap.size]? =some (.cells (HH x (.slice E L J) (.slice F M K) v8 O P (.slice (some ⟨X,N,none⟩) n d) Q R S).toArray 62 (0,0)):=by
  rw[←k];exact eN (eN f7 _ _) _ _
 have hRh:=(o (w.heap.size+1) (by omega)).trans f8;rw[k];refine abT w g Z T x w.heap.size x0 _ _ v8 O P Q R S t8 t9 t10 t11 t12 t13 t14 t15 t16 t17 t18 t19 _ n d U _ Tryz.f89 rfl G I V (fun c i a=> ?_) (av _) q hBh hRh rfl (au k5 f5) (au k6b f6) (au D h8) (au D Y) (au D h11) (au D h13) (au D h14) (au D h15) (gv D B) ?_ ad4
 ·have hxs:=V.size;rcases a with a |a
  ·have:=q c i a;exact⟨by omega,by omega,by omega,.inl a⟩
  ·exact⟨by omega,by omega,by omega,.inr (by omega)⟩
 ·exact Z7 X N n d U g z hn2 (fun j u hj=>(V.cell _ (q X _ (r j u hj).2)).trans (r j u hj).1) (LX (gc x) U B) hn1
theorem RO:ar Tryz.prog 89 ⟨[gJ],[gJ],RG⟩:=by
 refine⟨⟨f89,func89,by kernel_rfl,by kernel_rfl⟩,rfl,fun w Z g x r c L M I e=> ?_⟩;obtain⟨v,rfl,N,rfl,J⟩:=I;have e:RG x=some r:=e;unfold RG at e;rcases rr e with⟨d,e⟩|⟨_,e⟩
 ·cases e;simp only[ah,decide_eq_true_eq,qh,bR]at d;obtain⟨⟨⟨⟨⟨⟨⟨⟨⟨⟨g1,t⟩,u⟩,z⟩,B⟩,D⟩,E⟩,F⟩,H⟩,a⟩,b⟩:=d;refine Ue w Z g x N L J ⟨g1,t,u,z,B,F,H,a,D,E,fun y K=> ?_⟩;obtain⟨⟨⟨⟨⟨⟨⟨⟨h,i⟩,j⟩,k⟩,l⟩,n⟩,o⟩,p⟩,q⟩:=b y K;exact⟨h,i,j,k,l,n,o,p,q⟩
 ·cases e
end Tryz
end Go.Proofs
