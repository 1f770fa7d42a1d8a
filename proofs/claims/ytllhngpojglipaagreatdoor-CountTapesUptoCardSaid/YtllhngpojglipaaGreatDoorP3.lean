import Derived.Test.YtllhngpojglipaaGreatDoorP2
import Derived.Test.YtllhngpojglipaaGreatDoorA3
set_option linter.unusedVariables false
set_option linter.unusedSimpArgs false
open Array renaming toList→ej
open Bool renaming and_eq_true→ak,not_eq_true'→aZ,not_eq_true→ew,not_true→aY,or_eq_true→aD
open Int renaming ediv_emod_unique→afu,emod_lt_of_pos→dz,emod_nonneg→e9,mul_ediv_add_emod→dN,mul_le_mul_of_nonneg_right→bP,toNat_natCast→ax
open Go.IntKind renaming i64→bz,wrap→ae
open List renaming drop_eq_getElem_cons→bi,drop_of_length_le→bA,drop_zero→dy,getD_eq_getElem?_getD→aB,getElem?_eq_getElem→ai,getElem?_eq_none→bd,getElem_mem→am,getElem_of_mem→aM,length_cons→bg,length_nil→dr,map_append→eu,mem_cons_of_mem→aG,mem_cons_self→aH,mem_of_mem_take→cS,take_add_one→dK,take_length→ch,take_zero→eW,toArray→aeZ
open Nat renaming le_mul_of_pos_right→cy,le_refl→az,mul_le_mul_right→cv,mul_le_mul→bD
open Option renaming bind_some→aa
namespace Go.Am.Pu
open Go Go.Am
structure arA (b:FP):Prop where
 g1:b.1.length≤1000000000
 q:b.2.1.length≤1000000000
 k:b.2.2.1.length≤1000000000
 v:b.2.2.2.1.length≤1000000000
 o:b.2.2.2.2.1.length≤1000000000
 g2:b.2.2.2.2.2.1.length≤1000000000
 m1:b.2.2.2.2.2.2.2.2.2.2.2.1.length≤1000000000
 m2:b.2.2.2.2.2.2.2.2.2.2.2.2.1.length≤1000000000
 m3:b.2.2.2.2.2.2.2.2.2.2.2.2.2.1.length≤1000000000
theorem atU{l:List Int}{b:Nat}(h:l.length≤1000000000:=by omega)(a:b≤1000:=by omega):app b [] l=some l:=by
 unfold app;rw[if_pos]
 ·rfl
 ·have:l.length*b≤1000000000*1000:=bD h a;unfold room;simp;omega
theorem cP{n:Nat}{l:List Int}(h:l.length≤1000000000:=by omega):bE n l=some l:=by
 rw[acO,atU h (by omega)];rfl
noncomputable def vh(b:FP)(f:P6):List (List Int)→kq→List (List Int)→Int⊕(kq×List (List Int))
 |[],all,a=> .inr (all,a)
 |x::c,all,a=>
  if(aaZ b f x (all.length:Int)).2≠0 then .inl (aaZ b f x (all.length:Int)).2 else
  if(MM b f x (all++[(aaZ b f x (all.length:Int)).1])).2≠0 then .inl (MM b f x (all++[(aaZ b f x (all.length:Int)).1])).2 else
  vh b f c (all++[(aaZ b f x (all.length:Int)).1]) (a++[(MM b f x (all++[(aaZ b f x (all.length:Int)).1])).1])
noncomputable def Bm(b:FP)(f:P6)(xs:List (List Int))(aQ:kq):List (List Int)×kq×Int:=
 match vh b f xs aQ []with
 |.inl e=>([],[],e)
 |.inr r=>(r.2,r.1.drop aQ.length,0)
theorem Wp{b:FP}{f:P6}{x:List Int}{p:Int}:bh (aaZ b f x p).1.1∧bh (aaZ b f x p).1.2:=by
 have a:bh []:=fun x c=>(by cases c);unfold aaZ;simp only
 split
 ·exact⟨a,a⟩
 ·split
  ·exact⟨a,a⟩
  ·split
   ·exact⟨a,a⟩
   ·split
    ·exact⟨a,a⟩
    ·exact⟨Ls.bh,jG.bh⟩
theorem PS{b:FP}{f:P6}:∀{xs:List (List Int)} {all:kq} {out:List (List Int)} {r:kq×List (List Int)},vh b f xs all out= .inr r→r.1.length=all.length+xs.length∧r.2.length=out.length+xs.length∧all<+:r.1∧((∀p∈all,bh p.1∧bh p.2)→∀p∈r.1,bh p.1∧bh p.2)∧((∀y∈out,ir y)→∀y∈r.2,ir y):=by
 intro xs
 induction xs with
 |nil=>
  intro all out r h;simp only[vh,Sum.inr.injEq]at h;subst h;exact⟨by simp,by simp,List.prefix_rfl,fun h=>h,fun h=>h⟩
 |cons x xs l=>
  intro all out r h;simp only[vh]at h
  split at h
  ·cases h
  ·split at h
   ·cases h
   ·obtain⟨e,g,i,j,k⟩:=l h;refine⟨by simp at e ⊢;omega,by simp at g ⊢;omega,(List.prefix_append _ _).trans i,fun d=>j ?_,fun d=>k ?_⟩
    ·intro p a;rcases List.mem_append.1 a with a |a
     ·exact d p a
     ·rw[List.mem_singleton.1 a];exact Wp
    ·intro y c;rcases List.mem_append.1 c with c |c
     ·exact d y c
     ·rw[List.mem_singleton.1 c];exact arz
theorem aaI{n:Nat}{aQ:kq}{xs:List (List Int)}{o0 o1 o2 o3 u w:List Int}{y z B D a:Int}{b c d:List Int}{g h ZJ:Int}{f0:Int}{f1 f2 f3:List Int}(N:OkB (o0,o1,o2,o3,u,w,y,z,B,D,a,b,c,d,g,h,ZJ))(O:OkF (f0,f1,f2,f3))(j:∀x∈xs,ir x∧x.length≤1000000000)(V:xs.length≤1000000000)(P:Hn0 n):
  ∀(m k i:Nat) (all:kq) (out:List (List Int)),i+m=xs.length→m<k→(∀p∈all,bh p.1∧bh p.2)→all.length+m≤1000000000→out.length+m≤1000000000→
  sK n k (aQ,(),(),all,out,xs,(xs.length:Int),(i:Int),(o0,o1,o2,o3,u,w,y,z,B,D,a,b,c,d,g,h,ZJ),(f0,f1,f2,f3),())=
   some (match vh (o0,o1,o2,o3,u,w,y,z,B,D,a,b,c,d,g,h,ZJ) (f0,f1,f2,f3) (xs.drop i) all out with |.inl e=>Sum.inl ([],([],(e,())))|.inr r=>Sum.inr (aQ,(r.1,(r.2,())))):=by
 intro m
 induction m with
 |zero=>
  intro k i all out Q S _ _ _;obtain⟨k,rfl⟩:=gU k;rw[CA,bN0,bA (by omega)];rfl
 |succ m W=>
  intro k i all out Q S T X Y;obtain⟨k,rfl⟩:=gU k;have J:i<xs.length:=by omega
  obtain⟨x,L⟩:∃x,x=xs[i]:=⟨_,rfl⟩;have l:x∈xs:=by rw[L];exact am J
  rw[CA,bP0,bj J,←L,bi J,←L];simp only[aa,vh];rw[anp N O (j x l).2 P];simp only[aa,ag,bne_iff_ne];obtain⟨K,M⟩:∃K,K=aaZ (o0,o1,o2,o3,u,w,y,z,B,D,a,b,c,d,g,h,ZJ) (f0,f1,f2,f3) x (all.length:Int):=⟨_,rfl⟩;have H:bh K.1.1∧bh K.1.2:=by rw[M];exact Wp
  rw[←M]
  by_cases E:K.2≠0
  ·rw[if_pos E,if_pos E]
  rw[if_neg E,if_neg E];have I:app 48 all [K.1]=some (all++[K.1]):=by
   unfold app;rw[if_pos (by unfold room;simp;omega)]
  have o:∀p∈all++[K.1],bh p.1∧bh p.2:=by
   intro p t;rcases List.mem_append.1 t with t |t
   ·exact T p t
   ·rw[List.mem_singleton.1 t];exact H
  rw[I];simp only[aa];rw[apH N O (j x l).1 (j x l).2 o (by simp;omega) P];simp only[aa];obtain⟨R,U⟩:∃R,R=MM (o0,o1,o2,o3,u,w,y,z,B,D,a,b,c,d,g,h,ZJ) (f0,f1,f2,f3) x (all++[K.1]):=⟨_,rfl⟩;rw[←U]
  by_cases F:R.2≠0
  ·rw[if_pos F,if_pos F]
  rw[if_neg F,if_neg F];have q:app 24 out [R.1]=some (out++[R.1]):=by
   unfold app;rw[if_pos (by unfold room;simp;omega)]
  rw[q];simp only[aa];rw[aN];exact W k (i+1) (all++[K.1]) (out++[R.1]) (by omega) (by omega) o (by simp;omega) (by simp;omega)
theorem ant{n:Nat}{b:FP}{f:P6}{xs:List (List Int)}{aQ:kq}(t:OkB b)(u:OkF f)(d:∀x∈xs,ir x∧x.length≤1000000000)(y:∀p∈aQ,bh p.1∧bh p.2)(O:aQ.length+xs.length≤1000000000)(w:Hn0 n):yL n (b,f,xs,aQ)=some (Bm b f xs aQ):=by
 obtain⟨o0,z,B,D,E,F,H,I,J,K,g,h,i,j,k,l,o⟩:=b;obtain⟨f0,f1,f2,f3⟩:=f;rw[ZT];have c:app 48 [] aQ=some aQ:=by
  unfold app;rw[if_pos (by unfold room;simp;omega)];rfl
 rw[c];simp only[aa];have q:=aaI (aQ:=aQ) t u d (by omega) w xs.length n 0 aQ [] (by omega) (by omega) y (by omega) (by simp;omega);rw[Int.natCast_zero,dy]at q;rw[q];unfold Bm;obtain⟨G,a⟩:∃G,G=vh (o0,z,B,D,E,F,H,I,J,K,g,h,i,j,k,l,o) (f0,f1,f2,f3) xs aQ []:=⟨_,rfl⟩;rw[←a]
 match G,a with
 |.inl e,a=>rfl
 |.inr r,a=>
  obtain⟨L,M,N,_⟩:=PS a.symm;simp only[aa,cI];unfold slc;rw[if_pos ⟨by omega,by omega,by omega⟩];simp only[aa,ax,ch]
theorem aaJ{n:Nat}{aQ:kq}{xs:List (List Int)}{o0 o1 o2 o3 u w:List Int}{y z B D a:Int}{b c d:List Int}{g h ZJ:Int}{f0:Int}{f1 f2 f3:List Int}(N:OkB (o0,o1,o2,o3,u,w,y,z,B,D,a,b,c,d,g,h,ZJ))(O:OkF (f0,f1,f2,f3))(j:∀x∈xs,ir x∧x.length≤1000000000)(V:xs.length≤1000000000)(P:Hn0 n):
  ∀(m k i:Nat) (all:kq) (out:List (List Int)),i+m=xs.length→m<k→(∀p∈all,bh p.1∧bh p.2)→all.length+m≤1000000000→out.length+m≤1000000000→
  th n k (aQ,(),(),all,out,xs,(xs.length:Int),(i:Int),(o0,o1,o2,o3,u,w,y,z,B,D,a,b,c,d,g,h,ZJ),(f0,f1,f2,f3),())=
   some (match vh (o0,o1,o2,o3,u,w,y,z,B,D,a,b,c,d,g,h,ZJ) (f0,f1,f2,f3) (xs.drop i) all out with |.inl e=>Sum.inl ([],([],(e,())))|.inr r=>Sum.inr (aQ,(r.1,(r.2,())))):=by
 intro m
 induction m with
 |zero=>
  intro k i all out Q S _ _ _;obtain⟨k,rfl⟩:=gU k;rw[CP,bN0,bA (by omega)];rfl
 |succ m W=>
  intro k i all out Q S T X Y;obtain⟨k,rfl⟩:=gU k;have J:i<xs.length:=by omega
  obtain⟨x,L⟩:∃x,x=xs[i]:=⟨_,rfl⟩;have l:x∈xs:=by rw[L];exact am J
  rw[CP,bP0,bj J,←L,bi J,←L];simp only[aa,vh];rw[anq N O (j x l).2 P];simp only[aa,ag,bne_iff_ne];obtain⟨K,M⟩:∃K,K=aaZ (o0,o1,o2,o3,u,w,y,z,B,D,a,b,c,d,g,h,ZJ) (f0,f1,f2,f3) x (all.length:Int):=⟨_,rfl⟩;have H:bh K.1.1∧bh K.1.2:=by rw[M];exact Wp
  rw[←M]
  by_cases E:K.2≠0
  ·rw[if_pos E,if_pos E]
  rw[if_neg E,if_neg E];have I:app 48 all [K.1]=some (all++[K.1]):=by
   unfold app;rw[if_pos (by unfold room;simp;omega)]
  have o:∀p∈all++[K.1],bh p.1∧bh p.2:=by
   intro p t;rcases List.mem_append.1 t with t |t
   ·exact T p t
   ·rw[List.mem_singleton.1 t];exact H
  rw[I];simp only[aa];rw[apI N O (j x l).1 (j x l).2 o (by simp;omega) P];simp only[aa];obtain⟨R,U⟩:∃R,R=MM (o0,o1,o2,o3,u,w,y,z,B,D,a,b,c,d,g,h,ZJ) (f0,f1,f2,f3) x (all++[K.1]):=⟨_,rfl⟩;rw[←U]
  by_cases F:R.2≠0
  ·rw[if_pos F,if_pos F]
  rw[if_neg F,if_neg F];have q:app 24 out [R.1]=some (out++[R.1]):=by
   unfold app;rw[if_pos (by unfold room;simp;omega)]
  rw[q];simp only[aa];rw[aN];exact W k (i+1) (all++[K.1]) (out++[R.1]) (by omega) (by omega) o (by simp;omega) (by simp;omega)
theorem anu{n:Nat}{b:FP}{f:P6}{xs:List (List Int)}{aQ:kq}(t:OkB b)(u:OkF f)(d:∀x∈xs,ir x∧x.length≤1000000000)(y:∀p∈aQ,bh p.1∧bh p.2)(O:aQ.length+xs.length≤1000000000)(w:Hn0 n):y7 n (b,f,xs,aQ)=some (Bm b f xs aQ):=by
 obtain⟨o0,z,B,D,E,F,H,I,J,K,g,h,i,j,k,l,o⟩:=b;obtain⟨f0,f1,f2,f3⟩:=f;rw[aak];have c:app 48 [] aQ=some aQ:=by
  unfold app;rw[if_pos (by unfold room;simp;omega)];rfl
 rw[c];simp only[aa];have q:=aaJ (aQ:=aQ) t u d (by omega) w xs.length n 0 aQ [] (by omega) (by omega) y (by omega) (by simp;omega);rw[Int.natCast_zero,dy]at q;rw[q];unfold Bm;obtain⟨G,a⟩:∃G,G=vh (o0,z,B,D,E,F,H,I,J,K,g,h,i,j,k,l,o) (f0,f1,f2,f3) xs aQ []:=⟨_,rfl⟩;rw[←a]
 match G,a with
 |.inl e,a=>rfl
 |.inr r,a=>
  obtain⟨L,M,N,_⟩:=PS a.symm;simp only[aa,cI];unfold slc;rw[if_pos ⟨by omega,by omega,by omega⟩];simp only[aa,ax,ch]
theorem apK{α:Type}{l:List α}{i:Nat}(h:i<l.length):l.take i++[l[i]]=l.take (i+1):=by
 rw[dK,ai h];rfl
theorem FC{α:Type}{l:List α}{i b:Nat}(h:i<l.length)(d:l.length≤1000000000)(c:b≤1000):app b (l.take i) [l[i]]=some (l.take (i+1)):=by
 unfold app;have:(i+1)*b≤1000000000*1000:=bD (by omega) c;have a:(l.take i).length=i:=by simp;omega
 rw[apK h,if_pos];rw[a];exact⟨by unfold room;simp;omega,by unfold room;simp;omega⟩
theorem ahh{x y d:Int}(g:1≤d)(h:x≤y):uE x d≤uE y d:=by
 have b:=dN x d;have j:=dN y d;have k:=e9 x (show d≠0 by omega);have c:=dz x (show 0<d by omega);have l:=e9 y (show d≠0 by omega);have e:=dz y (show 0<d by omega);have i:=Int.ediv_le_ediv (show 0<d by omega) h;unfold uE
 by_cases a:x/d=y/d
 ·rw[a]at b ⊢
  split<;>split<;>omega
 ·split<;>split<;>omega
theorem arB{x d:Int}(g:1≤d):uE (-x) d= -uE x d:=by
 have h:=dN x d;have i:=e9 x (show d≠0 by omega);have e:=dz x (show 0<d by omega)
 by_cases c:x % d=0
 ·obtain⟨a,b⟩:(-x)/d= -(x/d)∧(-x) % d=0:=(afu (by omega)).2 ⟨by rw[Int.mul_neg];omega,by omega,by omega⟩;unfold uE;rw[a,b,c]
  split<;>split<;>omega
 ·obtain⟨a,b⟩:(-x)/d= -(x/d) -1∧(-x) % d=d -x % d:=(afu (by omega)).2 ⟨by rw[Int.mul_sub,Int.mul_neg];omega,by omega,by omega⟩;unfold uE;rw[a,b]
  split<;>split<;>omega
theorem PT{x s:Int}(a:0≤s)(b:s≤62):cq x s=(uE x (2^s.toNat),0):=by
 unfold cq;rw[gk]
theorem apL{x X s:Int}(g: -X≤x)(h:x≤X)(e:0≤s)(c:s≤62): -(cq X s).1≤(cq x s).1∧(cq x s).1≤(cq X s).1:=by
 have d:=(rn (s:=s.toNat) (by omega)).1;rw[PT e c,PT e c];have a:=ahh d g;have b:=ahh d h;rw[arB d]at a;exact⟨a,b⟩
theorem alx{x s:Int}(h:0≤x)(j:0≤s)(e:s≤62):(cq x s).1≤x:=by
 have i:=(rn (s:=s.toNat) (by omega)).1;obtain⟨d,a⟩:∃d:Int,d=2^s.toNat:=⟨_,rfl⟩;rw[PT j e];rw[←a]at i ⊢;have q:=dN x d;have k:=e9 x (show d≠0 by omega);have l:=dz x (show 0<d by omega);have p:=(jz i).1 h;show uE x d≤x;unfold uE
 split
 ·rename_i c
  by_cases b:x/d=x
  ·exfalso
   by_cases g:x=0
   ·rw[g]at c k;simp at c;omega
   ·have n:d=1:=by
     have:d*(x/d)≤x:=by omega
     rw[b]at this
     by_cases o:d≤1
     ·omega
     ·exfalso;have:=bP (show(2:Int)≤d by omega) h;omega
    omega
  ·omega
 ·omega
def i7(x:Int):Int:=if x<0 then -x else x
theorem aly(x:Int):0≤i7 x∧-i7 x≤x∧x≤i7 x:=by
 unfold i7;split<;>omega
def gq(l:List Int):Int:=gn (fun i=>i7 (l.getD i 0)) l.length
theorem ad7{g h:Nat→Int}:∀n,(∀i,i<n→-(h i)≤g i∧g i≤h i)→-(gn h n)≤gn g n∧gn g n≤gn h n
 |0,_=>by simp[gn]
 |n+1,a=>by
  have b:=ad7 n fun i d=>a i (by omega);have c:=a n (by omega);simp only[gn];omega
theorem ad8{h:Nat→Int}(c:Int):∀n,gn (fun i=>c*h i) n=c*gn h n
 |0=>by simp[gn]
 |n+1=>by simp only[gn];rw[ad8 c n,Int.mul_add]
theorem rD.at{l:List Int}(h:rD l)(i:Nat): -127≤l.getD i 0∧l.getD i 0≤127:=by
 by_cases hi:i<l.length
 ·rw[aV hi];exact h _ (am hi)
 ·rw[aB,bd (by omega)];decide
theorem aoF{a b:Int}(c: -127≤b∧b≤127): -(127*i7 a)≤a*b∧a*b≤127*i7 a:=by
 have h:=aly a;have:=ajl (a:=a) (b:=b) (m:=i7 a) (k:=127) ⟨h.2.1,h.2.2⟩ c;omega
theorem arC{r o:List Int}(a:rD o): -(127*gq r)≤xM r o∧xM r o≤127*gq r:=by
 unfold xM gq;rw[←ad8];exact ad7 _ fun i _=>aoF (a.at i)
theorem ahi{l:List Int}(h:bh l):0≤gq l∧gq l≤l.length*128:=by
 unfold gq;refine FA _ fun j _=> ?_;have a:=h.at j;unfold i7
 split<;>omega
theorem ahj{w x:List Int}{c:Nat}(d:w.length≤1048576)(b:1≤c)(hm:w.length % c=0)(hx:x.length=c):kx w (c:Int) x=(Wn w c x,0):=by
 have a:I6 w (c:Int)=0:=by
  unfold I6;rw[gk,gk]
 unfold kx;rw[a,if_neg (by simp),gk,ax]
theorem ahk{l:List Int}{s:Int}(b:l.length≤1048576)(c:0≤s)(a:s≤62):ju l s=(l.map (fun x=>(cq x s).1),0):=by
 unfold ju ak9;rw[if_neg (show ¬ l.length>1048576 by omega),if_neg (by simp),gk]
theorem Hh{w x:List Int}{c:Nat}:(Wn w c x).length=w.length/c:=by simp[Wn]
theorem Db{w h:List Int}{s:Int}{r:Nat}(c:w.length=r*h.length)(i:r*h.length≤1048576)(d:1≤h.length)(g:0≤s)(a:s≤62):(dI w h s).2=0∧(dI w h s).1.length=r:=by
 unfold dI;have b:w.length/h.length=r:=by rw[c];exact Nat.mul_div_cancel _ (by omega)
 have e:r≤1048576:=by
  have:=cy r (show 0<h.length by omega);omega
 rw[ahj (by omega) d (by rw[c];exact Nat.mul_mod_left _ _) rfl];simp only[ne_eq,not_true,if_false];unfold zi;rw[ahk (by rw[Hh,b];exact e) g a];exact⟨rfl,by simp[Hh,b]⟩
theorem aba{x fV:List Int}(g:fV.length=x.length)(d:1≤x.length)(e:x.length≤64)(hx:∀y∈x,-268435456≤y∧y≤268435456):(mO x fV).2=0∧(mO x fV).1.length=x.length:=by
 have c:(fQ x).2=0:=by
  unfold fQ;rw[gk,if_neg];rintro⟨i,b,a⟩;unfold pR at a;rw[aV b]at a;have:=hx _ (am b);omega
 unfold mO;rw[gk,c];simp
structure Lt (D H half C Hd:Nat):Prop where
 d:D=H*(2*half)
 h:1≤half
 hh:1≤H
 dm:D≤64
 c:1≤C
 cm:C≤512
 hd:1≤Hd
 hm:Hd≤256
structure IK (D Hd:Nat) (b:FP):Prop where
 g1:b.1.length=D
 q:b.2.1.length=D*D
 k:b.2.2.1.length=D*D
 v:b.2.2.2.1.length=D*D
 o:b.2.2.2.2.1.length=D*D
 g2:b.2.2.2.2.2.1.length=D
 m1:b.2.2.2.2.2.2.2.2.2.2.2.1.length=Hd*D
 m2:b.2.2.2.2.2.2.2.2.2.2.2.2.1.length=Hd*D
 m3:b.2.2.2.2.2.2.2.2.2.2.2.2.2.1.length=D*Hd
 qs:0≤b.2.2.2.2.2.2.1∧b.2.2.2.2.2.2.1≤31
 ks:0≤b.2.2.2.2.2.2.2.1∧b.2.2.2.2.2.2.2.1≤31
 vs:0≤b.2.2.2.2.2.2.2.2.1∧b.2.2.2.2.2.2.2.2.1≤31
 os:0≤b.2.2.2.2.2.2.2.2.2.1∧b.2.2.2.2.2.2.2.2.2.1≤31
 ss:0≤b.2.2.2.2.2.2.2.2.2.2.1∧b.2.2.2.2.2.2.2.2.2.2.1≤31
 gs:0≤b.2.2.2.2.2.2.2.2.2.2.2.2.2.2.1∧b.2.2.2.2.2.2.2.2.2.2.2.2.2.2.1≤31
 us:0≤b.2.2.2.2.2.2.2.2.2.2.2.2.2.2.2.1∧b.2.2.2.2.2.2.2.2.2.2.2.2.2.2.2.1≤31
 ds:0≤b.2.2.2.2.2.2.2.2.2.2.2.2.2.2.2.2∧b.2.2.2.2.2.2.2.2.2.2.2.2.2.2.2.2≤31
structure ahl (H half C:Nat) (f:P6):Prop where
 h:f.1=(H:Int)
 cos:f.2.1.length=C*half
 sin:f.2.2.1.length=C*half
 fK:f.2.2.2.length=256
theorem Lt.pos{D H half C Hd:Nat}(h:Lt D H half C Hd):2≤D:=by
 have:=bD h.hh (show 2≤2*half by have:=h.h;omega);rw[←h.d]at this;omega
theorem Lt.dd{D H half C Hd:Nat}(h:Lt D H half C Hd):D*D≤4096:=bD h.dm h.dm
theorem Lt.hdd{D H half C Hd:Nat}(h:Lt D H half C Hd):Hd*D≤16384:=bD h.hm h.dm
theorem Lt.hle{D H half C Hd:Nat}(h:Lt D H half C Hd):2*half≤64:=by
 have i:=h.dm;have:=cv (2*half) h.hh;rw[←h.d]at this;omega
theorem ad9{D H half C Hd:Nat}(h:Lt D H half C Hd){f:P6}(a:ahl H half C f){p:Nat}(o:p<C):∃c s,BG f D (p:Int)=(((2*half:Nat):Int),c,s,0)∧c.length=half∧s.length=half:=by
 have j:=h.h;have k:=h.hh;have e:=h.d;have b:D/H=2*half:=by rw[e];exact Nat.mul_div_cancel_left _ (by omega)
 have n:D % H=0:=by rw[e];exact Nat.mul_mod_right _ _
 have g:f.2.1.length/half=C:=by rw[a.cos];exact Nat.mul_div_cancel _ (by omega)
 have i:f.2.2.1.length/half=C:=by rw[a.sin];exact Nat.mul_div_cancel _ (by omega)
 have r1:=zv (l:=f.2.1.length) (half:=half) (p:=p) (by omega);have q:=zv (l:=f.2.2.1.length) (half:=half) (p:=p) (by omega);refine⟨(f.2.1.drop (p*half)).take half,(f.2.2.1.drop (p*half)).take half,?_,by simp;omega,by simp;omega⟩;unfold BG;rw[a.h];simp only[ax];rw[gk,b,gk,show 2*half/2=half by omega,g,i,gk]
theorem arD{x cos sin:List Int}{half:Nat}(h:1≤half)(hx:x.length % (2*half)=0)(a:cos.length=half)(b:sin.length=half):(FB x ((2*half:Nat):Int) cos sin).2=0∧(FB x ((2*half:Nat):Int) cos sin).1.length=x.length:=by
 unfold FB;rw[gk,gk];exact⟨rfl,by simp⟩
theorem aea{D H half C Hd:Nat}(h:Lt D H half C Hd){w hh cos sin:List Int}{s:Int}(i:w.length=D*D)(b:hh.length=D)(e:0≤s)(g:s≤31)(c:cos.length=half)(a:sin.length=half):(lg w hh s ((2*half:Nat):Int) cos sin).2=0∧(lg w hh s ((2*half:Nat):Int) cos sin).1.length=D:=by
 have j:=h.dd;have k:=h.pos;obtain⟨t1,t2⟩:=Db (w:=w) (h:=hh) (s:=s) (r:=D) (by rw[i,b]) (by rw[b];omega) (by omega) e (by omega);unfold lg;rw[t1];simp only[ne_eq,not_true,if_false];rw[←t2];exact arD h.h (by rw[t2,h.d];exact Nat.mul_mod_left _ _) c a
theorem atV{D H half C Hd:Nat}(h:Lt D H half C Hd){b:FP}{f:P6}(a:IK D Hd b)(j:ahl H half C f){x:List Int}(hx:x.length=D)(n:∀y∈x,-268435456≤y∧y≤268435456){p:Nat}(l:p<C):
  (aaZ b f x (p:Int)).2=0∧(aaZ b f x (p:Int)).1.1.length=D∧(aaZ b f x (p:Int)).1.2.length=D∧rD (aaZ b f x (p:Int)).1.1∧rD (aaZ b f x (p:Int)).1.2:=by
 have z:=h.dd;have B:=h.pos;have E:=h.dm;obtain⟨c,s,e,g,i⟩:=ad9 h j l;obtain⟨r1,d⟩:=aba (x:=x) (fV:=b.1) (by rw[a.g1,hx]) (by omega) (by omega) n;obtain⟨o,q⟩:=aea h (w:=b.2.2.1) (hh:=(mO x b.1).1) (s:=b.2.2.2.2.2.2.2.1) (cos:=c) (sin:=s) a.k (by rw[d,hx]) a.ks.1 a.ks.2 g i;obtain⟨t,u⟩:=Db (w:=b.2.2.2.1) (h:=(mO x b.1).1) (s:=b.2.2.2.2.2.2.2.2.1) (r:=D) (by rw[a.v,d,hx]) (by rw[d,hx];omega) (by omega) a.vs.1 (by have:=a.vs.2;omega);unfold aaZ;simp only;rw[hx,e];simp only[ne_eq,not_true,if_false];rw[if_neg (by rw[r1];decide),if_neg (by rw[o];decide),if_neg (by rw[t];decide)];exact⟨rfl,q,u,Ls,jG⟩
theorem ayp{w v:List Int}(e:Good w)(n:rD v): -127≤C7 w v∧C7 w v≤127:=by
 obtain⟨S,d⟩:∃S,S=gn (fun i=>w.getD i 0) w.length:=⟨_,rfl⟩;have l:=e.pos;have b: -(127*S)≤yt w v w.length∧yt w v w.length≤127*S:=by
  rw[d,←ad8];refine ad7 _ fun i _=> ?_;have o:=e.rng i;have c:=aoF (a:=w.getD i 0) (n.at i);have g:i7 (w.getD i 0)=w.getD i 0:=by unfold i7;rw[gk]
  rw[g]at c;exact c
 unfold C7;rw[←d]at l ⊢;obtain⟨P,h⟩:∃P,P=yt w v w.length:=⟨_,rfl⟩;rw[←h]at b ⊢;have k: -127≤(2*P+S)/(2*S):=Int.le_ediv_of_mul_le (by omega) (by omega);have j:(2*P+S)/(2*S)<128:=Int.ediv_lt_of_lt_mul (by omega) (by omega);rw[w8 (by omega) (by omega)];omega
theorem ayq{a:List (List Int)}{c:Nat}(h:∀r∈a,rD r):rD (PO a c):=by
 intro x d;obtain⟨i,b,rfl⟩:=iO d;rw[aV b];exact(h _ (am b)).at c
theorem atW{q:List Int}{a b:List (List Int)}{sz:Nat}{s:Int}{h:Nat}(o:1≤a.length)(p:a.length≤512)(l:∀r∈b,rD r):rD (p5 q a b sz s h):=by
 intro x g;unfold p5 ad2 PP at g;obtain⟨c,t,rfl⟩:=iO g;have j:Good (fp (pK ((q.drop (h*sz)).take sz) (Bl a (h*sz) sz) s)):=by
  refine D3 ?_ ?_
  ·simp[pK,Bl];omega
  ·simp[pK,Bl];omega
 refine ayp j (ayq ?_);intro r k;obtain⟨i,d,rfl⟩:=iO k;intro y n;have e:=List.mem_of_mem_drop (cS n);rw[aV d]at e;exact l _ (am d) y e
theorem arE{D H half C Hd:Nat}(h:Lt D H half C Hd){q:List Int}{aQ:kq}{s:Int}(c:q.length=D)(z:1≤aQ.length)(B:aQ.length≤C)(g:∀p∈aQ,p.1.length=D∧p.2.length=D∧rD p.1∧rD p.2)(F:0≤s)(y:s≤31):
  (yu q (H:Int) aQ s).2=0∧(yu q (H:Int) aQ s).1.length=D∧rD (yu q (H:Int) aQ s).1:=by
 have l:=h.cm;have n:=h.dm;have k:=h.pos;have o:=h.hh;have e:∀i,i<aQ.length→aQ.getD i ([],[])∈aQ:=fun i b=>by rw[aV b];exact am b
 have f1:Fits q (dp aQ):=by
  refine⟨by simp[dp];omega,by omega,fun i b=> ?_⟩;have a:i<aQ.length:=by simpa[dp]using b
  unfold dp;rw[po _ a,(g _ (e i a)).1,c]
 have f2:Fits q (valuesOf aQ):=by
  refine⟨by simp[valuesOf];omega,by omega,fun i b=> ?_⟩;have a:i<aQ.length:=by simpa[valuesOf]using b
  unfold valuesOf;rw[po _ a,(g _ (e i a)).2.1,c]
 have E:D % H=0:=by rw[h.d];exact Nat.mul_mod_right _ _
 have j:D/H=2*half:=by rw[h.d];exact Nat.mul_div_cancel_left _ (by omega)
 have t:(q.length:Int) % (H:Int)=0:=by rw[c];omega
 unfold yu;rw[gk,if_neg (by exact fun u=>u ⟨f1,f2⟩),gk,ax,c,j];refine⟨rfl,?_,?_⟩
 ·show(ML _ H).length=D;rw[Mi (m:=2*half) (H:=H) ?_ H (az _),←h.d];intro i b;rw[Da];exact(C9 (q:=q) (sz:=2*half) (H:=H) (by rw[c];exact h.d) b).1
 ·refine ad4 (p:=fun x=> -127≤x∧x≤127) (fun i=>atW ?_ ?_ ?_) H
  ·simp[dp];omega
  ·simp[dp];omega
  ·intro r w;obtain⟨i,b,rfl⟩:=iO w;exact(g _ (e i b)).2.2.2
theorem PU{w o:List Int}{s a:Int}{r c:Nat}(h:w.length=r*c)(E:r*c≤1048576)(k:1≤c)(l:o.length=c)(d:rD o)(g:0≤s)(p:s≤31)(i:∀j,j<r→(cq (127*gq (eG w c j)) s).1≤a):
  (kx w (c:Int) o).2=0∧(ju (kx w (c:Int) o).1 s).2=0∧(ju (kx w (c:Int) o).1 s).1.length=r∧∀y∈(ju (kx w (c:Int) o).1 s).1,-a≤y∧y≤a:=by
 have b:w.length/c=r:=by rw[h];exact Nat.mul_div_cancel _ (by omega)
 have n:r≤1048576:=by
  have:=cy r (show 0<c by omega);omega
 rw[ahj (by omega) k (by rw[h];exact Nat.mul_mod_left _ _) l];simp only;rw[ahk (by rw[Hh,b];exact n) g (by omega)];refine⟨trivial,rfl,by simp[Hh,b],?_⟩;intro y q;obtain⟨z,t,rfl⟩:=List.mem_map.1 q;obtain⟨j,e,rfl⟩:=iO t;rw[b]at e;have u:=arC (r:=eG w c j) d;have B:=apL (s:=s) (x:=xM (eG w c j) o) (X:=127*gq (eG w c j)) (by omega) (by omega) g (by omega);have D:=i j e;omega
theorem aoG{x z:List Int}{R a:Int}(p:z.length=x.length)(d:x.length≤1048576)(hx:∀y∈x,-R≤y∧y≤R)(hz:∀y∈z,-a≤y∧y≤a)(n:R+a≤268435456)(o:0≤a)(j:0≤R):
  (S9 x z).2=0∧(S9 x z).1.length=x.length∧∀y∈(S9 x z).1,-(R+a)≤y∧y≤R+a:=by
 have b:∀i,i<x.length→nP x z i=(x.getD i 0+z.getD i 0,true)∧-(R+a)≤x.getD i 0+z.getD i 0∧x.getD i 0+z.getD i 0≤R+a:=by
  intro i c;have g:=hx _ (am c);have h:=hz _ (am (show i<z.length by omega));rw[←aV c 0]at g;rw[←aV (show i<z.length by omega) 0]at h;unfold nP aji;rw[lf];exact⟨rfl,by omega,by omega⟩
 have k:Hf x z=0:=by
  unfold Hf;rw[gk,gk]
 unfold S9;rw[k,if_neg (by simp),if_neg]
 ·refine⟨rfl,by simp,?_⟩;intro y l;obtain⟨i,c,rfl⟩:=iO l;rw[(b i c).1];exact(b i c).2
 ·rintro⟨i,c,e⟩;rw[(b i c).1]at e
  cases e
theorem anv{D H half C Hd:Nat}(h:Lt D H half C Hd){b:FP}{f:P6}(d:IK D Hd b)(n:ahl H half C f){g:List Int}(e:g.length=D){c:Int}(l:∀j,j<D→(cq (127*gq (eG b.2.2.2.2.2.2.2.2.2.2.2.2.2.1 Hd j)) b.2.2.2.2.2.2.2.2.2.2.2.2.2.2.2.2).1≤c):
  (nx b.2.2.2.2.2.2.2.2.2.2.2 f.2.2.2 g).2=0∧(nx b.2.2.2.2.2.2.2.2.2.2.2 f.2.2.2 g).1.length=D∧∀y∈(nx b.2.2.2.2.2.2.2.2.2.2.2 f.2.2.2 g).1,-c≤y∧y≤c:=by
 have t:=h.hdd;have u:=h.pos;have x:=h.hd;have z:=h.hm;obtain⟨g1,k⟩:=Db (w:=b.2.2.2.2.2.2.2.2.2.2.2.1) (h:=g) (s:=b.2.2.2.2.2.2.2.2.2.2.2.2.2.2.1) (r:=Hd) (by rw[d.m1,e]) (by rw[e];omega) (by omega) d.gs.1 (by have:=d.gs.2;omega);obtain⟨q,B⟩:=Db (w:=b.2.2.2.2.2.2.2.2.2.2.2.2.1) (h:=g) (s:=b.2.2.2.2.2.2.2.2.2.2.2.2.2.2.2.1) (r:=Hd) (by rw[d.m2,e]) (by rw[e];omega) (by omega) d.us.1 (by have:=d.us.2;omega);obtain⟨M,i⟩:∃M,M=Lr f.2.2.2 (dI b.2.2.2.2.2.2.2.2.2.2.2.1 g b.2.2.2.2.2.2.2.2.2.2.2.2.2.2.1).1 (dI b.2.2.2.2.2.2.2.2.2.2.2.2.1 g b.2.2.2.2.2.2.2.2.2.2.2.2.2.2.2.1).1:=⟨_,rfl⟩;have m1:M.2=0∧M.1.length=Hd:=by
  rw[i];unfold Lr;rw[if_neg (by rw[n.fK];simp),gk,gk];exact⟨rfl,by simp[k]⟩
 have p:rD M.1:=by rw[i];exact zu
 obtain⟨d1,d2,d3,d4⟩:=PU (w:=b.2.2.2.2.2.2.2.2.2.2.2.2.2.1) (o:=M.1) (s:=b.2.2.2.2.2.2.2.2.2.2.2.2.2.2.2.2) (a:=c) (r:=D) (c:=Hd) d.m3 (by rw[Nat.mul_comm];omega) (by omega) m1.2 p d.ds.1 d.ds.2 l;unfold nx;simp only;rw[if_neg (by rw[g1];decide),if_neg (by rw[q];decide),←i,if_neg (by rw[m1.1];decide),m1.2,if_neg (by rw[d1];decide)];exact⟨d2,d3,d4⟩
theorem awm{D H half C Hd:Nat}(h:Lt D H half C Hd){b:FP}{f:P6}(d:IK D Hd b)(t:ahl H half C f){x:List Int}{aQ:kq}{R a c:Int}(hx:x.length=D)(E:∀y∈x,-R≤y∧y≤R)(k:0≤R)(l:0≤a)(n:0≤c)(hR:R+a+c≤268435456)
  (N:1≤aQ.length) (O:aQ.length≤C) (T:∀p∈aQ,p.1.length=D∧p.2.length=D∧rD p.1∧rD p.2)
  (Q:∀j,j<D→(cq (127*gq (eG b.2.2.2.2.1 D j)) b.2.2.2.2.2.2.2.2.2.1).1≤a)
  (S:∀j,j<D→(cq (127*gq (eG b.2.2.2.2.2.2.2.2.2.2.2.2.2.1 Hd j)) b.2.2.2.2.2.2.2.2.2.2.2.2.2.2.2.2).1≤c):
  (MM b f x aQ).2=0∧(MM b f x aQ).1.length=D∧∀y∈(MM b f x aQ).1,-(R+a+c)≤y∧y≤R+a+c:=by
 have g1:=h.dd;have g2:=h.pos;have g3:=h.dm;obtain⟨co,i,B,I,J⟩:=ad9 h t (p:=aQ.length -1) (by omega);rw[show((aQ.length -1:Nat):Int)=(aQ.length:Int) -1 by omega]at B;obtain⟨r1,r2⟩:=aba (x:=x) (fV:=b.1) (by rw[d.g1,hx]) (by omega) (by omega) (fun y u=>by have:=E y u;omega);obtain⟨Z,q2⟩:=aea h (w:=b.2.1) (hh:=(mO x b.1).1) (s:=b.2.2.2.2.2.2.1) (cos:=co) (sin:=i) d.q (by rw[r2,hx]) d.qs.1 d.qs.2 I J;obtain⟨W,X,Y⟩:=arE h (q:=(lg b.2.1 (mO x b.1).1 b.2.2.2.2.2.2.1 ((2*half:Nat):Int) co i).1) (aQ:=aQ) (s:=b.2.2.2.2.2.2.2.2.2.2.1) q2 N O T d.ss.1 d.ss.2;obtain⟨t1,t2,t3,t4⟩:=PU (w:=b.2.2.2.2.1) (o:=(yu (lg b.2.1 (mO x b.1).1 b.2.2.2.2.2.2.1 ((2*half:Nat):Int) co i).1 (H:Int) aQ b.2.2.2.2.2.2.2.2.2.2.1).1) (s:=b.2.2.2.2.2.2.2.2.2.1) (a:=a) (r:=D) (c:=D) d.o (by omega) (by omega) X Y d.os.1 d.os.2 Q;have P:pL b f x aQ=S9 x (ju (kx b.2.2.2.2.1 (D:Int) (yu (lg b.2.1 (mO x b.1).1 b.2.2.2.2.2.2.1 ((2*half:Nat):Int) co i).1 (H:Int) aQ b.2.2.2.2.2.2.2.2.2.2.1).1).1 b.2.2.2.2.2.2.2.2.2.1).1:=by
  unfold pL;simp only;rw[hx,B,t.h];simp only[ne_eq,not_true,if_false];rw[if_neg (by rw[r1];decide),if_neg (by rw[Z];decide),if_neg (by rw[W];decide),if_neg (by rw[t1];decide),if_neg (by rw[t2];decide)]
 obtain⟨F,e,z⟩:=aoG (x:=x) (R:=R) (a:=a) (by rw[t3,hx]) (by omega) E t4 (by omega) l k;rw[←P]at F e z;obtain⟨s1,s2⟩:=aba (x:=(pL b f x aQ).1) (fV:=b.2.2.2.2.2.1) (by rw[d.g2,e,hx]) (by omega) (by omega) (fun y u=>by have:=z y u;omega);obtain⟨m1,U,V⟩:=anv h d t (g:=(mO (pL b f x aQ).1 b.2.2.2.2.2.1).1) (by rw[s2,e,hx]) S;obtain⟨K,L,M⟩:=aoG (x:=(pL b f x aQ).1) (R:=R+a) (a:=c) (by rw[U,e,hx]) (by omega) z V (by omega) n (by omega);unfold MM;simp only;rw[if_neg (by rw[F];decide),if_neg (by rw[s1];decide),if_neg (by rw[m1];decide)];exact⟨K,by rw[L,e,hx],M⟩
theorem atX{D H half C Hd:Nat}(h:Lt D H half C Hd){b:FP}{f:P6}(t:IK D Hd b)(u:ahl H half C f){R a c:Int}(l:0≤R)(n:0≤a)(o:0≤c)(F:R+a+c≤268435456)
  (I:∀j,j<D→(cq (127*gq (eG b.2.2.2.2.1 D j)) b.2.2.2.2.2.2.2.2.2.1).1≤a)
  (J:∀j,j<D→(cq (127*gq (eG b.2.2.2.2.2.2.2.2.2.2.2.2.2.1 Hd j)) b.2.2.2.2.2.2.2.2.2.2.2.2.2.2.2.2).1≤c):
  ∀(xs:List (List Int)) (all:kq) (out:List (List Int)),(∀x∈xs,x.length=D∧∀y∈x,-R≤y∧y≤R)→all.length+xs.length≤C→(∀p∈all,p.1.length=D∧p.2.length=D∧rD p.1∧rD p.2)→(∀y∈out,y.length=D∧∀z∈y,-(R+a+c)≤z∧z≤R+a+c)→
  ∃r,vh b f xs all out= .inr r∧(∀p∈r.1,p.1.length=D∧p.2.length=D∧rD p.1∧rD p.2)∧∀y∈r.2,y.length=D∧∀z∈y,-(R+a+c)≤z∧z≤R+a+c:=by
 intro xs
 induction xs with
 |nil=>intro all out _ _ i k;exact⟨(all,out),rfl,i,k⟩
 |cons x xs K=>
  intro all out q E i k;simp only[bg]at E;obtain⟨w,B⟩:=q x aH;obtain⟨L,M,N,O,P⟩:=atV h t u w (fun y d=>by have:=B y d;omega) (p:=all.length) (by omega);have e:∀p∈all++[(aaZ b f x (all.length:Int)).1],p.1.length=D∧p.2.length=D∧rD p.1∧rD p.2:=by
   intro p g;rcases List.mem_append.1 g with g |g
   ·exact i p g
   ·rw[List.mem_singleton.1 g];exact⟨M,N,O,P⟩
  obtain⟨r1,Q,S⟩:=awm h t u w B l n o F (aQ:=all++[(aaZ b f x (all.length:Int)).1]) (by simp) (by simp;omega) e I J;simp only[vh];rw[if_neg (by rw[L];decide),if_neg (by rw[r1];decide)];refine K _ _ (fun y d=>q y (aG _ d)) (by simp;omega) e ?_;intro y d;rcases List.mem_append.1 d with d |d
  ·exact k y d
  ·rw[List.mem_singleton.1 d];exact⟨Q,S⟩
abbrev Shp:=Int×Int×Int×Int×Int×Int
abbrev D7:=List (List UInt8)×List (Int×Int×Int)
abbrev Mod:=Shp×D7×List Int×Int×List Int×List Int×List FP×List Int×List Int×List Int×Int
theorem alz{β R:Type}{L:Nat→Int→β→Option R}{len:Nat}(Inv:Nat→β→Prop)(a:R→Prop)
  (q:∀k i s,i<len→Inv i s→(∃r,L (k+1) (i:Int) s=some r∧a r)∨∃b,L (k+1) (i:Int) s=L k ((i:Int)+1) b∧Inv (i+1) b)
  (o:∀k s,Inv len s→∃r,L (k+1) (len:Int) s=some r∧a r):
  ∀k s,len<k→Inv 0 s→∃r,L k 0 s=some r∧a r:=by
 have d:∀(m k i:Nat) (s:β),i+m=len→m<k→Inv i s→∃r,L k (i:Int) s=some r∧a r:=by
  intro m
  induction m with
  |zero=>
   intro k i s g j c;obtain⟨k,rfl⟩:=gU k;have:i=len:=by omega
   subst this;exact o k s c
  |succ m t=>
   intro k i s g j c;obtain⟨k,rfl⟩:=gU k;rcases q k i s (by omega) c with h |⟨b,l,n⟩
   ·exact h
   ·rw[l];exact t k (i+1) b (by omega) (by omega) n
 exact fun k s p e=>d len k 0 s (by omega) p e
structure agf (m:Mod):Prop where
 t:m.2.1.1.length≤1048576
 tt:∀x∈m.2.1.1,x.length≤1048576
 ms:m.2.1.2.length≤1048576
 e:m.2.2.1.length≤1048576
 c:m.2.2.2.2.1.length≤1048576
 si:m.2.2.2.2.2.1.length≤1048576
 bs:m.2.2.2.2.2.2.1.length≤1048576
 b:∀b∈m.2.2.2.2.2.2.1,arA b
 be:m.2.2.2.2.2.2.2.1.length≤1048576
 g:m.2.2.2.2.2.2.2.2.1.length≤1048576
 u:m.2.2.2.2.2.2.2.2.2.1.length≤1048576
theorem Mk{α:Type}{l:List α}{b:Nat}(h:l.length≤1000000000:=by omega)(a:b≤1000:=by omega):app b [] l=some l:=by
 unfold app;rw[if_pos]
 ·rfl
 ·have:l.length*b≤1000000000*1000:=bD h a;unfold room;simp;omega
theorem Bn{n:Nat}{m:Mod}(h:agf m)(V:Hn0 n):oW n m=some m:=by
 obtain⟨⟨z,D,E,F,H,I⟩,⟨t,j⟩,e,w,c,p,d,l,g,u,y⟩:=m;have W:t.length≤1048576:=h.t;have Q:j.length≤1048576:=h.ms;have T:e.length≤1048576:=h.e;have S:c.length≤1048576:=h.c;have R:p.length≤1048576:=h.si;have P:d.length≤1048576:=h.bs;have a:∀b∈d,arA b:=h.b;have O:l.length≤1048576:=h.be;have U:g.length≤1048576:=h.g;have X:u.length≤1048576:=h.u;have J:=ba (L:=fun k i s=>pF n k ((),(),(),j,(j.length:Int),i,((z,D,E,F,H,I),(t,j),e,w,c,p,d,l,g,u,y),(0,0,0,0,0,0,[],[],[],0,[],[],[],[],[],[],0,()),(z,D,E,F,H,I,t,s,e,w,c,p,[],l,g,u,y,()),())) (len:=j.length)
  (r:=((),(),(),((z,D,E,F,H,I),(t,j),e,w,c,p,d,l,g,u,y),(0,0,0,0,0,0,[],[],[],0,[],[],[],[],[],[],0,()),(z,D,E,F,H,I,t,j,e,w,c,p,[],l,g,u,y,()),())) (fun i=>j.take i) (by
   intro k i x;show pF n (k+1) _=_;rw[IB,bP0,bj x];simp only[aa];rw[FC x (by omega) (by omega),aN];rfl) (by
   intro k;show pF n (k+1) _=_;rw[IB,bN0,ch]) n (by omega)
 have K:=ba (L:=fun k i s=>n5 n k ((),(),d,(d.length:Int),i,(0,0,0,0,0,0,[],[],[],0,[],[],[],[],[],[],0,()),(z,D,E,F,H,I,t,j,e,w,c,p,s,l,g,u,y,()),())) (len:=d.length)
  (r:=((),(),(0,0,0,0,0,0,[],[],[],0,[],[],[],[],[],[],0,()),(z,D,E,F,H,I,t,j,e,w,c,p,d,l,g,u,y,()),())) (fun i=>d.take i) (by
   intro k i x;have a:=a _ (am x);obtain⟨B,N⟩:∃B,B=d[i]:=⟨_,rfl⟩;have M:=FC (b:=280) x (by omega) (by omega);show n5 n (k+1) _=_;rw[Fj,bP0,bj x];rw[←N]at a M ⊢;simp only[aa];rw[cP a.g1,cP a.q,cP a.k,cP a.v,cP a.o,cP a.g2,cP a.m1,cP a.m2,cP a.m3];simp only[aa];rw[M,aN];rfl) (by
   intro k;show n5 n (k+1) _=_;rw[Fj,bN0,ch]) n (by omega)
 rw[eW]at J K;rw[afA];simp only;rw[cP,cP,cP,cP,cP,cP,Mk];simp only[aa];rw[J];simp only[aa];rw[K];rfl
theorem arF{n:Nat}{m:Mod}(h:agf m)(V:Hn0 n):F4 n m=some m:=by
 obtain⟨⟨z,D,E,F,H,I⟩,⟨t,j⟩,e,w,c,p,d,l,g,u,y⟩:=m;have W:t.length≤1048576:=h.t;have Q:j.length≤1048576:=h.ms;have T:e.length≤1048576:=h.e;have S:c.length≤1048576:=h.c;have R:p.length≤1048576:=h.si;have P:d.length≤1048576:=h.bs;have a:∀b∈d,arA b:=h.b;have O:l.length≤1048576:=h.be;have U:g.length≤1048576:=h.g;have X:u.length≤1048576:=h.u;have J:=ba (L:=fun k i s=>pw n k ((),(),(),j,(j.length:Int),i,((z,D,E,F,H,I),(t,j),e,w,c,p,d,l,g,u,y),(0,0,0,0,0,0,[],[],[],0,[],[],[],[],[],[],0,()),(z,D,E,F,H,I,t,s,e,w,c,p,[],l,g,u,y,()),())) (len:=j.length)
  (r:=((),(),(),((z,D,E,F,H,I),(t,j),e,w,c,p,d,l,g,u,y),(0,0,0,0,0,0,[],[],[],0,[],[],[],[],[],[],0,()),(z,D,E,F,H,I,t,j,e,w,c,p,[],l,g,u,y,()),())) (fun i=>j.take i) (by
   intro k i x;show pw n (k+1) _=_;rw[Ix,bP0,bj x];simp only[aa];rw[FC x (by omega) (by omega),aN];rfl) (by
   intro k;show pw n (k+1) _=_;rw[Ix,bN0,ch]) n (by omega)
 have K:=ba (L:=fun k i s=>nV n k ((),(),d,(d.length:Int),i,(0,0,0,0,0,0,[],[],[],0,[],[],[],[],[],[],0,()),(z,D,E,F,H,I,t,j,e,w,c,p,s,l,g,u,y,()),())) (len:=d.length)
  (r:=((),(),(0,0,0,0,0,0,[],[],[],0,[],[],[],[],[],[],0,()),(z,D,E,F,H,I,t,j,e,w,c,p,d,l,g,u,y,()),())) (fun i=>d.take i) (by
   intro k i x;have a:=a _ (am x);obtain⟨B,N⟩:∃B,B=d[i]:=⟨_,rfl⟩;have M:=FC (b:=280) x (by omega) (by omega);show nV n (k+1) _=_;rw[E8,bP0,bj x];rw[←N]at a M ⊢;simp only[aa];rw[cP a.g1,cP a.q,cP a.k,cP a.v,cP a.o,cP a.g2,cP a.m1,cP a.m2,cP a.m3];simp only[aa];rw[M,aN];rfl) (by
   intro k;show nV n (k+1) _=_;rw[E8,bN0,ch]) n (by omega)
 rw[eW]at J K;rw[aft];simp only;rw[cP,cP,cP,cP,cP,cP,Mk];simp only[aa];rw[J];simp only[aa];rw[K];rfl
def Dd(s:Shp):Prop:=(2≤s.1∧s.1≤512)∧(1≤s.2.1∧s.2.1≤512)∧(2≤s.2.2.1∧s.2.2.1≤64)∧(1≤s.2.2.2.2.1∧s.2.2.2.2.1≤8)∧(1≤s.2.2.2.2.2∧s.2.2.2.2.2≤256)∧1≤s.2.2.2.1∧s.2.2.1 % s.2.2.2.1=0∧s.2.2.1/s.2.2.2.1 % 2=0
instance (s:Shp):Decidable (Dd s):=by unfold Dd;exact inferInstance
def atY(s:Shp):Int:=if Dd s then 0 else 160
theorem Bo{s:Shp}(h:¬ Dd s):atY s=160:=if_neg h
theorem Ml{s:Shp}(h:Dd s):atY s=0:=if_pos h
theorem fw{a b:Bool}:av a (some b) (some false)=some (a&&b):=by cases a<;>rfl
theorem bU{R:Type}{x y:Option R}:av false x y=y:=rfl
theorem ii{R:Type}{x y:Option R}:av true x y=x:=rfl
theorem eC{a b:Bool}:av a (some true) (some b)=some (a||b):=by cases a<;>rfl
theorem zk{n:Nat}{x lo hi:Int}:eO n (x,lo,hi)=some (decide (lo≤x∧x≤hi)):=by
 rw[Se,fw];simp only[aa,Bool.decide_and]
theorem D8{n:Nat}{x lo hi:Int}:eY n (x,lo,hi)=some (decide (lo≤x∧x≤hi)):=by
 rw[Pn,fw];simp only[aa,Bool.decide_and]
theorem Hi{n:Nat}{x lo hi:Int}:fB n (x,lo,hi)=some (decide (lo≤x∧x≤hi)):=by
 rw[Sj,fw];simp only[aa,Bool.decide_and]
theorem anw{d h:Int}(i:2≤d∧d≤64)(hh:1≤h):(((rm d h)).bind fun e=>av (e !=(0:Int)) (some true)
  (((qt bz d h)).bind fun g=>((rm g (2:Int))).bind fun b=>some (b !=(0:Int))))=some (decide (¬ (d % h=0∧d/h % 2=0))):=by
 have j:=(jz (x:=d) (d:=h) (by omega)).1 (by omega);rw[C5];simp only[aa]
 by_cases a:d % h=0
 ·rw[show(d % h !=0)=false by simp[a],nw (by omega) (by omega) (by omega)];simp only[av,aa];rw[C5];simp only[aa];congr 1
  by_cases c:d/h % 2=0
  ·simp[a,c]
  ·simp[a,c]
 ·rw[show(d % h !=0)=true by simp[a]];simp[av,a]
theorem XS{n:Nat}{s:Shp}:jI n s=some (atY s):=by
 rw[Vi];simp only[zk,aa,eC]
 by_cases c:(2≤s.1∧s.1≤512)∧(1≤s.2.1∧s.2.1≤512)∧(2≤s.2.2.1∧s.2.2.1≤64)∧(1≤s.2.2.2.2.1∧s.2.2.2.2.1≤8)∧(1≤s.2.2.2.2.2∧s.2.2.2.2.2≤256)
 ·obtain⟨d,g,b,i,j⟩:=c;rw[decide_eq_true d,decide_eq_true g,decide_eq_true b,decide_eq_true i,decide_eq_true j];simp only[aY,Bool.or_false,bU]
  by_cases k:s.2.2.2.1<1
  ·rw[decide_eq_true k,Bo (by unfold Dd;omega)];rfl
  ·rw[decide_eq_false k];rw[bU,anw b (by omega)];simp only[aa]
   by_cases a:s.2.2.1 % s.2.2.2.1=0∧s.2.2.1/s.2.2.2.1 % 2=0
   ·rw[decide_eq_false (by simpa using a),Ml ⟨d,g,b,i,j,by omega,a.1,a.2⟩];rfl
   ·rw[decide_eq_true a,Bo (fun h=>a h.2.2.2.2.2.2)];rfl
 ·have e:(!decide (2≤s.1∧s.1≤512)||(!decide (1≤s.2.1∧s.2.1≤512)||(!decide (2≤s.2.2.1∧s.2.2.1≤64)||(!decide (1≤s.2.2.2.2.1∧s.2.2.2.2.1≤8)|| !decide (1≤s.2.2.2.2.2∧s.2.2.2.2.2≤256)))))=true:=by
   simp only[aD,aZ,decide_eq_false_iff_not];omega
  rw[e,Bo (fun h=>c ⟨h.1,h.2.1,h.2.2.1,h.2.2.2.1,h.2.2.2.2.1⟩)];rfl
theorem XT{n:Nat}{s:Shp}:qg n s=some (atY s):=by
 rw[Vn];simp only[D8,aa,fw]
 by_cases c:(2≤s.1∧s.1≤512)∧(1≤s.2.1∧s.2.1≤512)∧(2≤s.2.2.1∧s.2.2.1≤64)
 ·obtain⟨j,k,l⟩:=c;rw[decide_eq_true j,decide_eq_true k,decide_eq_true l];simp only[Bool.and_true,aY,av]
  by_cases o:s.2.2.2.1<1
  ·rw[decide_eq_true o,Bo (by unfold Dd;omega)];rfl
  ·rw[decide_eq_false o];simp only;have p:=(jz (x:=s.2.2.1) (d:=s.2.2.2.1) (by omega)).1 (by omega);rw[C5];simp only[aa]
   by_cases g:s.2.2.1 % s.2.2.2.1=0
   ·rw[show(s.2.2.1 % s.2.2.2.1 !=0)=false by simp[g],nw (by omega) (by omega) (by omega)];simp only[aa];rw[C5];simp only[aa]
    by_cases i:s.2.2.1/s.2.2.2.1 % 2=0
    ·rw[show(s.2.2.1/s.2.2.2.1 % 2!=0)=false by simp[i]];simp only
     by_cases a:1≤s.2.2.2.2.1∧s.2.2.2.2.1≤8
     ·rw[decide_eq_true a];simp only[aY]
      by_cases b:1≤s.2.2.2.2.2∧s.2.2.2.2.2≤256
      ·rw[decide_eq_true b,Ml ⟨j,k,l,a,b,by omega,g,i⟩];rfl
      ·rw[decide_eq_false b,Bo (fun h=>b h.2.2.2.2.1)];rfl
     ·rw[decide_eq_false a,Bo (fun h=>a h.2.2.2.1)];rfl
    ·rw[show(s.2.2.1/s.2.2.2.1 % 2!=0)=true by simp[i],Bo (fun h=>i h.2.2.2.2.2.2.2)];rfl
   ·rw[show(s.2.2.1 % s.2.2.2.1 !=0)=true by simp[g],Bo (fun h=>g h.2.2.2.2.2.2.1)];rfl
 ·have e:(decide (2≤s.1∧s.1≤512)&&(decide (1≤s.2.1∧s.2.1≤512)&&decide (2≤s.2.2.1∧s.2.2.1≤64)))=false:=by
   rw[←ew];simp only[ak,bx];omega
  rw[e,Bo (fun h=>c ⟨h.1,h.2.1,h.2.2.1⟩)];rfl
theorem anx{n:Nat}{s:Shp}(h:Dd s):mW n s=some (s.2.2.1/s.2.2.2.1/2):=by
 rw[Zx,XS];rw[Ml h];obtain⟨a,b,c,e,g,i,j,k⟩:=h;have l:=(jz (x:=s.2.2.1) (d:=s.2.2.2.1) (by omega)).1 (by omega);simp only[aa,ag];rw[if_neg (by simp),nw (by omega) (by omega) (by omega)];simp only[aa];rw[nw (by omega) (by omega) (by omega)];rfl
theorem anz{n:Nat}{s:Shp}(h:Dd s):yD n s=some (s.2.2.1/s.2.2.2.1/2):=by
 rw[ZC,XT];rw[Ml h];obtain⟨a,b,c,e,g,i,j,k⟩:=h;have l:=(jz (x:=s.2.2.1) (d:=s.2.2.2.1) (by omega)).1 (by omega);simp only[aa,ag];rw[if_neg (by simp),nw (by omega) (by omega) (by omega)];simp only[aa];rw[nw (by omega) (by omega) (by omega)];rfl
theorem cZ{β R:Type}{L:Nat→Int→β→Option R}{len:Nat}(a:Nat→β)(P:Nat→Prop)(b:Nat→R)(c:R)
  (t:∀k i:Nat,i<len→(∀j,j<i→P j)→(P i∧L (k+1) (i:Int) (a i)=L k ((i:Int)+1) (a (i+1)))∨(¬ P i∧L (k+1) (i:Int) (a i)=some (b i)))
  (p:∀k,L (k+1) (len:Int) (a len)=some c):
  ∀k,len<k→((∀i,i<len→P i)∧L k 0 (a 0)=some c)∨∃i,i<len∧(∀j,j<i→P j)∧¬ P i∧L k 0 (a 0)=some (b i):=by
 have l:∀(m k i:Nat),i+m=len→m<k→(∀j,j<i→P j)→((∀i,i<len→P i)∧L k (i:Int) (a i)=some c)∨∃j,j<len∧(∀i,i<j→P i)∧¬ P j∧L k (i:Int) (a i)=some (b j):=by
  intro m
  induction m with
  |zero=>
   intro k i n o d;obtain⟨k,rfl⟩:=gU k;have:i=len:=by omega
   subst this;exact .inl ⟨d,p k⟩
  |succ m u=>
   intro k i n o d;obtain⟨k,rfl⟩:=gU k;rcases t k i (by omega) d with⟨e,g⟩|⟨e,g⟩
   ·rw[g];exact u k (i+1) (by omega) (by omega) (fun j q=>by
     by_cases h:j=i
     ·rw[h];exact e
     ·exact d j (by omega))
   ·exact .inr ⟨i,by omega,d,e,g⟩
 exact fun k r=>l len k 0 (by omega) r (fun j q=>by omega)
theorem Lu{k v:Ty}(c:k.isKey=true){x:k.den}:∀l:List (k.den×v.den),(IY k.Jb l x).isSome=true↔∃p∈l,p.1=x
 |[]=>by simp[IY]
 |p::l=>by
  unfold IY
  split
  ·rename_i h;have:=(vn k x p.1 c).1 h;exact⟨fun _=>⟨p,aH,this.symm⟩,fun _=>rfl⟩
  ·rename_i h;rw[Lu c l];constructor
   ·rintro⟨q,a,b⟩;exact⟨q,aG _ a,b⟩
   ·rintro⟨q,a,b⟩;rcases List.mem_cons.1 a with rfl |a
    ·rw[(vn k x q.1 c).2 b.symm]at h;cases h
    ·exact⟨q,a,b⟩
def zw(v:D7)(i:Nat):List UInt8:=v.1.getD i []
def uh(v:D7)(i:Nat):Int×Int×Int:=v.2.getD i (0,0,0)
def xi(v:D7)(x:Int):Prop:=0<x∧x<(v.1.length:Int)
def aeb(v:D7)(i:Nat):Prop:=(∀k,k<i→zw v k≠zw v i)∧(zw v i=[]↔i=0)∧(zw v i).length≤64
def alA(v:D7)(i:Nat):Prop:=(xi v (uh v i).1∧xi v (uh v i).2.1∧xi v (uh v i).2.2∧zw v (uh v i).2.2.toNat=zw v (uh v i).1.toNat++zw v (uh v i).2.1.toNat)∧
 ∀k,k<i→¬ ((uh v k).1=(uh v i).1∧(uh v k).2.1=(uh v i).2.1)
structure Lv (v:D7):Prop where
 l:v.1.length≤512
 t:∀i,i<v.1.length→aeb v i
 l2:2≤v.1.length
 m:v.2.length≤1024
 ms:∀i,i<v.2.length→alA v i
theorem Wq{v:D7}{i:Nat}(h:i<v.1.length):idx v.1 (i:Int)=some (zw v i):=by
 rw[bj h];unfold zw;simp[h]
theorem anA{v:D7}{i:Nat}(h:i<v.2.length):idx v.2 (i:Int)=some (uh v i):=by
 rw[bj h];unfold uh;simp[h]
theorem Tl{v:D7}{x:Int}(h:xi v x):idx v.1 x=some (zw v x.toNat):=by
 have:=Wq (v:=v) (i:=x.toNat) (by have:=h.1;have:=h.2;omega);rw[show(x.toNat:Int)=x by have:=h.1;omega]at this;exact this
theorem Mm{v:D7}{b:Nat}(h:∀x∈v.1,x.length≤b)(i:Nat):(zw v i).length≤b:=by
 unfold zw
 by_cases a:i<v.1.length
 ·simp only[aB,ai a,Option.getD_some];exact h _ (am a)
 ·simp[Nat.le_of_not_lt a]
theorem atZ(s:List UInt8):(s==[])=decide (s=[]):=by cases s<;>rfl
theorem aec{s:List UInt8}{i:Nat}:(((s==[])==((i:Int)==0))=true)↔(s=[]↔i=0):=by
 rw[atZ];have:((i:Int)==0)=decide (i=0):=by
  by_cases h:i=0
  ·subst h;rfl
  ·rw[decide_eq_false h,beq_eq_false_iff_ne];omega
 rw[this,beq_iff_eq,decide_eq_decide]
theorem alB{n:Nat}{v:D7}{x:Int}:∃b,ly n (v,x)=some b∧(b=true↔xi v x):=by
 rw[VL,fw];refine⟨_,rfl,?_⟩;rw[ak,bx,bx];exact Iff.rfl
theorem anB{n:Nat}{v:D7}{x:Int}:∃b,mX n (v,x)=some b∧(b=true↔xi v x):=by
 rw[ZB,fw];refine⟨_,rfl,?_⟩;rw[ak,bx,bx];exact Iff.rfl
theorem anC{n:Nat}{v:D7}{i:Nat}(hi:i<v.1.length)(o:v.1.length≤1048576)(p:Hn0 n):∃b,yU n (v,(i:Int))=some b∧(b=true↔aeb v i):=by
 rw[Z7,Wq hi];simp only[aa];rcases cZ (L:=fun k j (_:Unit)=>j9 n k ((i:Int),(),zw v i,j,v,())) (len:=i) (fun _=>()) (fun k=>zw v k≠zw v i) (fun _=> .inl (false,())) (.inr ((i:Int),zw v i,())) (by
  intro k j l _;show(_∧j9 n (k+1) _=_)∨(_∧j9 n (k+1) _=_);rw[CF,bP0,Wq (show j<v.1.length by omega)];simp only[aa,ag,beq_iff_eq]
  split
  ·rename_i h;exact .inr ⟨fun d=>d h,rfl⟩
  ·rename_i h;rw[aN];exact .inl ⟨h,rfl⟩) (by
  intro k;show j9 n (k+1) _=_;rw[CF,bN0]) n (by omega)with⟨a,c⟩|⟨j,a,c,e,g⟩
 ·rw[c];simp only[aa,cI];rw[fw];refine⟨_,rfl,?_⟩;rw[ak,bx];have:=aec (s:=zw v i) (i:=i);rw[show(((zw v i==(ej (ByteArray.data (ByteArray.mk (aeZ [])))))==((i:Int)==0))=true)↔(zw v i=[]↔i=0)from this];exact⟨fun h=>⟨a,h.1,by omega⟩,fun h=>⟨h.2.1,by have:=h.2.2;omega⟩⟩
 ·rw[g];exact⟨_,rfl,fun h=>(by cases h),fun h=>absurd (h.1 j a) e⟩
theorem aed{n:Nat}{v:D7}{i:Nat}(g:∀x∈v.1,x.length≤1048576){f:D7×Int→Option Bool}(e:∀x,∃b,f (v,x)=some b∧(b=true↔xi v x)):
  ∃b,(((f (v,(uh v i).1))).bind fun q=>av (!q) (some true) (((f (v,(uh v i).2.1))).bind fun r=>av (!r) (some true)
    (((f (v,(uh v i).2.2))).bind fun t=>av (!t) (some true)
     (((idx v.1 (uh v i).2.2)).bind fun u=>((idx v.1 (uh v i).1)).bind fun w=>((idx v.1 (uh v i).2.1)).bind fun y=>((cat w y)).bind fun z=>some (!(u==z))))))=some b∧
   (b=false↔xi v (uh v i).1∧xi v (uh v i).2.1∧xi v (uh v i).2.2∧zw v (uh v i).2.2.toNat=zw v (uh v i).1.toNat++zw v (uh v i).2.1.toNat):=by
 obtain⟨b1,l,a⟩:=e (uh v i).1;obtain⟨j,o,c⟩:=e (uh v i).2.1;obtain⟨k,p,d⟩:=e (uh v i).2.2;rw[l];simp only[aa]
 cases b1 with
 |false=>exact⟨true,rfl,fun h=>(by cases h),fun h=>by have:=a.2 h.1;cases this⟩
 |true=>
 have a:=a.1 rfl;rw[o];simp only[aa,aY,av]
 cases j with
 |false=>exact⟨true,rfl,fun h=>(by cases h),fun h=>by have:=c.2 h.2.1;cases this⟩
 |true=>
 have c:=c.1 rfl;rw[p];simp only[aa,aY]
 cases k with
 |false=>exact⟨true,rfl,fun h=>(by cases h),fun h=>by have:=d.2 h.2.2.1;cases this⟩
 |true=>
 have d:=d.1 rfl;simp only[aY];rw[Tl a,Tl c,Tl d];simp only[aa];have t1:=Mm g (uh v i).1.toNat;have t2:=Mm g (uh v i).2.1.toNat;unfold cat;rw[lf];refine⟨_,rfl,?_⟩;rw[Bool.not_eq_false',beq_iff_eq];exact⟨fun h=>⟨a,c,d,h⟩,fun h=>h.2.2.2⟩
theorem alC{n:Nat}{v:D7}{i:Nat}(hi:i<v.2.length)(o:v.2.length≤1048576)(p:∀x∈v.1,x.length≤1048576)(r:Hn0 n):∃b,vR n (v,(i:Int))=some b∧(b=true↔alA v i):=by
 rw[VM,anA hi];simp only[aa];obtain⟨b,e,h⟩:=aed (n:=n) (v:=v) (i:=i) p (f:=ly n) (fun x=>alB);rw[e];simp only[aa]
 cases b with
 |true=>exact⟨false,rfl,fun h=>(by cases h),fun a=>by have:=h.2 a.1;cases this⟩
 |false=>
 have h:=h.1 rfl;simp only[av];rcases cZ (L:=fun k j (_:Unit)=>jm n k ((i:Int),(),(),j,v,uh v i,())) (len:=i) (fun _=>()) (fun k=>¬ ((uh v k).1=(uh v i).1∧(uh v k).2.1=(uh v i).2.1)) (fun _=> .inl (false,())) (.inr ()) (by
  intro k j q _;show(_∧jm n (k+1) _=_)∨(_∧jm n (k+1) _=_);rw[AF,bP0,anA (show j<v.2.length by omega)];simp only[aa];rw[fw];simp only[aa,ag,ak,beq_iff_eq]
  split
  ·rename_i h;exact .inr ⟨fun a=>a h,rfl⟩
  ·rename_i h;rw[aN];exact .inl ⟨h,rfl⟩) (by
  intro k;show jm n (k+1) _=_;rw[AF,bN0]) n (by omega)with⟨c,d⟩|⟨j,c,d,g,l⟩
 ·rw[d];exact⟨true,rfl,fun _=>⟨h,c⟩,fun _=>rfl⟩
 ·rw[l];exact⟨false,rfl,fun h=>(by cases h),fun h=>absurd (h.2 j c) g⟩
theorem Lw{n:Nat}{v:D7}(E:v.1.length≤1048576)(o:v.2.length≤1048576)(F:∀x∈v.1,x.length≤1048576)(u:Hn0 n):∃r,n7 n v=some r∧(r.2=0↔Lv v):=by
 rw[VN,ag]
 split
 ·rename_i h;rw[bx]at h;exact⟨_,rfl,fun h=>(by cases h),fun a=>by have:=a.l;omega⟩
 rename_i w;rw[bx]at w;rcases cZ (L:=fun k j (_:Unit)=>jn n k ((),j,v,())) (len:=v.1.length) (fun _=>()) (aeb v) (fun i=> .inl ((i:Int),130,())) (.inr ((),v,())) (by
  intro k j g _;show(_∧jn n (k+1) _=_)∨(_∧jn n (k+1) _=_);obtain⟨b,e,h⟩:=anC (n:=n) g E u;rw[AG,bP0,e]
  cases b with
  |true=>simp only[aa,aY,av];rw[aN];exact .inl ⟨h.1 rfl,rfl⟩
  |false=>exact .inr ⟨fun a=>(by have:=h.2 a;cases this),rfl⟩) (by
  intro k;show jn n (k+1) _=_;rw[AG,bN0]) n (by omega)with⟨c,p⟩|⟨j,c,p,y,z⟩
 case inr=>rw[z];exact⟨_,rfl,fun h=>(by cases h),fun h=>absurd (h.t j c) y⟩
 rw[p];simp only[aa,cI,ag,bx]
 split
 ·exact⟨_,rfl,fun h=>(by cases h),fun a=>by have:=a.l2;omega⟩
 split
 ·exact⟨_,rfl,fun h=>(by cases h),fun a=>by have:=a.m;omega⟩
 rcases cZ (L:=fun k j (_:Unit)=>iA n k ((),j,v,())) (len:=v.2.length) (fun _=>()) (alA v) (fun i=> .inl ((i:Int),131,())) (.inr ()) (by
  intro k j g _;show(_∧iA n (k+1) _=_)∨(_∧iA n (k+1) _=_);obtain⟨b,e,h⟩:=alC (n:=n) g o F u;rw[yc,bP0,e]
  cases b with
  |true=>simp only[aa,aY,av];rw[aN];exact .inl ⟨h.1 rfl,rfl⟩
  |false=>exact .inr ⟨fun a=>(by have:=h.2 a;cases this),rfl⟩) (by
  intro k;show iA n (k+1) _=_;rw[yc,bN0]) n (by omega)with⟨d,q⟩|⟨j,d,q,B,D⟩
 case inr=>rw[D];exact⟨_,rfl,fun h=>(by cases h),fun h=>absurd (h.ms j d) B⟩
 rw[q];exact⟨_,rfl,fun _=>⟨by omega,c,by omega,by omega,d⟩,fun _=>rfl⟩
def IL(v:D7)(i:Nat):List (List UInt8×Int):=(List.range i).map (fun j=>(zw v j,(j:Int)))
def FD(v:D7)(i:Nat):List ((Int×Int)×Int):=(List.range i).map (fun j=>(((uh v j).1,(uh v j).2.1),(j:Int)))
theorem anD(v:D7)(i:Nat):IL v (i+1)=IL v i++[(zw v i,(i:Int))]:=by unfold IL;rw[List.range_succ,eu];rfl
theorem anE(v:D7)(i:Nat):FD v (i+1)=FD v i++[(((uh v i).1,(uh v i).2.1),(i:Int))]:=by unfold FD;rw[List.range_succ,eu];rfl
theorem aee{p:Prop}{o:Option Int}(h:o.isSome=true↔p):(¬ p→o.isSome=false):=fun b=>by
 cases a:o.isSome with
 |false=>rfl
 |true=>exact absurd (h.1 a) b
theorem Lx{n:Nat}{v:D7}(Z:v.1.length≤1048576)(W:v.2.length≤1048576)(Y:∀x∈v.1,x.length≤1048576)(J:Hn0 n):∃r,nW n v=some r∧(r.2=0↔Lv v):=by
 rw[Vo,ag]
 split
 ·rename_i h;rw[bx]at h;exact⟨_,rfl,fun h=>(by cases h),fun D=>by have:=D.l;omega⟩
 rename_i S;rw[bx]at S;rcases cZ (L:=fun k j s=>gX n k ((),(),v.1,(v.1.length:Int),j,v,s,())) (len:=v.1.length) (IL v) (aeb v) (fun i=> .inl ((i:Int),130,())) (.inr ((),v,())) (by
  intro k j O _;show(_∧gX n (k+1) _=_)∨(_∧gX n (k+1) _=_);rw[Ao,bP0,Wq O];simp only[aa];have o:=Lu (k:=.str) (v:=.int .i64) rfl (x:=zw v j) (IL v j);have u:(∃p∈IL v j,p.1=zw v j)↔¬ ∀k,k<j→zw v k≠zw v j:=by
   constructor
   ·rintro⟨p,y,h⟩ w;obtain⟨q,z,rfl⟩:=List.mem_map.1 y;exact w q (List.mem_range.1 z) h
   ·intro h;apply Decidable.byContradiction;intro N;exact h fun k w I=>N ⟨_,List.mem_map.2 ⟨k,List.mem_range.2 w,rfl⟩,I⟩
  have o:=o.trans u;have H:=aec (s:=zw v j) (i:=j)
  by_cases d:aeb v j
  ·have B:Option.isSome (IY (Ty.Jb Ty.str) (IL v j) (zw v j))=false:=aee o (fun h=>h d.1);have Q:((zw v j==([]:List UInt8))==((j:Int)==0))=true:=H.2 d.2.1;rw[B,Q];have X:=d.2.2;simp only[aY,av];rw[decide_eq_false (show ¬ ((((zw v j).length:Nat):Int)>64)by omega)];simp only[aa];rw[aN];refine .inl ⟨d,?_⟩;have J:∀p∈IL v j,p.1≠zw v j:=by
    intro p y;obtain⟨q,z,rfl⟩:=List.mem_map.1 y;exact d.1 q (List.mem_range.1 z)
   have K:OJ (Ty.Jb Ty.str) (IL v j) (zw v j) (j:Int)=IL v (j+1):=by
    rw[anD];exact L7 (k:=.str) (v:=.int .i64) rfl _ J
   exact congrArg (fun s=>gX n k ((),(),v.1,(v.1.length:Int),(j:Int)+1,v,s,())) K
  ·refine .inr ⟨d,?_⟩;have R:∀a b c:Bool,(a=true∨b=false∨c=true)→av a (some true) (av (!b) (some true) (some c))=some true:=by
    intro a b c h;rcases h with rfl |rfl |rfl
    ·rfl
    ·cases a<;>rfl
    ·cases a<;>cases b<;>rfl
   rw[R _ _ _ ?_]
   ·rfl
   ·by_cases g:∀k,k<j→zw v k≠zw v j
    ·by_cases E:zw v j=[]↔j=0
     ·right;right;rw[bx];have F:¬ (zw v j).length≤64:=fun F=>d ⟨g,E,F⟩;omega
     ·right;left;rw[←ew];exact fun h=>E (H.1 h)
    ·left;exact o.2 g) (by
  intro k;show gX n (k+1) _=_;rw[Ao,bN0]) n (by omega)with⟨g,E⟩|⟨j,g,E,F,T⟩
 case inr=>
  rw[show([]:List (List UInt8×Int))=IL v 0 from rfl,T];exact⟨_,rfl,fun h=>(by cases h),fun h=>absurd (h.t j g) F⟩
 rw[show([]:List (List UInt8×Int))=IL v 0 from rfl,E];simp only[aa,cI,ag,bx]
 split
 ·exact⟨_,rfl,fun h=>(by cases h),fun D=>by have:=D.l2;omega⟩
 split
 ·exact⟨_,rfl,fun h=>(by cases h),fun D=>by have:=D.m;omega⟩
 rcases cZ (L:=fun k j s=>fY n k ((),(),v.2,(v.2.length:Int),j,v,s,())) (len:=v.2.length) (FD v) (alA v) (fun i=> .inl ((i:Int),131,())) (.inr ()) (by
  intro k j O _;show(_∧fY n (k+1) _=_)∨(_∧fY n (k+1) _=_);rw[xX,bP0,anA O];simp only[aa];obtain⟨b,e,h⟩:=aed (n:=n) (v:=v) (i:=j) Y (f:=mX n) (fun x=>anB);rw[e];have o:=Lu (k:=.pair (.int .i64) (.int .i64)) (v:=.int .i64) rfl (x:=((uh v j).1,(uh v j).2.1)) (FD v j);have u:(∃p∈FD v j,p.1=((uh v j).1,(uh v j).2.1))↔¬ ∀k,k<j→¬ ((uh v k).1=(uh v j).1∧(uh v k).2.1=(uh v j).2.1):=by
   constructor
   ·rintro⟨p,y,h⟩ w;obtain⟨q,z,rfl⟩:=List.mem_map.1 y;exact w q (List.mem_range.1 z) ⟨(Prod.mk.inj h).1,(Prod.mk.inj h).2⟩
   ·intro h;apply Decidable.byContradiction;intro N;exact h fun k w I=>N ⟨_,List.mem_map.2 ⟨k,List.mem_range.2 w,rfl⟩,Prod.ext I.1 I.2⟩
  have o:=o.trans u
  by_cases d:alA v j
  ·have B:Option.isSome (IY (Ty.Jb (Ty.pair (Ty.int bz) (Ty.int bz))) (FD v j) ((uh v j).1,(uh v j).2.1))=false:=aee o (fun h=>h d.2);rw[B,h.2 d.1];simp only[av,aa];rw[aN];refine .inl ⟨d,?_⟩;have J:∀p∈FD v j,p.1≠((uh v j).1,(uh v j).2.1):=by
    intro p y h;obtain⟨q,z,rfl⟩:=List.mem_map.1 y;exact d.2 q (List.mem_range.1 z) ⟨(Prod.mk.inj h).1,(Prod.mk.inj h).2⟩
   have K:OJ (Ty.Jb (Ty.pair (Ty.int bz) (Ty.int bz))) (FD v j) ((uh v j).1,(uh v j).2.1) (j:Int)=FD v (j+1):=by
    rw[anE];exact L7 (k:=.pair (.int .i64) (.int .i64)) (v:=.int .i64) rfl _ J
   exact congrArg (fun s=>fY n k ((),(),v.2,(v.2.length:Int),(j:Int)+1,v,s,())) K
  ·refine .inr ⟨d,?_⟩
   by_cases g:∀k,k<j→¬ ((uh v k).1=(uh v j).1∧(uh v k).2.1=(uh v j).2.1)
   ·have H:b=true:=by
     cases b with
     |true=>rfl
     |false=>exact absurd ⟨h.1 rfl,g⟩ d
    rw[H,eC];simp[av]
   ·have B:Option.isSome (IY (Ty.Jb (Ty.pair (Ty.int bz) (Ty.int bz))) (FD v j) ((uh v j).1,(uh v j).2.1))=true:=o.2 g;rw[B];rfl) (by
  intro k;show fY n (k+1) _=_;rw[xX,bN0]) n (by omega)with⟨M,P⟩|⟨j,M,P,U,V⟩
 case inr=>
  rw[show([]:List ((Int×Int)×Int))=FD v 0 from rfl,V];exact⟨_,rfl,fun h=>(by cases h),fun h=>absurd (h.ms j M) U⟩
 rw[show([]:List ((Int×Int)×Int))=FD v 0 from rfl,P];exact⟨_,rfl,fun _=>⟨by omega,g,by omega,by omega,M⟩,fun _=>rfl⟩
theorem ayr{l:List Int}(h:bh l)(i:Nat):0≤gn (fun i=>i7 (l.getD i 0)) i∧gn (fun i=>i7 (l.getD i 0)) i≤i*128:=by
 refine FA _ fun j _=> ?_;have a:=h.at j;unfold i7
 split<;>omega
theorem alD{n:Nat}{w:List Int}{r c:Nat}(h:w.length=r*c)(D:r*c≤1048576)(E:1≤c)(q:bh w)(F:Hn0 n):vY n (w,(c:Int))=some (dL (fun j=>gq (eG w c j)) r,0):=by
 have H:r≤1048576:=by
  have:=cy r (show 0<c by omega);omega
 have g:w.length % c=0:=by rw[h];exact Nat.mul_mod_left _ _
 have t:w.length/c=r:=by rw[h];exact Nat.mul_div_cancel _ (by omega)
 have d:I6 w (c:Int)=0:=by
  unfold I6;rw[gk,gk]
 rw[VQ,He,d];simp only[aa,ag];rw[if_neg (by simp)];have o:=ba (L:=fun k j s=>kI n k (w,(c:Int),s,j*(c:Int),())) (len:=r) (r:=(dL (fun j=>gq (eG w c j)) r,())) (fun j=>dL (fun j=>gq (eG w c j)) j) ?_ ?_ n (by omega)
 ·rw[Int.zero_mul,eF]at o;rw[o];rfl
 ·intro k j y;have a:j<w.length/c:=by rw[t];exact y
  have p:=Mf g a;have z:=tZ g a;have b:bh (eG w c j):=q.sub _ _;show kI n (k+1) _=_;rw[show(j:Int)*(c:Int)=((j*c:Nat):Int)by simp];rw[AJ,bP0,aN (x:=((j*c:Nat):Int)+(c:Int)),aa7 g a];simp only[aa];have l:=ba (L:=fun k i s=>iD n k (w,(c:Int),dL (fun j=>gq (eG w c j)) j,((j*c:Nat):Int),s,eG w c j,(((eG w c j).length:Nat):Int),i,())) (len:=(eG w c j).length) (r:=(w,(c:Int),dL (fun j=>gq (eG w c j)) j,((j*c:Nat):Int),gq (eG w c j),())) (fun i=>gn (fun i=>i7 ((eG w c j).getD i 0)) i) ?_ ?_ n (by omega)
  ·rw[show gn (fun i=>i7 ((eG w c j).getD i 0)) 0=0 from rfl]at l;rw[l];simp only[aa];rw[fv _ (by unfold room;omega) (by unfold room;omega)];simp only[aa];rw[aN,show((j*c:Nat):Int)+(c:Int)=((j:Int)+1)*(c:Int)by rw[Int.add_mul];simp]
  ·intro k i u;have B:=b.at i;have e:=ayr b i;show iD n (k+1) _=_;rw[yf,bP0,bn u 0];simp only[aa,ag,bx];rw[aN (x:=(eG w c j).getD i 0)];show _=iD n k (w,(c:Int),_,_,gn (fun i=>i7 ((eG w c j).getD i 0)) i+i7 ((eG w c j).getD i 0),_,_,_,());unfold i7
   split
   ·simp only[aa];rw[aN (x:=(i:Int)+1),aN (by unfold i7 at e;omega) (by unfold i7 at e;omega)];rfl
   ·simp only[aa];rw[aN (x:=(i:Int)+1),aN (by unfold i7 at e;omega) (by unfold i7 at e;omega)]
  ·intro k;show iD n (k+1) _=_;rw[yf,ag,if_neg (by simp)];rfl
 ·intro k;show kI n (k+1) _=_;rw[AJ,ag,if_neg (by rw[bx,h];simp)]
structure MOk (m:Mod) (D H half C Hd V L:Nat):Prop where
 uo:Lt D H half C Hd
 v:m.1.1=(V:Int)
 c:m.1.2.1=(C:Int)
 d:m.1.2.2.1=(D:Int)
 h:m.1.2.2.2.1=(H:Int)
 l:m.1.2.2.2.2.1=(L:Int)
 hd:m.1.2.2.2.2.2=(Hd:Int)
 v2:2≤V∧V≤512
 l8:1≤L∧L≤8
 e:m.2.2.1.length=V*D
 es:0≤m.2.2.2.1∧m.2.2.2.1≤24
 cos:m.2.2.2.2.1.length=C*half
 sin:m.2.2.2.2.2.1.length=C*half
 bs:m.2.2.2.2.2.2.1.length=L
 b:∀b∈m.2.2.2.2.2.2.1,IK D Hd b
 be:m.2.2.2.2.2.2.2.1.length=256
 g:m.2.2.2.2.2.2.2.2.1.length=D
 u:m.2.2.2.2.2.2.2.2.2.1.length=V*D
 ls:0≤m.2.2.2.2.2.2.2.2.2.2∧m.2.2.2.2.2.2.2.2.2.2≤31
theorem aoH{s:Shp}(h:Dd s):∃D H half C Hd V L:Nat,Lt D H half C Hd∧s.1=(V:Int)∧s.2.1=(C:Int)∧s.2.2.1=(D:Int)∧s.2.2.2.1=(H:Int)∧s.2.2.2.2.1=(L:Int)∧s.2.2.2.2.2=(Hd:Int)∧(2≤V∧V≤512)∧(1≤L∧L≤8)∧s.2.2.1/s.2.2.2.1/2=(half:Int):=by
 obtain⟨p,q,r,t,u,w,g,i⟩:=h;obtain⟨D,b⟩:∃D:Nat,s.2.2.1=(D:Int):=⟨s.2.2.1.toNat,by omega⟩;obtain⟨H,c⟩:∃H:Nat,s.2.2.2.1=(H:Int):=⟨s.2.2.2.1.toNat,by omega⟩;obtain⟨C,l⟩:∃C:Nat,s.2.1=(C:Int):=⟨s.2.1.toNat,by omega⟩;obtain⟨V,o⟩:∃V:Nat,s.1=(V:Int):=⟨s.1.toNat,by omega⟩;obtain⟨L,n⟩:∃L:Nat,s.2.2.2.2.1=(L:Int):=⟨s.2.2.2.2.1.toNat,by omega⟩;obtain⟨Hd,d⟩:∃Hd:Nat,s.2.2.2.2.2=(Hd:Int):=⟨s.2.2.2.2.2.toNat,by omega⟩;rw[b,c]at g i;have d7:D % H=0:=by omega
 have d8:D/H % 2=0:=by omega
 have a:D=H*(D/H):=(Nat.mul_div_cancel' (Nat.dvd_of_mod_eq_zero d7)).symm;have e:D/H≠0:=by
  intro j;rw[j]at a;omega
 have k:D/H=2*(D/H/2):=by omega
 refine⟨D,H,D/H/2,C,Hd,V,L,⟨by rw[←k];exact a,by omega,by omega,by omega,by omega,by omega,by omega,by omega⟩,o,l,b,c,n,d,by omega,by omega,?_⟩;rw[b,c];simp
theorem p6{α:Type}{l:List α}{i:Nat}(h:i<l.length)(d:α):idx l (i:Int)=some (l.getD i d):=by
 rw[bj h];simp[h]
def arG(l:List Int):Prop:=∀x∈l,0≤x∧x≤31
theorem Tm{l:List Int}:arG l↔∀i,i<l.length→0≤l.getD i 0∧l.getD i 0≤31:=by
 constructor
 ·intro h i a;have:=h _ (am a);simpa[a]using this
 ·intro h x b;obtain⟨i,a,rfl⟩:=aM b;have:=h i a;simpa[a]using this
theorem ajx{n:Nat}{l:List Int}(o:l.length≤1000000)(p:Hn0 n):
  (arG l∧fJ n n (l,(l.length:Int),0,())=some (.inr ()))∨(¬ arG l∧fJ n n (l,(l.length:Int),0,())=some (.inl (162,()))):=by
 rcases cZ (L:=fun k j (_:Unit)=>fJ n k (l,(l.length:Int),j,())) (len:=l.length) (fun _=>()) (fun i=>0≤l.getD i 0∧l.getD i 0≤31) (fun _=> .inl (162,())) (.inr ()) (by
  intro k j g _;show(_∧fJ n (k+1) _=_)∨(_∧fJ n (k+1) _=_);rw[AH,bP0,p6 g 0];simp only[aa];rw[zk];simp only[aa]
  by_cases c:0≤l.getD j 0∧l.getD j 0≤31
  ·rw[decide_eq_true c,aN];exact .inl ⟨c,rfl⟩
  ·rw[decide_eq_false c];exact .inr ⟨c,rfl⟩) (by
  intro k;show fJ n (k+1) _=_;rw[AH,bN0]) n (by omega)with⟨a,b⟩|⟨j,a,b,d,e⟩
 ·exact .inl ⟨Tm.2 a,b⟩
 ·exact .inr ⟨fun h=>d (Tm.1 h j a),e⟩
theorem Tn{n:Nat}{l:List Int}(p:l.length≤1000000)(q:Hn0 n):∃b,jY n l=some b∧(b=true↔arG l):=by
 rw[Sh,lR,nq];rcases cZ (L:=fun k j (_:Unit)=>bB n k (l,(),(l.length:Int),j,())) (len:=l.length) (fun _=>()) (fun i=>0≤l.getD i 0∧l.getD i 0≤31) (fun i=> .inl ((i:Int),())) (.inr ()) (by
  intro k j o _;show(_∧bB n (k+1) _=_)∨(_∧bB n (k+1) _=_);rw[gi,bP0,p6 o 0];simp only[aa];rw[Mz,D8];simp only[aa]
  by_cases c:0≤l.getD j 0∧l.getD j 0≤31
  ·rw[decide_eq_true c,aN];exact .inl ⟨c,rfl⟩
  ·rw[decide_eq_false c];exact .inr ⟨c,rfl⟩) (by
  intro k;show bB n (k+1) _=_;rw[gi,bN0]) n (by omega)with⟨a,d⟩|⟨j,a,d,e,g⟩
 ·rw[d];exact⟨true,rfl,fun _=>Tm.2 a,fun _=>rfl⟩
 ·rw[g];simp only[aa,cI];rw[decide_eq_true (show(j:Int)≥0 by omega)];exact⟨false,rfl,fun h=>(by cases h),fun h=>absurd (Tm.1 h j a) e⟩
theorem PV{n:Nat}{d:Int}{l:List (List Int)}(t:l.length≤1000000)(u:Hn0 n):∃b,i9 n (d,l)=some b∧(b=true↔∀x∈l,(x.length:Int)=d):=by
 rw[K5];rcases cZ (L:=fun k j (_:Unit)=>fq n k (d,l,(l.length:Int),j,())) (len:=l.length) (fun _=>()) (fun i=>((l.getD i []).length:Int)=d) (fun _=> .inl (false,())) (.inr ()) (by
  intro k j q _;show(_∧fq n (k+1) _=_)∨(_∧fq n (k+1) _=_);rw[tT,bP0,p6 q []];simp only[aa,ag,bne_iff_ne,ne_eq]
  split
  ·rename_i c;exact .inr ⟨c,rfl⟩
  ·rename_i c;rw[aN];exact .inl ⟨Decidable.not_not.1 c,rfl⟩) (by
  intro k;show fq n (k+1) _=_;rw[tT,bN0]) n (by omega)with⟨a,e⟩|⟨j,a,e,o,p⟩
 ·rw[e];refine⟨true,rfl,fun _ x r=> ?_,fun _=>rfl⟩;obtain⟨i,g,rfl⟩:=aM r;have:=a i g;simpa[g]using this
 ·rw[p];refine⟨false,rfl,fun h=>(by cases h),fun h=>absurd ?_ o⟩;have:=h _ (am a);simpa[a]using this
theorem aoI{D Hd:Nat}{b:FP}:IK D Hd b↔(b.1.length=D∧b.2.2.2.2.2.1.length=D)∧(b.2.1.length=D*D∧b.2.2.1.length=D*D∧b.2.2.2.1.length=D*D∧b.2.2.2.2.1.length=D*D)∧
  (b.2.2.2.2.2.2.2.2.2.2.2.1.length=Hd*D∧b.2.2.2.2.2.2.2.2.2.2.2.2.1.length=Hd*D∧b.2.2.2.2.2.2.2.2.2.2.2.2.2.1.length=D*Hd)∧
  arG [b.2.2.2.2.2.2.1,b.2.2.2.2.2.2.2.1,b.2.2.2.2.2.2.2.2.1,b.2.2.2.2.2.2.2.2.2.1,b.2.2.2.2.2.2.2.2.2.2.1,b.2.2.2.2.2.2.2.2.2.2.2.2.2.2.1,b.2.2.2.2.2.2.2.2.2.2.2.2.2.2.2.1,b.2.2.2.2.2.2.2.2.2.2.2.2.2.2.2.2]:=by
 constructor
 ·intro h;refine⟨⟨h.g1,h.g2⟩,⟨h.q,h.k,h.v,h.o⟩,⟨h.m1,h.m2,h.m3⟩,?_⟩;intro x a;simp only[List.mem_cons,List.not_mem_nil,or_false]at a;rcases a with rfl |rfl |rfl |rfl |rfl |rfl |rfl |rfl
  ·exact h.qs
  ·exact h.ks
  ·exact h.vs
  ·exact h.os
  ·exact h.ss
  ·exact h.gs
  ·exact h.us
  ·exact h.ds
 ·rintro⟨⟨c,d⟩,⟨e,g,i,j⟩,⟨l,n,p⟩,h⟩;exact⟨c,e,g,i,j,d,l,n,p,h _ (by simp),h _ (by simp),h _ (by simp),h _ (by simp),h _ (by simp),h _ (by simp),h _ (by simp),h _ (by simp)⟩
theorem alE{n:Nat}{s:Shp}{b:FP}{D Hd:Nat}(p:s.2.2.1=(D:Int))(q:s.2.2.2.2.2=(Hd:Int))(a:D≤64)(c:Hd≤256)(t:Hn0 n):∃r,vU n (s,b)=some r∧(r=0↔IK D Hd b):=by
 have m1:D*D≤64*64:=bD a a;have u:Hd*D≤256*64:=bD c a;have w:D*Hd≤64*256:=bD a c;have j:ae .i64 ((D:Int)*(D:Int))=((D*D:Nat):Int):=by rw[show(D:Int)*(D:Int)=((D*D:Nat):Int)by simp];exact aN
 have k:ae .i64 ((Hd:Int)*(D:Int))=((Hd*D:Nat):Int):=by rw[show(Hd:Int)*(D:Int)=((Hd*D:Nat):Int)by simp];exact aN
 have o:ae .i64 ((D:Int)*(Hd:Int))=((D*Hd:Nat):Int):=by rw[show(D:Int)*(Hd:Int)=((D*Hd:Nat):Int)by simp];exact aN
 rw[VO,p,q,j,k,o,aoI];simp only[eC,aa]
 by_cases d:(b.1.length=D∧b.2.2.2.2.2.1.length=D)∧(b.2.1.length=D*D∧b.2.2.1.length=D*D∧b.2.2.2.1.length=D*D∧b.2.2.2.2.1.length=D*D)
 case neg=>
  refine⟨161,?_,fun h=>(by cases h),fun h=>absurd ⟨h.1,h.2.1⟩ d⟩;rw[ag,if_pos];simp only[aD,bne_iff_ne,ne_eq];omega
 rw[ag,if_neg (by simp only[aD,bne_iff_ne,ne_eq];omega)]
 by_cases i:(b.2.2.2.2.2.2.2.2.2.2.2.1.length=Hd*D∧b.2.2.2.2.2.2.2.2.2.2.2.2.1.length=Hd*D∧b.2.2.2.2.2.2.2.2.2.2.2.2.2.1.length=D*Hd)
 case neg=>
  refine⟨161,?_,fun h=>(by cases h),fun h=>absurd h.2.2.1 i⟩;rw[ag,if_pos];simp only[aD,bne_iff_ne,ne_eq];omega
 rw[ag,if_neg (by simp only[aD,bne_iff_ne,ne_eq];omega)];rcases ajx (n:=n) (l:=[b.2.2.2.2.2.2.1,b.2.2.2.2.2.2.2.1,b.2.2.2.2.2.2.2.2.1,b.2.2.2.2.2.2.2.2.2.1,b.2.2.2.2.2.2.2.2.2.2.1,b.2.2.2.2.2.2.2.2.2.2.2.2.2.2.1,b.2.2.2.2.2.2.2.2.2.2.2.2.2.2.2.1,b.2.2.2.2.2.2.2.2.2.2.2.2.2.2.2.2]) (by simp) t with⟨e,g⟩|⟨e,g⟩
 ·rw[g];exact⟨0,rfl,fun _=>⟨d.1,d.2,i,e⟩,fun _=>rfl⟩
 ·rw[g];exact⟨162,rfl,fun h=>(by cases h),fun h=>absurd h.2.2.2 e⟩
theorem ny{b:Bool}{p:Prop}(h:b=true↔p):(p∧b=true)∨(¬ p∧b=false):=by
 cases b with
 |true=>exact .inl ⟨h.1 rfl,rfl⟩
 |false=>exact .inr ⟨fun a=>(by have:=h.2 a;cases this),rfl⟩
theorem alF{n:Nat}{s:Shp}{b:FP}{D Hd:Nat}(B:s.2.2.1=(D:Int))(E:s.2.2.2.2.2=(Hd:Int))(a:D≤64)(e:Hd≤256)(c:Hn0 n):∃r,vy n (s,b)=some r∧(r=0↔IK D Hd b):=by
 have m1:D*D≤64*64:=bD a a;have K:D*Hd≤64*256:=bD a e;have t:ae .i64 ((D:Int)*(D:Int))=((D*D:Nat):Int):=by rw[show(D:Int)*(D:Int)=((D*D:Nat):Int)by simp];exact aN
 have u:ae .i64 ((D:Int)*(Hd:Int))=((D*Hd:Nat):Int):=by rw[show(D:Int)*(Hd:Int)=((D*Hd:Nat):Int)by simp];exact aN
 rw[Vq,B,E,t,u,aoI,Nat.mul_comm Hd D];obtain⟨b1,w,i⟩:=PV (n:=n) (d:=(D:Int)) (l:=[b.1,b.2.2.2.2.2.1]) (by simp) c;obtain⟨H,x,j⟩:=PV (n:=n) (d:=((D*D:Nat):Int)) (l:=[b.2.1,b.2.2.1,b.2.2.2.1,b.2.2.2.2.1]) (by simp) c;obtain⟨I,y,k⟩:=PV (n:=n) (d:=((D*Hd:Nat):Int)) (l:=[b.2.2.2.2.2.2.2.2.2.2.2.1,b.2.2.2.2.2.2.2.2.2.2.2.2.1,b.2.2.2.2.2.2.2.2.2.2.2.2.2.1]) (by simp) c;obtain⟨J,z,F⟩:=Tn (n:=n) (l:=[b.2.2.2.2.2.2.1,b.2.2.2.2.2.2.2.1,b.2.2.2.2.2.2.2.2.1,b.2.2.2.2.2.2.2.2.2.1,b.2.2.2.2.2.2.2.2.2.2.1,b.2.2.2.2.2.2.2.2.2.2.2.2.2.2.1,b.2.2.2.2.2.2.2.2.2.2.2.2.2.2.2.1,b.2.2.2.2.2.2.2.2.2.2.2.2.2.2.2.2]) (by simp) c;simp only[List.mem_cons,List.not_mem_nil,or_false,forall_eq_or_imp,forall_eq]at i j k;rw[w];simp only[aa];rcases ny i with⟨o,rfl⟩|⟨o,rfl⟩
 case inr=>exact⟨161,rfl,fun h=>(by cases h),fun h=>absurd ⟨by omega,by omega⟩ o⟩
 rw[x];simp only[aa,aY,bU];rcases ny j with⟨p,rfl⟩|⟨p,rfl⟩
 case inr=>exact⟨161,rfl,fun h=>(by cases h),fun h=>absurd ⟨by omega,by omega,by omega,by omega⟩ p⟩
 rw[y];simp only[aa,aY,bU];rcases ny k with⟨q,rfl⟩|⟨q,rfl⟩
 case inr=>exact⟨161,rfl,fun h=>(by cases h),fun h=>absurd ⟨by omega,by omega,by omega⟩ q⟩
 rw[z];simp only[aa,aY,bU];rcases ny F with⟨g,rfl⟩|⟨g,rfl⟩
 case inr=>exact⟨162,rfl,fun h=>(by cases h),fun h=>absurd h.2.2.2 g⟩
 exact⟨0,rfl,fun _=>⟨⟨by omega,by omega⟩,⟨by omega,by omega,by omega,by omega⟩,⟨by omega,by omega,by omega⟩,g⟩,fun _=>rfl⟩
def abb(m:Mod):Prop:=Dd m.1∧Lv m.2.1∧(m.2.1.1.length:Int)=m.1.1∧∃D H half C a V L,MOk m D H half C a V L
theorem To{a b c:Nat}(h:a*b≤c)(d:c≤1000000000):ae .i64 ((a:Int)*(b:Int))=((a*b:Nat):Int):=by
 rw[show(a:Int)*(b:Int)=((a*b:Nat):Int)by simp];exact aN
theorem ahm{m:Mod}{D H half C Hd V L:Nat}(e:m.1.2.2.1/m.1.2.2.2.1/2=(half:Int))(M:m.1.1=(V:Int))(N:m.1.2.1=(C:Int))(O:m.1.2.2.1=(D:Int))(P:m.1.2.2.2.1=(H:Int))(Q:m.1.2.2.2.2.1=(L:Int))(R:m.1.2.2.2.2.2=(Hd:Int))
  (h:∃D H half C Hd V L,MOk m D H half C Hd V L):MOk m D H half C Hd V L:=by
 obtain⟨g,i,a,k,j,o,n,b⟩:=h;have F:=b.v;have I:=b.c;have p:=b.d;have q:=b.h;have J:=b.l;have K:=b.hd;have r:o=V:=by omega
 have t:k=C:=by omega
 have u:g=D:=by omega
 have w:i=H:=by omega
 have x:n=L:=by omega
 have y:j=Hd:=by omega
 have z:a=half:=by
  have B:g/i=2*a:=by rw[b.uo.d];exact Nat.mul_div_cancel_left _ b.uo.hh
  rw[p,q]at e;have E:(g:Int)/(i:Int)/2=((g/i/2:Nat):Int):=by simp
  rw[E,B]at e;omega
 subst r t u w x y z;exact b
theorem alG{n:Nat}{m:Mod}(hm:agf m)(hn:Hn0 n):∃r,vW n m=some r∧(r.2.2=0↔abb m):=by
 have hbs:=hm.bs;obtain⟨vr,hvr,p⟩:=Lw (n:=n) (v:=m.2.1) hm.t hm.ms hm.tt hn;rw[VP,XS];simp only[aa,ag,bne_iff_ne,ne_eq]
 by_cases z:Dd m.1
 case neg=>
  rw[Bo z,if_pos (by decide)];exact⟨_,rfl,fun h=>(by cases h),fun h=>absurd h.1 z⟩
 rw[Ml z,if_neg (by simp),hvr];simp only[aa]
 by_cases B:¬ vr.2=0
 ·rw[if_pos B];exact⟨_,rfl,fun h=>absurd h B,fun h=>absurd (p.2 h.2.1) B⟩
 rw[if_neg B];have O:=p.1 (Decidable.not_not.1 B);have l:=anx (n:=n) z;obtain⟨D,H,half,C,Hd,V,L,d,T,W,F,hH,S,w,I,X,K⟩:=aoH z;rw[K]at l;have c:=ahm (m:=m) K T W F hH S w;have g1:=d.dm;have g2:=d.hm;have g3:=d.cm;have g4:=d.hle;have m1:V*D≤512*64:=bD I.2 g1;have m2:C*half≤512*64:=bD g3 (by omega);have e1:=To m1 (by omega);have e2:=To m2 (by omega)
 by_cases P:¬ (m.2.1.1.length:Int)=m.1.1
 ·rw[if_pos P];exact⟨_,rfl,fun h=>(by cases h),fun h=>absurd h.2.2.1 P⟩
 rw[if_neg P,T,F,e1]
 by_cases U:¬ (m.2.2.1.length:Int)=((V*D:Nat):Int)
 ·rw[if_pos U];exact⟨_,rfl,fun h=>(by cases h),fun h=>absurd (by rw[(c h.2.2.2).e]) U⟩
 rw[if_neg U,zk];simp only[aa]
 by_cases x:¬ (0≤m.2.2.2.1∧m.2.2.2.1≤24)
 ·rw[if_pos (by simp only[aZ,decide_eq_false_iff_not];exact x)];exact⟨_,rfl,fun h=>(by cases h),fun h=>absurd (c h.2.2.2).es x⟩
 have x:=Decidable.not_not.1 x;rw[if_neg (by simp only[aZ,decide_eq_false_iff_not];exact fun h=>h x)];rcases cZ (L:=fun k j (_:Unit)=>iB n k ((),(),[m.2.2.2.2.1,m.2.2.2.2.2.1],(([m.2.2.2.2.1,m.2.2.2.2.2.1].length:Nat):Int),j,m,m.1,())) (len:=2) (fun _=>())
  (fun i=>(([m.2.2.2.2.1,m.2.2.2.2.2.1]:List (List Int)).getD i []).length=C*half) (fun i=> .inl (4,(i:Int),161,())) (.inr ((),(),m,m.1,())) (by
  intro k j o _;show(_∧iB n (k+1) _=_)∨(_∧iB n (k+1) _=_);rw[yd,ag,if_pos (by rw[bx];simp only[bg,dr];omega),p6 (show j<([m.2.2.2.2.1,m.2.2.2.2.2.1]:List (List Int)).length from o) []];simp only[aa,ag,bne_iff_ne,ne_eq];rw[l];simp only[aa];rw[W,e2]
  by_cases d1:¬ (((([m.2.2.2.2.1,m.2.2.2.2.2.1]:List (List Int)).getD j []).length:Nat):Int)=((C*half:Nat):Int)
  ·rw[if_pos d1];exact .inr ⟨by omega,rfl⟩
  ·rw[if_neg d1,aN];exact .inl ⟨by omega,rfl⟩) (by
  intro k;show iB n (k+1) _=_;rw[yd,ag,if_neg (by simp)]) n (by omega)with⟨Q,h2⟩|⟨j,Q,h2,E,R⟩
 case inr=>
  rw[R];refine⟨_,rfl,fun h=>(by cases h),fun h=>absurd ?_ E⟩;have ho:=c h.2.2.2
  match j,Q with
  |0,_=>exact ho.cos
  |1,_=>exact ho.sin
 rw[h2];simp only[aa,cI];have J:m.2.2.2.2.1.length=C*half:=Q 0 (by omega);have N:m.2.2.2.2.2.1.length=C*half:=Q 1 (by omega);rcases cZ (L:=fun k j (_:Unit)=>(iC n k ((),(),m.2.2.2.2.2.2.1,(m.2.2.2.2.2.2.1.length:Int),j,m,m.1,())).map (fun q=>match q with |.inl q=>Sum.inl (decide (q.2.2.1=0))|.inr q=> .inr q)) (len:=m.2.2.2.2.2.2.1.length) (fun _=>())
  (fun i=>i<L∧∀(h:i<m.2.2.2.2.2.2.1.length),IK D Hd m.2.2.2.2.2.2.1[i]) (fun _=> .inl false) (.inr ((),(),m,m.1,())) (by
  intro k j o _;show(_∧Option.map _ (iC n (k+1) _)=_)∨(_∧Option.map _ (iC n (k+1) _)=_);obtain⟨r,hr,M⟩:=alE (n:=n) (s:=m.1) (b:=m.2.2.2.2.2.2.1[j]) (D:=D) (Hd:=Hd) F w g1 g2 hn;rw[ye,bP0,bj o];simp only[aa,ag,bne_iff_ne,ne_eq,bx];rw[S]
  by_cases d1:(j:Int)≥(L:Int)
  ·rw[if_pos d1];exact .inr ⟨fun h=>absurd h.1 (by omega),rfl⟩
  rw[if_neg d1,hr];simp only[aa]
  by_cases d2:¬ r=0
  ·rw[if_pos d2];exact .inr ⟨fun h=>absurd (M.2 (h.2 o)) d2,by simp[d2]⟩
  ·rw[if_neg d2,aN];exact .inl ⟨⟨by omega,fun _=>M.1 (Decidable.not_not.1 d2)⟩,rfl⟩) (by
  intro k;show Option.map _ (iC n (k+1) _)=_;rw[ye,ag,if_neg (by simp)];rfl) n (by omega)with⟨E,R⟩|⟨j,E,R,h5,h6⟩
 case inr=>
  obtain⟨q,Z,a⟩:=Option.map_eq_some_iff.1 h6;rw[Z]
  match q,a with
  |.inl q,a=>
   have hz:¬ q.2.2.1=0:=by simpa using a
   refine⟨_,rfl,fun h=>absurd h hz,fun h=>absurd ⟨?_,fun o=> ?_⟩ h5⟩
   ·have:=(c h.2.2.2).bs;omega
   ·exact(c h.2.2.2).b _ (am o)
  |.inr q,a=>cases a
 obtain⟨q,Z,a⟩:=Option.map_eq_some_iff.1 R;rw[Z]
 match q,a with
 |.inl q,a=>cases a
 |.inr q,a=>
 have a:q=((),(),m,m.1,()):=by simpa using a
 subst a;simp only[aa];rw[S,F,T,e1];simp only[bx]
 by_cases c5:(m.2.2.2.2.2.2.1.length:Int)<(L:Int)
 ·rw[if_pos c5];exact⟨_,rfl,fun h=>(by cases h),fun h=>(by have:=(c h.2.2.2).bs;omega)⟩
 rw[if_neg c5]
 by_cases c6:¬ (m.2.2.2.2.2.2.2.1.length:Int)=256
 ·rw[if_pos c6];exact⟨_,rfl,fun h=>(by cases h),fun h=>(by have:=(c h.2.2.2).be;omega)⟩
 rw[if_neg c6]
 by_cases c7:¬ (m.2.2.2.2.2.2.2.2.1.length:Int)=(D:Int)
 ·rw[if_pos c7];exact⟨_,rfl,fun h=>(by cases h),fun h=>(by have:=(c h.2.2.2).g;omega)⟩
 rw[if_neg c7]
 by_cases c8:¬ (m.2.2.2.2.2.2.2.2.2.1.length:Int)=((V*D:Nat):Int)
 ·rw[if_pos c8];exact⟨_,rfl,fun h=>(by cases h),fun h=>(by have:=(c h.2.2.2).u;omega)⟩
 rw[if_neg c8,zk];simp only[aa]
 by_cases y:¬ (0≤m.2.2.2.2.2.2.2.2.2.2∧m.2.2.2.2.2.2.2.2.2.2≤31)
 ·rw[if_pos (by simp only[aZ,decide_eq_false_iff_not];exact y)];exact⟨_,rfl,fun h=>(by cases h),fun h=>absurd (c h.2.2.2).ls y⟩
 have y:=Decidable.not_not.1 y;rw[if_neg (by simp only[aZ,decide_eq_false_iff_not];exact fun h=>h y)];have Y:m.2.2.2.2.2.2.1.length=L:=by
  by_cases h0:m.2.2.2.2.2.2.1.length=0
  ·omega
  ·have:=(E (m.2.2.2.2.2.2.1.length -1) (by omega)).1;omega
 refine⟨_,rfl,fun _=>⟨z,O,Decidable.not_not.1 P,D,H,half,C,Hd,V,L,d,T,W,F,hH,S,w,I,X,by omega,x,J,N,Y,fun b hb=> ?_,by omega,by omega,by omega,y⟩,fun _=>rfl⟩;obtain⟨j,o,rfl⟩:=aM hb;exact(E j o).2 o
end Go.Am.Pu
