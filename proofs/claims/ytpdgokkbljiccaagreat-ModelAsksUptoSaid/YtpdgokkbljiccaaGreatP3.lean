import Derived.Test.YtpdgokkbljiccaaGreatP2
import Derived.Test.YtpdgokkbljiccaaGreatA3
set_option linter.unusedVariables false
set_option linter.unusedSimpArgs false
open Bool renaming and_eq_true→ah,not_eq_true'→cd,not_true→cD,or_eq_true→dr
open Int renaming mul_le_mul_of_nonneg_right→dA,toNat_natCast→aH
open Go.IntKind renaming i64→bx,wrap→ae
open List renaming getD_eq_getElem?_getD→bd,getElem?_eq_getElem→ai,getElem?_eq_none→bv,getElem_mem→ap,getElem_of_mem→cZ,length_cons→ca,length_nil→cH,map_append→acl,mem_cons_of_mem→bK,mem_cons_self→cC,range→abY,take_zero→abZ
open Nat renaming le_mul_of_pos_right→bM,le_refl→av,mul_le_mul_right→aW,mul_le_mul→aT
open Option renaming bind_some→aa
namespace Go.Am.Pu
open Go Go.Am
structure aap (b:vz):Prop where
 g1:b.1.length≤1000000000
 q:b.2.1.length≤1000000000
 k:b.2.2.1.length≤1000000000
 v:b.2.2.2.1.length≤1000000000
 o:b.2.2.2.2.1.length≤1000000000
 g2:b.2.2.2.2.2.1.length≤1000000000
 m1:b.2.2.2.2.2.2.2.2.2.2.2.1.length≤1000000000
 m2:b.2.2.2.2.2.2.2.2.2.2.2.2.1.length≤1000000000
 m3:b.2.2.2.2.2.2.2.2.2.2.2.2.2.1.length≤1000000000
theorem ab4{l:List Int}{b:Nat}(h:l.length≤1000000000:=by omega)(a:b≤1000:=by omega):app b [] l=some l:=by
 unfold app;rw[if_pos]
 ·rfl
 ·have:l.length*b≤1000000000*1000:=aT h a;unfold room;simp;omega
theorem bU{n:Nat}{l:List Int}(h:l.length≤1000000000:=by omega):bg n l=some l:=by
 rw[NP,ab4 h (by omega)];rfl
noncomputable def ot(b:vz)(f:En):List (List Int)→gH→List (List Int)→Int⊕(gH×List (List Int))
 |[],all,a=> .inr (all,a)
 |x::c,all,a=>
  if(ko b f x (all.length:Int)).2≠0 then .inl (ko b f x (all.length:Int)).2 else
  if(Ce b f x (all++[(ko b f x (all.length:Int)).1])).2≠0 then .inl (Ce b f x (all++[(ko b f x (all.length:Int)).1])).2 else
  ot b f c (all++[(ko b f x (all.length:Int)).1]) (a++[(Ce b f x (all++[(ko b f x (all.length:Int)).1])).1])
noncomputable def sO(b:vz)(f:En)(a:List (List Int))(aC:gH):List (List Int)×gH×Int:=
 match ot b f a aC []with
 |.inl e=>([],[],e)
 |.inr r=>(r.2,r.1.drop aC.length,0)
theorem I9{b:vz}{f:En}{x:List Int}{p:Int}:aO (ko b f x p).1.1∧aO (ko b f x p).1.2:=by
 have a:aO []:=fun x c=>(by cases c);unfold ko;simp only
 split
 ·exact⟨a,a⟩
 ·split
  ·exact⟨a,a⟩
  ·split
   ·exact⟨a,a⟩
   ·split
    ·exact⟨a,a⟩
    ·exact⟨Br.aO,fS.aO⟩
theorem Eo{b:vz}{f:En}:∀{c:List (List Int)} {all:gH} {a:List (List Int)} {r:gH×List (List Int)},ot b f c all a= .inr r→r.1.length=all.length+c.length∧r.2.length=a.length+c.length∧all<+:r.1∧((∀p∈all,aO p.1∧aO p.2)→∀p∈r.1,aO p.1∧aO p.2)∧((∀y∈a,eJ y)→∀y∈r.2,eJ y):=by
 intro c
 induction c with
 |nil=>
  intro all a r h;simp only[ot,Sum.inr.injEq]at h;subst h;exact⟨by simp,by simp,List.prefix_rfl,fun h=>h,fun h=>h⟩
 |cons x c q=>
  intro all a r h;simp only[ot]at h
  split at h
  ·cases h
  ·split at h
   ·cases h
   ·obtain⟨j,k,l,n,o⟩:=q h;refine⟨by simp at j ⊢;omega,by simp at k ⊢;omega,(List.prefix_append _ _).trans l,fun i=>n ?_,fun i=>o ?_⟩
    ·intro p d;rcases List.mem_append.1 d with d |d
     ·exact i p d
     ·rw[List.mem_singleton.1 d];exact I9
    ·intro y g;rcases List.mem_append.1 g with g |g
     ·exact i y g
     ·rw[List.mem_singleton.1 g];exact aao
theorem LL{n:Nat}{aC:gH}{o:List (List Int)}{o0 z B D E F:List Int}{H I J L b:Int}{c d g:List Int}{h j l:Int}{f0:Int}{f1 f2 f3:List Int}(U:Wx (o0,z,B,D,E,F,H,I,J,L,b,c,d,g,h,j,l))(V:Yp (f0,f1,f2,f3))(q:∀x∈o,eJ x∧x.length≤1000000000)(hxl:o.length≤1000000000)(W:ii n):
  ∀(m k i:Nat) (all:gH) (a:List (List Int)),i+m=o.length→m<k→(∀p∈all,aO p.1∧aO p.2)→all.length+m≤1000000000→a.length+m≤1000000000→
  mI n k (aC,(),(),all,a,o,(o.length:Int),(i:Int),(o0,z,B,D,E,F,H,I,J,L,b,c,d,g,h,j,l),(f0,f1,f2,f3),())=
   some (match ot (o0,z,B,D,E,F,H,I,J,L,b,c,d,g,h,j,l) (f0,f1,f2,f3) (o.drop i) all a with |.inl e=>Sum.inl ([],([],(e,())))|.inr r=>Sum.inr (aC,(r.1,(r.2,())))):=by
 intro m
 induction m with
 |zero=>
  intro k i all a X Y _ _ _;obtain⟨k,rfl⟩:=YF k;rw[uj,Sx,List.drop_of_length_le (by omega)];rfl
 |succ m ih=>
  intro k i all a X Y Z h4 h5;obtain⟨k,rfl⟩:=YF k;have Q:i<o.length:=by omega
  obtain⟨x,S⟩:∃x,x=o[i]:=⟨_,rfl⟩;have t:x∈o:=by rw[S];exact ap Q
  rw[uj,xY,cO Q,←S,List.drop_eq_getElem_cons Q,←S];simp only[aa,ot];rw[Wy U V (q x t).2 W];simp only[aa,ag,bne_iff_ne];obtain⟨K,T⟩:∃K,K=ko (o0,z,B,D,E,F,H,I,J,L,b,c,d,g,h,j,l) (f0,f1,f2,f3) x (all.length:Int):=⟨_,rfl⟩;have O:aO K.1.1∧aO K.1.2:=by rw[T];exact I9
  rw[←T]
  by_cases M:K.2≠0
  ·rw[if_pos M,if_pos M]
  rw[if_neg M,if_neg M];have P:app 48 all [K.1]=some (all++[K.1]):=by
   unfold app;rw[if_pos (by unfold room;simp;omega)]
  have u:∀p∈all++[K.1],aO p.1∧aO p.2:=by
   intro p y;rcases List.mem_append.1 y with y |y
   ·exact Z p y
   ·rw[List.mem_singleton.1 y];exact O
  rw[P];simp only[aa];rw[Yq U V (q x t).1 (q x t).2 u (by simp;omega) W];simp only[aa];obtain⟨R,hR⟩:∃R,R=Ce (o0,z,B,D,E,F,H,I,J,L,b,c,d,g,h,j,l) (f0,f1,f2,f3) x (all++[K.1]):=⟨_,rfl⟩;rw[←hR]
  by_cases N:R.2≠0
  ·rw[if_pos N,if_pos N]
  rw[if_neg N,if_neg N];have w:app 24 a [R.1]=some (a++[R.1]):=by
   unfold app;rw[if_pos (by unfold room;simp;omega)]
  rw[w];simp only[aa];rw[bu];exact ih k (i+1) (all++[K.1]) (a++[R.1]) (by omega) (by omega) u (by simp;omega) (by simp;omega)
theorem WA{n:Nat}{b:vz}{f:En}{a:List (List Int)}{aC:gH}(u:Wx b)(w:Yp f)(g:∀x∈a,eJ x∧x.length≤1000000000)(z:∀p∈aC,aO p.1∧aO p.2)(P:aC.length+a.length≤1000000000)(y:ii n):qX n (b,f,a,aC)=some (sO b f a aC):=by
 obtain⟨o0,B,D,E,F,H,I,J,K,L,h,i,j,k,l,o,q⟩:=b;obtain⟨f0,f1,f2,f3⟩:=f;rw[Lc];have d:app 48 [] aC=some aC:=by
  unfold app;rw[if_pos (by unfold room;simp;omega)];rfl
 rw[d];simp only[aa];have t:=LL (aC:=aC) u w g (by omega) y a.length n 0 aC [] (by omega) (by omega) z (by omega) (by simp;omega);rw[Int.natCast_zero,List.drop_zero]at t;rw[t];unfold sO;obtain⟨G,c⟩:∃G,G=ot (o0,B,D,E,F,H,I,J,K,L,h,i,j,k,l,o,q) (f0,f1,f2,f3) a aC []:=⟨_,rfl⟩;rw[←c]
 match G,c with
 |.inl e,c=>rfl
 |.inr r,c=>
  obtain⟨M,N,O,_⟩:=Eo c.symm;simp only[aa,ea];unfold slc;rw[if_pos ⟨by omega,by omega,by omega⟩];simp only[aa,aH,List.take_length]
theorem LM{n:Nat}{aC:gH}{o:List (List Int)}{o0 z B D E F:List Int}{H I J L b:Int}{c d g:List Int}{h j l:Int}{f0:Int}{f1 f2 f3:List Int}(U:Wx (o0,z,B,D,E,F,H,I,J,L,b,c,d,g,h,j,l))(V:Yp (f0,f1,f2,f3))(q:∀x∈o,eJ x∧x.length≤1000000000)(hxl:o.length≤1000000000)(W:ii n):
  ∀(m k i:Nat) (all:gH) (a:List (List Int)),i+m=o.length→m<k→(∀p∈all,aO p.1∧aO p.2)→all.length+m≤1000000000→a.length+m≤1000000000→
  mO n k (aC,(),(),all,a,o,(o.length:Int),(i:Int),(o0,z,B,D,E,F,H,I,J,L,b,c,d,g,h,j,l),(f0,f1,f2,f3),())=
   some (match ot (o0,z,B,D,E,F,H,I,J,L,b,c,d,g,h,j,l) (f0,f1,f2,f3) (o.drop i) all a with |.inl e=>Sum.inl ([],([],(e,())))|.inr r=>Sum.inr (aC,(r.1,(r.2,())))):=by
 intro m
 induction m with
 |zero=>
  intro k i all a X Y _ _ _;obtain⟨k,rfl⟩:=YF k;rw[uv,Sx,List.drop_of_length_le (by omega)];rfl
 |succ m ih=>
  intro k i all a X Y Z h4 h5;obtain⟨k,rfl⟩:=YF k;have Q:i<o.length:=by omega
  obtain⟨x,S⟩:∃x,x=o[i]:=⟨_,rfl⟩;have t:x∈o:=by rw[S];exact ap Q
  rw[uv,xY,cO Q,←S,List.drop_eq_getElem_cons Q,←S];simp only[aa,ot];rw[Wz U V (q x t).2 W];simp only[aa,ag,bne_iff_ne];obtain⟨K,T⟩:∃K,K=ko (o0,z,B,D,E,F,H,I,J,L,b,c,d,g,h,j,l) (f0,f1,f2,f3) x (all.length:Int):=⟨_,rfl⟩;have O:aO K.1.1∧aO K.1.2:=by rw[T];exact I9
  rw[←T]
  by_cases M:K.2≠0
  ·rw[if_pos M,if_pos M]
  rw[if_neg M,if_neg M];have P:app 48 all [K.1]=some (all++[K.1]):=by
   unfold app;rw[if_pos (by unfold room;simp;omega)]
  have u:∀p∈all++[K.1],aO p.1∧aO p.2:=by
   intro p y;rcases List.mem_append.1 y with y |y
   ·exact Z p y
   ·rw[List.mem_singleton.1 y];exact O
  rw[P];simp only[aa];rw[Yr U V (q x t).1 (q x t).2 u (by simp;omega) W];simp only[aa];obtain⟨R,hR⟩:∃R,R=Ce (o0,z,B,D,E,F,H,I,J,L,b,c,d,g,h,j,l) (f0,f1,f2,f3) x (all++[K.1]):=⟨_,rfl⟩;rw[←hR]
  by_cases N:R.2≠0
  ·rw[if_pos N,if_pos N]
  rw[if_neg N,if_neg N];have w:app 24 a [R.1]=some (a++[R.1]):=by
   unfold app;rw[if_pos (by unfold room;simp;omega)]
  rw[w];simp only[aa];rw[bu];exact ih k (i+1) (all++[K.1]) (a++[R.1]) (by omega) (by omega) u (by simp;omega) (by simp;omega)
theorem WB{n:Nat}{b:vz}{f:En}{a:List (List Int)}{aC:gH}(u:Wx b)(w:Yp f)(g:∀x∈a,eJ x∧x.length≤1000000000)(z:∀p∈aC,aO p.1∧aO p.2)(P:aC.length+a.length≤1000000000)(y:ii n):ri n (b,f,a,aC)=some (sO b f a aC):=by
 obtain⟨o0,B,D,E,F,H,I,J,K,L,h,i,j,k,l,o,q⟩:=b;obtain⟨f0,f1,f2,f3⟩:=f;rw[Lu];have d:app 48 [] aC=some aC:=by
  unfold app;rw[if_pos (by unfold room;simp;omega)];rfl
 rw[d];simp only[aa];have t:=LM (aC:=aC) u w g (by omega) y a.length n 0 aC [] (by omega) (by omega) z (by omega) (by simp;omega);rw[Int.natCast_zero,List.drop_zero]at t;rw[t];unfold sO;obtain⟨G,c⟩:∃G,G=ot (o0,B,D,E,F,H,I,J,K,L,h,i,j,k,l,o,q) (f0,f1,f2,f3) a aC []:=⟨_,rfl⟩;rw[←c]
 match G,c with
 |.inl e,c=>rfl
 |.inr r,c=>
  obtain⟨M,N,O,_⟩:=Eo c.symm;simp only[aa,ea];unfold slc;rw[if_pos ⟨by omega,by omega,by omega⟩];simp only[aa,aH,List.take_length]
theorem Ys{α:Type}{l:List α}{i:Nat}(h:i<l.length):l.take i++[l[i]]=l.take (i+1):=by
 rw[List.take_add_one,ai h];rfl
theorem UP{α:Type}{l:List α}{i b:Nat}(h:i<l.length)(d:l.length≤1000000000)(c:b≤1000):app b (l.take i) [l[i]]=some (l.take (i+1)):=by
 unfold app;have:(i+1)*b≤1000000000*1000:=aT (by omega) c;have a:(l.take i).length=i:=by simp;omega
 rw[Ys h,if_pos];rw[a];exact⟨by unfold room;simp;omega,by unfold room;simp;omega⟩
theorem Q2{x y d:Int}(i:1≤d)(h:x≤y):nY x d≤nY y d:=by
 have b:=Int.mul_ediv_add_emod x d;have k:=Int.mul_ediv_add_emod y d;have l:=Int.emod_nonneg x (show d≠0 by omega);have c:=Int.emod_lt_of_pos x (show 0<d by omega);have n:=Int.emod_nonneg y (show d≠0 by omega);have g:=Int.emod_lt_of_pos y (show 0<d by omega);have j:=Int.ediv_le_ediv (show 0<d by omega) h;unfold nY
 by_cases a:x/d=y/d
 ·rw[a]at b ⊢
  split<;>split<;>omega
 ·split<;>split<;>omega
theorem aaq{x d:Int}(h:1≤d):nY (-x) d= -nY x d:=by
 have i:=Int.mul_ediv_add_emod x d;have j:=Int.emod_nonneg x (show d≠0 by omega);have g:=Int.emod_lt_of_pos x (show 0<d by omega)
 by_cases c:x % d=0
 ·obtain⟨a,b⟩:(-x)/d= -(x/d)∧(-x) % d=0:=(Int.ediv_emod_unique (by omega)).2 ⟨by rw[Int.mul_neg];omega,by omega,by omega⟩;unfold nY;rw[a,b,c]
  split<;>split<;>omega
 ·obtain⟨a,b⟩:(-x)/d= -(x/d) -1∧(-x) % d=d -x % d:=(Int.ediv_emod_unique (by omega)).2 ⟨by rw[Int.mul_sub,Int.mul_neg];omega,by omega,by omega⟩;unfold nY;rw[a,b]
  split<;>split<;>omega
theorem Ep{x s:Int}(a:0≤s)(b:s≤62):bJ x s=(nY x (2^s.toNat),0):=by
 unfold bJ;rw[fu]
theorem Yt{x X s:Int}(h: -X≤x)(i:x≤X)(g:0≤s)(c:s≤62): -(bJ X s).1≤(bJ x s).1∧(bJ x s).1≤(bJ X s).1:=by
 have d:=(nA (s:=s.toNat) (by omega)).1;rw[Ep g c,Ep g c];have a:=Q2 d h;have b:=Q2 d i;rw[aaq d]at a;exact⟨a,b⟩
theorem UQ{x s:Int}(h:0≤x)(k:0≤s)(g:s≤62):(bJ x s).1≤x:=by
 have j:=(nA (s:=s.toNat) (by omega)).1;obtain⟨d,a⟩:∃d:Int,d=2^s.toNat:=⟨_,rfl⟩;rw[Ep k g];rw[←a]at j ⊢;have r:=Int.mul_ediv_add_emod x d;have l:=Int.emod_nonneg x (show d≠0 by omega);have n:=Int.emod_lt_of_pos x (show 0<d by omega);have q:=(gE j).1 h;show nY x d≤x;unfold nY
 split
 ·rename_i c
  by_cases b:x/d=x
  ·exfalso
   by_cases i:x=0
   ·rw[i]at c l;simp at c;omega
   ·have o:d=1:=by
     have:d*(x/d)≤x:=by omega
     rw[b]at this
     by_cases p:d≤1
     ·omega
     ·exfalso;have:=dA (show(2:Int)≤d by omega) h;omega
    omega
  ·omega
 ·omega
def fv(x:Int):Int:=if x<0 then -x else x
theorem UR(x:Int):0≤fv x∧-fv x≤x∧x≤fv x:=by
 unfold fv;split<;>omega
def ei(l:List Int):Int:=eh (fun i=>fv (l.getD i 0)) l.length
theorem Ou{g h:Nat→Int}:∀n,(∀i,i<n→-(h i)≤g i∧g i≤h i)→-(eh h n)≤eh g n∧eh g n≤eh h n
 |0,_=>by simp[eh]
 |n+1,a=>by
  have b:=Ou n fun i d=>a i (by omega);have c:=a n (by omega);simp only[eh];omega
theorem Ov{h:Nat→Int}(c:Int):∀n,eh (fun i=>c*h i) n=c*eh h n
 |0=>by simp[eh]
 |n+1=>by simp only[eh];rw[Ov c n,Int.mul_add]
theorem lS.at{l:List Int}(h:lS l)(i:Nat): -127≤l.getD i 0∧l.getD i 0≤127:=by
 by_cases a:i<l.length
 ·rw[dy a];exact h _ (ap a)
 ·rw[bd,bv (by omega)];decide
theorem Xo{a b:Int}(c: -127≤b∧b≤127): -(127*fv a)≤a*b∧a*b≤127*fv a:=by
 have h:=UR a;have:=SD (a:=a) (b:=b) (m:=fv a) (k:=127) ⟨h.2.1,h.2.2⟩ c;omega
theorem aar{r o:List Int}(a:lS o): -(127*ei r)≤qc r o∧qc r o≤127*ei r:=by
 unfold qc ei;rw[←Ov];exact Ou _ fun i _=>Xo (a.at i)
theorem Q3{l:List Int}(h:aO l):0≤ei l∧ei l≤l.length*128:=by
 unfold ei;refine wK _ fun j _=> ?_;have a:=h.at j;unfold fv
 split<;>omega
theorem Q4{w x:List Int}{c:Nat}(d:w.length≤1048576)(b:1≤c)(hm:w.length % c=0)(g:x.length=c):gN w (c:Int) x=(I7 w c x,0):=by
 have a:zy w (c:Int)=0:=by
  unfold zy;rw[fu,fu]
 unfold gN;rw[a,if_neg (by simp),fu,aH]
theorem Q5{l:List Int}{s:Int}(b:l.length≤1048576)(c:0≤s)(a:s≤62):fG l s=(l.map (fun x=>(bJ x s).1),0):=by
 unfold fG UC;rw[if_neg (show ¬ l.length>1048576 by omega),if_neg (by simp),fu]
theorem x8{w x:List Int}{c:Nat}:(I7 w c x).length=w.length/c:=by simp[I7]
theorem uH{w h:List Int}{s:Int}{r:Nat}(c:w.length=r*h.length)(j:r*h.length≤1048576)(d:1≤h.length)(i:0≤s)(a:s≤62):(cz w h s).2=0∧(cz w h s).1.length=r:=by
 unfold cz;have b:w.length/h.length=r:=by rw[c];exact Nat.mul_div_cancel _ (by omega)
 have g:r≤1048576:=by
  have:=bM r (show 0<h.length by omega);omega
 rw[Q4 (by omega) d (by rw[c];exact Nat.mul_mod_left _ _) rfl];simp only[ne_eq,not_true,if_false];unfold rk;rw[Q5 (by rw[x8,b];exact g) i a];exact⟨rfl,by simp[x8,b]⟩
theorem Md{x dZ:List Int}(j:dZ.length=x.length)(g:1≤x.length)(h:x.length≤64)(d:∀y∈x,-268435456≤y∧y≤268435456):(i2 x dZ).2=0∧(i2 x dZ).1.length=x.length:=by
 have c:(dV x).2=0:=by
  unfold dV;rw[fu,if_neg];rintro⟨i,b,a⟩;unfold kK at a;rw[dy b]at a;have:=d _ (ap b);omega
 unfold i2;rw[fu,c];simp
structure Bs (D H half C Hd:Nat):Prop where
 d:D=H*(2*half)
 h:1≤half
 hh:1≤H
 dm:D≤64
 c:1≤C
 cm:C≤512
 hd:1≤Hd
 hm:Hd≤256
structure zf (D Hd:Nat) (b:vz):Prop where
 g1:b.1.length=D
 q:b.2.1.length=D*D
 k:b.2.2.1.length=D*D
 v:b.2.2.2.1.length=D*D
 o:b.2.2.2.2.1.length=D*D
 g2:b.2.2.2.2.2.1.length=D
 m1:b.2.2.2.2.2.2.2.2.2.2.2.1.length=Hd*D
 m2:b.2.2.2.2.2.2.2.2.2.2.2.2.1.length=Hd*D
 m3:b.2.2.2.2.2.2.2.2.2.2.2.2.2.1.length=D*Hd
 qs:0≤b.2.2.2.2.2.2.1∧b.2.2.2.2.2.2.1≤31
 ks:0≤b.2.2.2.2.2.2.2.1∧b.2.2.2.2.2.2.2.1≤31
 vs:0≤b.2.2.2.2.2.2.2.2.1∧b.2.2.2.2.2.2.2.2.1≤31
 os:0≤b.2.2.2.2.2.2.2.2.2.1∧b.2.2.2.2.2.2.2.2.2.1≤31
 ss:0≤b.2.2.2.2.2.2.2.2.2.2.1∧b.2.2.2.2.2.2.2.2.2.2.1≤31
 gs:0≤b.2.2.2.2.2.2.2.2.2.2.2.2.2.2.1∧b.2.2.2.2.2.2.2.2.2.2.2.2.2.2.1≤31
 us:0≤b.2.2.2.2.2.2.2.2.2.2.2.2.2.2.2.1∧b.2.2.2.2.2.2.2.2.2.2.2.2.2.2.2.1≤31
 ds:0≤b.2.2.2.2.2.2.2.2.2.2.2.2.2.2.2.2∧b.2.2.2.2.2.2.2.2.2.2.2.2.2.2.2.2≤31
structure Q6 (H half C:Nat) (f:En):Prop where
 h:f.1=(H:Int)
 cos:f.2.1.length=C*half
 sin:f.2.2.1.length=C*half
 dR:f.2.2.2.length=256
theorem Bs.pos{D H half C Hd:Nat}(h:Bs D H half C Hd):2≤D:=by
 have:=aT h.hh (show 2≤2*half by have:=h.h;omega);rw[←h.d]at this;omega
theorem Bs.dd{D H half C Hd:Nat}(h:Bs D H half C Hd):D*D≤4096:=aT h.dm h.dm
theorem Bs.hdd{D H half C Hd:Nat}(h:Bs D H half C Hd):Hd*D≤16384:=aT h.hm h.dm
theorem Bs.hle{D H half C Hd:Nat}(h:Bs D H half C Hd):2*half≤64:=by
 have a:=h.dm;have:=aW (2*half) h.hh;rw[←h.d]at this;omega
theorem Ow{D H half C Hd:Nat}(h:Bs D H half C Hd){f:En}(a:Q6 H half C f){p:Nat}(q:p<C):∃c s,tj f D (p:Int)=(((2*half:Nat):Int),c,s,0)∧c.length=half∧s.length=half:=by
 have k:=h.h;have n:=h.hh;have g:=h.d;have b:D/H=2*half:=by rw[g];exact Nat.mul_div_cancel_left _ (by omega)
 have o:D % H=0:=by rw[g];exact Nat.mul_mod_right _ _
 have i:f.2.1.length/half=C:=by rw[a.cos];exact Nat.mul_div_cancel _ (by omega)
 have j:f.2.2.1.length/half=C:=by rw[a.sin];exact Nat.mul_div_cancel _ (by omega)
 have r:=rx (l:=f.2.1.length) (half:=half) (p:=p) (by omega);have t:=rx (l:=f.2.2.1.length) (half:=half) (p:=p) (by omega);refine⟨(f.2.1.drop (p*half)).take half,(f.2.2.1.drop (p*half)).take half,?_,by simp;omega,by simp;omega⟩;unfold tj;rw[a.h];simp only[aH];rw[fu,b,fu,show 2*half/2=half by omega,i,j,fu]
theorem aas{x cos sin:List Int}{half:Nat}(h:1≤half)(c:x.length % (2*half)=0)(a:cos.length=half)(b:sin.length=half):(wL x ((2*half:Nat):Int) cos sin).2=0∧(wL x ((2*half:Nat):Int) cos sin).1.length=x.length:=by
 unfold wL;rw[fu,fu];exact⟨rfl,by simp⟩
theorem Ox{D H half C Hd:Nat}(h:Bs D H half C Hd){w hh cos sin:List Int}{s:Int}(j:w.length=D*D)(b:hh.length=D)(g:0≤s)(i:s≤31)(c:cos.length=half)(a:sin.length=half):(ic w hh s ((2*half:Nat):Int) cos sin).2=0∧(ic w hh s ((2*half:Nat):Int) cos sin).1.length=D:=by
 have k:=h.dd;have l:=h.pos;obtain⟨t1,t2⟩:=uH (w:=w) (h:=hh) (s:=s) (r:=D) (by rw[j,b]) (by rw[b];omega) (by omega) g (by omega);unfold ic;rw[t1];simp only[ne_eq,not_true,if_false];rw[←t2];exact aas h.h (by rw[t2,h.d];exact Nat.mul_mod_left _ _) c a
theorem ab5{D H half C Hd:Nat}(h:Bs D H half C Hd){b:vz}{f:En}(a:zf D Hd b)(n:Q6 H half C f){x:List Int}(d:x.length=D)(q:∀y∈x,-268435456≤y∧y≤268435456){p:Nat}(o:p<C):
  (ko b f x (p:Int)).2=0∧(ko b f x (p:Int)).1.1.length=D∧(ko b f x (p:Int)).1.2.length=D∧lS (ko b f x (p:Int)).1.1∧lS (ko b f x (p:Int)).1.2:=by
 have F:=h.dd;have I:=h.pos;have J:=h.dm;obtain⟨c,s,i,j,l⟩:=Ow h n o;obtain⟨z,g⟩:=Md (x:=x) (dZ:=b.1) (by rw[a.g1,d]) (by omega) (by omega) q;obtain⟨t,u⟩:=Ox h (w:=b.2.2.1) (hh:=(i2 x b.1).1) (s:=b.2.2.2.2.2.2.2.1) (cos:=c) (sin:=s) a.k (by rw[g,d]) a.ks.1 a.ks.2 j l;obtain⟨B,E⟩:=uH (w:=b.2.2.2.1) (h:=(i2 x b.1).1) (s:=b.2.2.2.2.2.2.2.2.1) (r:=D) (by rw[a.v,g,d]) (by rw[g,d];omega) (by omega) a.vs.1 (by have:=a.vs.2;omega);unfold ko;simp only;rw[d,i];simp only[ne_eq,not_true,if_false];rw[if_neg (by rw[z];decide),if_neg (by rw[t];decide),if_neg (by rw[B];decide)];exact⟨rfl,u,E,Br,fS⟩
theorem agv{w v:List Int}(g:Good w)(o:lS v): -127≤uD w v∧uD w v≤127:=by
 obtain⟨S,d⟩:∃S,S=eh (fun i=>w.getD i 0) w.length:=⟨_,rfl⟩;have n:=g.pos;have b: -(127*S)≤qH w v w.length∧qH w v w.length≤127*S:=by
  rw[d,←Ov];refine Ou _ fun i _=> ?_;have p:=g.rng i;have c:=Xo (a:=w.getD i 0) (o.at i);have h:fv (w.getD i 0)=w.getD i 0:=by unfold fv;rw[fu]
  rw[h]at c;exact c
 unfold uD;rw[←d]at n ⊢;obtain⟨P,j⟩:∃P,P=qH w v w.length:=⟨_,rfl⟩;rw[←j]at b ⊢;have l: -127≤(2*P+S)/(2*S):=Int.le_ediv_of_mul_le (by omega) (by omega);have k:(2*P+S)/(2*S)<128:=Int.ediv_lt_of_lt_mul (by omega) (by omega);rw[w8 (by omega) (by omega)];omega
theorem agw{a:List (List Int)}{c:Nat}(h:∀r∈a,lS r):lS (Ek a c):=by
 intro x d;obtain⟨i,b,rfl⟩:=fR d;rw[dy b];exact(h _ (ap b)).at c
theorem ab6{q:List Int}{a b:List (List Int)}{sz:Nat}{s:Int}{h:Nat}(p:1≤a.length)(t:a.length≤512)(n:∀r∈b,lS r):lS (kN q a b sz s h):=by
 intro x j;unfold kN Om El at j;obtain⟨c,u,rfl⟩:=fR j;have k:Good (dE (kC ((q.drop (h*sz)).take sz) (sN a (h*sz) sz) s)):=by
  refine vy ?_ ?_
  ·simp[kC,sN];omega
  ·simp[kC,sN];omega
 refine agv k (agw ?_);intro r l;obtain⟨i,d,rfl⟩:=fR l;intro y o;have g:=List.mem_of_mem_drop (List.mem_of_mem_take o);rw[dy d]at g;exact n _ (ap d) y g
theorem aat{D H half C Hd:Nat}(h:Bs D H half C Hd){q:List Int}{aC:gH}{s:Int}(c:q.length=D)(B:1≤aC.length)(E:aC.length≤C)(j:∀p∈aC,p.1.length=D∧p.2.length=D∧lS p.1∧lS p.2)(I:0≤s)(z:s≤31):
  (qI q (H:Int) aC s).2=0∧(qI q (H:Int) aC s).1.length=D∧lS (qI q (H:Int) aC s).1:=by
 have n:=h.cm;have o:=h.dm;have l:=h.pos;have t:=h.hh;have g:∀i,i<aC.length→aC.getD i ([],[])∈aC:=fun i b=>by rw[dy b];exact ap b
 have f1:Fits q (ci aC):=by
  refine⟨by simp[ci];omega,by omega,fun i b=> ?_⟩;have a:i<aC.length:=by simpa[ci]using b
  unfold ci;rw[kn _ a,(j _ (g i a)).1,c]
 have f2:Fits q (valuesOf aC):=by
  refine⟨by simp[valuesOf];omega,by omega,fun i b=> ?_⟩;have a:i<aC.length:=by simpa[valuesOf]using b
  unfold valuesOf;rw[kn _ a,(j _ (g i a)).2.1,c]
 have F:D % H=0:=by rw[h.d];exact Nat.mul_mod_right _ _
 have k:D/H=2*half:=by rw[h.d];exact Nat.mul_div_cancel_left _ (by omega)
 have u:(q.length:Int) % (H:Int)=0:=by rw[c];omega
 unfold qI;rw[fu,if_neg (by exact fun w=>w ⟨f1,f2⟩),fu,aH,c,k];refine⟨rfl,?_,?_⟩
 ·show(Cd _ H).length=D;rw[BT (m:=2*half) (H:=H) ?_ H (av _),←h.d];intro i b;rw[uG];exact(uF (q:=q) (sz:=2*half) (H:=H) (by rw[c];exact h.d) b).1
 ·refine Oo (p:=fun x=> -127≤x∧x≤127) (fun i=>ab6 ?_ ?_ ?_) H
  ·simp[ci];omega
  ·simp[ci];omega
  ·intro r y;obtain⟨i,b,rfl⟩:=fR y;exact(j _ (g i b)).2.2.2
theorem Er{w o:List Int}{s a:Int}{r c:Nat}(i:w.length=r*c)(F:r*c≤1048576)(l:1≤c)(n:o.length=c)(d:lS o)(h:0≤s)(q:s≤31)(k:∀j,j<r→(bJ (127*ei (dh w c j)) s).1≤a):
  (gN w (c:Int) o).2=0∧(fG (gN w (c:Int) o).1 s).2=0∧(fG (gN w (c:Int) o).1 s).1.length=r∧∀y∈(fG (gN w (c:Int) o).1 s).1,-a≤y∧y≤a:=by
 have b:w.length/c=r:=by rw[i];exact Nat.mul_div_cancel _ (by omega)
 have p:r≤1048576:=by
  have:=bM r (show 0<c by omega);omega
 rw[Q4 (by omega) l (by rw[i];exact Nat.mul_mod_left _ _) n];simp only;rw[Q5 (by rw[x8,b];exact p) h (by omega)];refine⟨trivial,rfl,by simp[x8,b],?_⟩;intro y t;obtain⟨z,u,rfl⟩:=List.mem_map.1 t;obtain⟨j,g,rfl⟩:=fR u;rw[b]at g;have B:=aar (r:=dh w c j) d;have D:=Yt (s:=s) (x:=qc (dh w c j) o) (X:=127*ei (dh w c j)) (by omega) (by omega) h (by omega);have E:=k j g;omega
theorem Xp{x z:List Int}{R a:Int}(t:z.length=x.length)(d:x.length≤1048576)(n:∀y∈x,-R≤y∧y≤R)(p:∀y∈z,-a≤y∧y≤a)(q:R+a≤268435456)(r:0≤a)(k:0≤R):
  (GO x z).2=0∧(GO x z).1.length=x.length∧∀y∈(GO x z).1,-(R+a)≤y∧y≤R+a:=by
 have b:∀i,i<x.length→jz x z i=(x.getD i 0+z.getD i 0,true)∧-(R+a)≤x.getD i 0+z.getD i 0∧x.getD i 0+z.getD i 0≤R+a:=by
  intro i c;have h:=n _ (ap c);have j:=p _ (ap (show i<z.length by omega));rw[←dy c 0]at h;rw[←dy (show i<z.length by omega) 0]at j;unfold jz Sz;rw[jO];exact⟨rfl,by omega,by omega⟩
 have l:x5 x z=0:=by
  unfold x5;rw[fu,fu]
 unfold GO;rw[l,if_neg (by simp),if_neg]
 ·refine⟨rfl,by simp,?_⟩;intro y o;obtain⟨i,c,rfl⟩:=fR o;rw[(b i c).1];exact(b i c).2
 ·rintro⟨i,c,g⟩;rw[(b i c).1]at g
  cases g
theorem WC{D H half C Hd:Nat}(h:Bs D H half C Hd){b:vz}{f:En}(d:zf D Hd b)(q:Q6 H half C f){g:List Int}(i:g.length=D){c:Int}(p:∀j,j<D→(bJ (127*ei (dh b.2.2.2.2.2.2.2.2.2.2.2.2.2.1 Hd j)) b.2.2.2.2.2.2.2.2.2.2.2.2.2.2.2.2).1≤c):
  (jp b.2.2.2.2.2.2.2.2.2.2.2 f.2.2.2 g).2=0∧(jp b.2.2.2.2.2.2.2.2.2.2.2 f.2.2.2 g).1.length=D∧∀y∈(jp b.2.2.2.2.2.2.2.2.2.2.2 f.2.2.2 g).1,-c≤y∧y≤c:=by
 have x:=h.hdd;have z:=h.pos;have B:=h.hd;have E:=h.hm;obtain⟨g1,n⟩:=uH (w:=b.2.2.2.2.2.2.2.2.2.2.2.1) (h:=g) (s:=b.2.2.2.2.2.2.2.2.2.2.2.2.2.2.1) (r:=Hd) (by rw[d.m1,i]) (by rw[i];omega) (by omega) d.gs.1 (by have:=d.gs.2;omega);obtain⟨u,F⟩:=uH (w:=b.2.2.2.2.2.2.2.2.2.2.2.2.1) (h:=g) (s:=b.2.2.2.2.2.2.2.2.2.2.2.2.2.2.2.1) (r:=Hd) (by rw[d.m2,i]) (by rw[i];omega) (by omega) d.us.1 (by have:=d.us.2;omega);obtain⟨M,k⟩:∃M,M=Bq f.2.2.2 (cz b.2.2.2.2.2.2.2.2.2.2.2.1 g b.2.2.2.2.2.2.2.2.2.2.2.2.2.2.1).1 (cz b.2.2.2.2.2.2.2.2.2.2.2.2.1 g b.2.2.2.2.2.2.2.2.2.2.2.2.2.2.2.1).1:=⟨_,rfl⟩;have l:M.2=0∧M.1.length=Hd:=by
  rw[k];unfold Bq;rw[if_neg (by rw[q.dR];simp),fu,fu];exact⟨rfl,by simp[n]⟩
 have t:lS M.1:=by rw[k];exact rv
 obtain⟨d1,d2,d3,d4⟩:=Er (w:=b.2.2.2.2.2.2.2.2.2.2.2.2.2.1) (o:=M.1) (s:=b.2.2.2.2.2.2.2.2.2.2.2.2.2.2.2.2) (a:=c) (r:=D) (c:=Hd) d.m3 (by rw[Nat.mul_comm];omega) (by omega) l.2 t d.ds.1 d.ds.2 p;unfold jp;simp only;rw[if_neg (by rw[g1];decide),if_neg (by rw[u];decide),←k,if_neg (by rw[l.1];decide),l.2,if_neg (by rw[d1];decide)];exact⟨d2,d3,d4⟩
theorem aej{D H half C Hd:Nat}(h:Bs D H half C Hd){b:vz}{f:En}(d:zf D Hd b)(z:Q6 H half C f){x:List Int}{aC:gH}{R a c:Int}(i:x.length=D)(I:∀y∈x,-R≤y∧y≤R)(n:0≤R)(t:0≤a)(u:0≤c)(hR:R+a+c≤268435456)
  (P:1≤aC.length) (Q:aC.length≤C) (V:∀p∈aC,p.1.length=D∧p.2.length=D∧lS p.1∧lS p.2)
  (T:∀j,j<D→(bJ (127*ei (dh b.2.2.2.2.1 D j)) b.2.2.2.2.2.2.2.2.2.1).1≤a)
  (U:∀j,j<D→(bJ (127*ei (dh b.2.2.2.2.2.2.2.2.2.2.2.2.2.1 Hd j)) b.2.2.2.2.2.2.2.2.2.2.2.2.2.2.2.2).1≤c):
  (Ce b f x aC).2=0∧(Ce b f x aC).1.length=D∧∀y∈(Ce b f x aC).1,-(R+a+c)≤y∧y≤R+a+c:=by
 have g1:=h.dd;have g2:=h.pos;have g3:=h.dm;obtain⟨co,l,F,K,L⟩:=Ow h z (p:=aC.length -1) (by omega);rw[show((aC.length -1:Nat):Int)=(aC.length:Int) -1 by omega]at F;obtain⟨r1,r2⟩:=Md (x:=x) (dZ:=b.1) (by rw[d.g1,i]) (by omega) (by omega) (fun y B=>by have:=I y B;omega);obtain⟨q1,q2⟩:=Ox h (w:=b.2.1) (hh:=(i2 x b.1).1) (s:=b.2.2.2.2.2.2.1) (cos:=co) (sin:=l) d.q (by rw[r2,i]) d.qs.1 d.qs.2 K L;obtain⟨Z,o2,o3⟩:=aat h (q:=(ic b.2.1 (i2 x b.1).1 b.2.2.2.2.2.2.1 ((2*half:Nat):Int) co l).1) (aC:=aC) (s:=b.2.2.2.2.2.2.2.2.2.2.1) q2 P Q V d.ss.1 d.ss.2;obtain⟨t1,t2,t3,t4⟩:=Er (w:=b.2.2.2.2.1) (o:=(qI (ic b.2.1 (i2 x b.1).1 b.2.2.2.2.2.2.1 ((2*half:Nat):Int) co l).1 (H:Int) aC b.2.2.2.2.2.2.2.2.2.2.1).1) (s:=b.2.2.2.2.2.2.2.2.2.1) (a:=a) (r:=D) (c:=D) d.o (by omega) (by omega) o2 o3 d.os.1 d.os.2 T;have S:kD b f x aC=GO x (fG (gN b.2.2.2.2.1 (D:Int) (qI (ic b.2.1 (i2 x b.1).1 b.2.2.2.2.2.2.1 ((2*half:Nat):Int) co l).1 (H:Int) aC b.2.2.2.2.2.2.2.2.2.2.1).1).1 b.2.2.2.2.2.2.2.2.2.1).1:=by
  unfold kD;simp only;rw[i,F,z.h];simp only[ne_eq,not_true,if_false];rw[if_neg (by rw[r1];decide),if_neg (by rw[q1];decide),if_neg (by rw[Z];decide),if_neg (by rw[t1];decide),if_neg (by rw[t2];decide)]
 obtain⟨J,k,E⟩:=Xp (x:=x) (R:=R) (a:=a) (by rw[t3,i]) (by omega) I t4 (by omega) t n;rw[←S]at J k E;obtain⟨s1,s2⟩:=Md (x:=(kD b f x aC).1) (dZ:=b.2.2.2.2.2.1) (by rw[d.g2,k,i]) (by omega) (by omega) (fun y B=>by have:=E y B;omega);obtain⟨W,X,Y⟩:=WC h d z (g:=(i2 (kD b f x aC).1 b.2.2.2.2.2.1).1) (by rw[s2,k,i]) U;obtain⟨M,N,O⟩:=Xp (x:=(kD b f x aC).1) (R:=R+a) (a:=c) (by rw[X,k,i]) (by omega) E Y (by omega) u (by omega);unfold Ce;simp only;rw[if_neg (by rw[J];decide),if_neg (by rw[s1];decide),if_neg (by rw[W];decide)];exact⟨M,by rw[N,k,i],O⟩
theorem ab7{D H half C Hd:Nat}(h:Bs D H half C Hd){b:vz}{f:En}(B:zf D Hd b)(E:Q6 H half C f){R a c:Int}(q:0≤R)(t:0≤a)(u:0≤c)(K:R+a+c≤268435456)
  (L:∀j,j<D→(bJ (127*ei (dh b.2.2.2.2.1 D j)) b.2.2.2.2.2.2.2.2.2.1).1≤a)
  (M:∀j,j<D→(bJ (127*ei (dh b.2.2.2.2.2.2.2.2.2.2.2.2.2.1 Hd j)) b.2.2.2.2.2.2.2.2.2.2.2.2.2.2.2.2).1≤c):
  ∀(i:List (List Int)) (all:gH) (d:List (List Int)),(∀x∈i,x.length=D∧∀y∈x,-R≤y∧y≤R)→all.length+i.length≤C→(∀p∈all,p.1.length=D∧p.2.length=D∧lS p.1∧lS p.2)→(∀y∈d,y.length=D∧∀z∈y,-(R+a+c)≤z∧z≤R+a+c)→
  ∃r,ot b f i all d= .inr r∧(∀p∈r.1,p.1.length=D∧p.2.length=D∧lS p.1∧lS p.2)∧∀y∈r.2,y.length=D∧∀z∈y,-(R+a+c)≤z∧z≤R+a+c:=by
 intro i
 induction i with
 |nil=>intro all d _ _ n o;exact⟨(all,d),rfl,n,o⟩
 |cons x i N=>
  intro all d w J n o;simp only[ca]at J;obtain⟨F,I⟩:=w x cC;obtain⟨O,P,Q,S,T⟩:=ab5 h B E F (fun y g=>by have:=I y g;omega) (p:=all.length) (by omega);have k:∀p∈all++[(ko b f x (all.length:Int)).1],p.1.length=D∧p.2.length=D∧lS p.1∧lS p.2:=by
   intro p l;rcases List.mem_append.1 l with l |l
   ·exact n p l
   ·rw[List.mem_singleton.1 l];exact⟨P,Q,S,T⟩
  obtain⟨U,V,W⟩:=aej h B E F I q t u K (aC:=all++[(ko b f x (all.length:Int)).1]) (by simp) (by simp;omega) k L M;simp only[ot];rw[if_neg (by rw[O];decide),if_neg (by rw[U];decide)];refine N _ _ (fun y g=>w y (bK _ g)) (by simp;omega) k ?_;intro y g;rcases List.mem_append.1 g with g |g
  ·exact o y g
  ·rw[List.mem_singleton.1 g];exact⟨V,W⟩
abbrev Yu:=Int×Int×Int×Int×Int×Int
abbrev Oy:=List (List UInt8)×List (Int×Int×Int)
abbrev Mod:=Yu×Oy×List Int×Int×List Int×List Int×List vz×List Int×List Int×List Int×Int
theorem aau{β R:Type}{L:Nat→Int→β→Option R}{len:Nat}(Inv:Nat→β→Prop)(a:R→Prop)
  (t:∀k i s,i<len→Inv i s→(∃r,L (k+1) (i:Int) s=some r∧a r)∨∃b,L (k+1) (i:Int) s=L k ((i:Int)+1) b∧Inv (i+1) b)
  (p:∀k s,Inv len s→∃r,L (k+1) (len:Int) s=some r∧a r):
  ∀k s,len<k→Inv 0 s→∃r,L k 0 s=some r∧a r:=by
 have d:∀(m k i:Nat) (s:β),i+m=len→m<k→Inv i s→∃r,L k (i:Int) s=some r∧a r:=by
  intro m
  induction m with
  |zero=>
   intro k i s j l c;obtain⟨k,rfl⟩:=YF k;have:i=len:=by omega
   subst this;exact p k s c
  |succ m u=>
   intro k i s j l c;obtain⟨k,rfl⟩:=YF k;rcases t k i s (by omega) c with h |⟨b,n,o⟩
   ·exact h
   ·rw[n];exact u k (i+1) b (by omega) (by omega) o
 exact fun k s q g=>d len k 0 s (by omega) q g
structure WD (m:Mod):Prop where
 t:m.2.1.1.length≤1048576
 tt:∀x∈m.2.1.1,x.length≤1048576
 ms:m.2.1.2.length≤1048576
 e:m.2.2.1.length≤1048576
 c:m.2.2.2.2.1.length≤1048576
 si:m.2.2.2.2.2.1.length≤1048576
 bs:m.2.2.2.2.2.2.1.length≤1048576
 b:∀b∈m.2.2.2.2.2.2.1,aap b
 be:m.2.2.2.2.2.2.2.1.length≤1048576
 g:m.2.2.2.2.2.2.2.2.1.length≤1048576
 u:m.2.2.2.2.2.2.2.2.2.1.length≤1048576
theorem ab8{α:Type}{l:List α}{b:Nat}(h:l.length≤1000000000:=by omega)(a:b≤1000:=by omega):app b [] l=some l:=by
 unfold app;rw[if_pos]
 ·rfl
 ·have:l.length*b≤1000000000*1000:=aT h a;unfold room;simp;omega
theorem US{n:Nat}{m:Mod}(h:WD m)(V:ii n):rQ n m=some m:=by
 obtain⟨⟨z,D,E,F,H,I⟩,⟨t,j⟩,e,w,c,p,d,l,g,u,y⟩:=m;have W:t.length≤1048576:=h.t;have Q:j.length≤1048576:=h.ms;have T:e.length≤1048576:=h.e;have S:c.length≤1048576:=h.c;have R:p.length≤1048576:=h.si;have P:d.length≤1048576:=h.bs;have a:∀b∈d,aap b:=h.b;have O:l.length≤1048576:=h.be;have U:g.length≤1048576:=h.g;have X:u.length≤1048576:=h.u;have J:=aQ (L:=fun k i s=>kA n k ((),(),(),j,(j.length:Int),i,((z,D,E,F,H,I),(t,j),e,w,c,p,d,l,g,u,y),(0,0,0,0,0,0,[],[],[],0,[],[],[],[],[],[],0,()),(z,D,E,F,H,I,t,s,e,w,c,p,[],l,g,u,y,()),())) (len:=j.length)
  (r:=((),(),(),((z,D,E,F,H,I),(t,j),e,w,c,p,d,l,g,u,y),(0,0,0,0,0,0,[],[],[],0,[],[],[],[],[],[],0,()),(z,D,E,F,H,I,t,j,e,w,c,p,[],l,g,u,y,()),())) (fun i=>j.take i) (by
   intro k i x;show kA n (k+1) _=_;rw[yZ,xY,cO x];simp only[aa];rw[UP x (by omega) (by omega),bu];rfl) (by
   intro k;show kA n (k+1) _=_;rw[yZ,Sx,List.take_length]) n (by omega)
 have K:=aQ (L:=fun k i s=>jH n k ((),(),d,(d.length:Int),i,(0,0,0,0,0,0,[],[],[],0,[],[],[],[],[],[],0,()),(z,D,E,F,H,I,t,j,e,w,c,p,s,l,g,u,y,()),())) (len:=d.length)
  (r:=((),(),(0,0,0,0,0,0,[],[],[],0,[],[],[],[],[],[],0,()),(z,D,E,F,H,I,t,j,e,w,c,p,d,l,g,u,y,()),())) (fun i=>d.take i) (by
   intro k i x;have a:=a _ (ap x);obtain⟨B,N⟩:∃B,B=d[i]:=⟨_,rfl⟩;have M:=UP (b:=280) x (by omega) (by omega);show jH n (k+1) _=_;rw[wA,xY,cO x];rw[←N]at a M ⊢;simp only[aa];rw[bU a.g1,bU a.q,bU a.k,bU a.v,bU a.o,bU a.g2,bU a.m1,bU a.m2,bU a.m3];simp only[aa];rw[M,bu];rfl) (by
   intro k;show jH n (k+1) _=_;rw[wA,Sx,List.take_length]) n (by omega)
 rw[abZ]at J K;rw[Pt];simp only;rw[bU,bU,bU,bU,bU,bU,ab8];simp only[aa];rw[J];simp only[aa];rw[K];rfl
def uI(s:Yu):Prop:=(2≤s.1∧s.1≤512)∧(1≤s.2.1∧s.2.1≤512)∧(2≤s.2.2.1∧s.2.2.1≤64)∧(1≤s.2.2.2.2.1∧s.2.2.2.2.1≤8)∧(1≤s.2.2.2.2.2∧s.2.2.2.2.2≤256)∧1≤s.2.2.2.1∧s.2.2.1 % s.2.2.2.1=0∧s.2.2.1/s.2.2.2.1 % 2=0
instance (s:Yu):Decidable (uI s):=by unfold uI;exact inferInstance
def ab9(s:Yu):Int:=if uI s then 0 else 160
theorem sP{s:Yu}(h:¬ uI s):ab9 s=160:=if_neg h
theorem BV{s:Yu}(h:uI s):ab9 s=0:=if_pos h
theorem oU{a b:Bool}:aw a (some b) (some false)=some (a&&b):=by cases a<;>rfl
theorem jT{R:Type}{x y:Option R}:aw false x y=y:=rfl
theorem Q7{R:Type}{x y:Option R}:aw true x y=x:=rfl
theorem Es{a b:Bool}:aw a (some true) (some b)=some (a||b):=by cases a<;>rfl
theorem rn{n:Nat}{x lo a:Int}:dn n (x,lo,a)=some (decide (lo≤x∧x≤a)):=by
 rw[Gm,oU];simp only[aa,Bool.decide_and]
theorem vC{n:Nat}{x lo a:Int}:dq n (x,lo,a)=some (decide (lo≤x∧x≤a)):=by
 rw[DX,oU];simp only[aa,Bool.decide_and]
theorem WE{d h:Int}(j:2≤d∧d≤64)(hh:1≤h):(((rm d h)).bind fun g=>aw (g !=(0:Int)) (some true)
  (((qt bx d h)).bind fun i=>((rm i (2:Int))).bind fun b=>some (b !=(0:Int))))=some (decide (¬ (d % h=0∧d/h % 2=0))):=by
 have k:=(gE (x:=d) (d:=h) (by omega)).1 (by omega);rw[uB];simp only[aa]
 by_cases a:d % h=0
 ·rw[show(d % h !=0)=false by simp[a],jo (by omega) (by omega) (by omega)];simp only[aw,aa];rw[uB];simp only[aa];congr 1
  by_cases c:d/h % 2=0
  ·simp[a,c]
  ·simp[a,c]
 ·rw[show(d % h !=0)=true by simp[a]];simp[aw,a]
theorem J1{n:Nat}{s:Yu}:fe n s=some (ab9 s):=by
 rw[IA];simp only[rn,aa,Es]
 by_cases c:(2≤s.1∧s.1≤512)∧(1≤s.2.1∧s.2.1≤512)∧(2≤s.2.2.1∧s.2.2.1≤64)∧(1≤s.2.2.2.2.1∧s.2.2.2.2.1≤8)∧(1≤s.2.2.2.2.2∧s.2.2.2.2.2≤256)
 ·obtain⟨d,g,b,i,j⟩:=c;rw[decide_eq_true d,decide_eq_true g,decide_eq_true b,decide_eq_true i,decide_eq_true j];simp only[cD,Bool.or_false,jT]
  by_cases k:s.2.2.2.1<1
  ·rw[decide_eq_true k,sP (by unfold uI;omega)];rfl
  ·rw[decide_eq_false k];rw[jT,WE b (by omega)];simp only[aa]
   by_cases a:s.2.2.1 % s.2.2.2.1=0∧s.2.2.1/s.2.2.2.1 % 2=0
   ·rw[decide_eq_false (by simpa using a),BV ⟨d,g,b,i,j,by omega,a.1,a.2⟩];rfl
   ·rw[decide_eq_true a,sP (fun h=>a h.2.2.2.2.2.2)];rfl
 ·have e:(!decide (2≤s.1∧s.1≤512)||(!decide (1≤s.2.1∧s.2.1≤512)||(!decide (2≤s.2.2.1∧s.2.2.1≤64)||(!decide (1≤s.2.2.2.2.1∧s.2.2.2.2.1≤8)|| !decide (1≤s.2.2.2.2.2∧s.2.2.2.2.2≤256)))))=true:=by
   simp only[dr,cd,decide_eq_false_iff_not];omega
  rw[e,sP (fun h=>c ⟨h.1,h.2.1,h.2.2.1,h.2.2.2.1,h.2.2.2.2.1⟩)];rfl
theorem J2{n:Nat}{s:Yu}:kU n s=some (ab9 s):=by
 rw[In];simp only[vC,aa,oU]
 by_cases c:(2≤s.1∧s.1≤512)∧(1≤s.2.1∧s.2.1≤512)∧(2≤s.2.2.1∧s.2.2.1≤64)
 ·obtain⟨j,k,l⟩:=c;rw[decide_eq_true j,decide_eq_true k,decide_eq_true l];simp only[Bool.and_true,cD,aw]
  by_cases o:s.2.2.2.1<1
  ·rw[decide_eq_true o,sP (by unfold uI;omega)];rfl
  ·rw[decide_eq_false o];simp only;have p:=(gE (x:=s.2.2.1) (d:=s.2.2.2.1) (by omega)).1 (by omega);rw[uB];simp only[aa]
   by_cases g:s.2.2.1 % s.2.2.2.1=0
   ·rw[show(s.2.2.1 % s.2.2.2.1 !=0)=false by simp[g],jo (by omega) (by omega) (by omega)];simp only[aa];rw[uB];simp only[aa]
    by_cases i:s.2.2.1/s.2.2.2.1 % 2=0
    ·rw[show(s.2.2.1/s.2.2.2.1 % 2!=0)=false by simp[i]];simp only
     by_cases a:1≤s.2.2.2.2.1∧s.2.2.2.2.1≤8
     ·rw[decide_eq_true a];simp only[cD]
      by_cases b:1≤s.2.2.2.2.2∧s.2.2.2.2.2≤256
      ·rw[decide_eq_true b,BV ⟨j,k,l,a,b,by omega,g,i⟩];rfl
      ·rw[decide_eq_false b,sP (fun h=>b h.2.2.2.2.1)];rfl
     ·rw[decide_eq_false a,sP (fun h=>a h.2.2.2.1)];rfl
    ·rw[show(s.2.2.1/s.2.2.2.1 % 2!=0)=true by simp[i],sP (fun h=>i h.2.2.2.2.2.2.2)];rfl
   ·rw[show(s.2.2.1 % s.2.2.2.1 !=0)=true by simp[g],sP (fun h=>g h.2.2.2.2.2.2.1)];rfl
 ·have e:(decide (2≤s.1∧s.1≤512)&&(decide (1≤s.2.1∧s.2.1≤512)&&decide (2≤s.2.2.1∧s.2.2.1≤64)))=false:=by
   rw[←Bool.not_eq_true];simp only[ah,dU];omega
  rw[e,sP (fun h=>c ⟨h.1,h.2.1,h.2.2.1⟩)];rfl
theorem WF{n:Nat}{s:Yu}(h:uI s):hW n s=some (s.2.2.1/s.2.2.2.1/2):=by
 rw[Lf,J1];rw[BV h];obtain⟨a,b,c,g,i,j,k,l⟩:=h;have o:=(gE (x:=s.2.2.1) (d:=s.2.2.2.1) (by omega)).1 (by omega);simp only[aa,ag];rw[if_neg (by simp),jo (by omega) (by omega) (by omega)];simp only[aa];rw[jo (by omega) (by omega) (by omega)];rfl
theorem WG{n:Nat}{s:Yu}(h:uI s):qP n s=some (s.2.2.1/s.2.2.2.1/2):=by
 rw[KU,J2];rw[BV h];obtain⟨a,b,c,g,i,j,k,l⟩:=h;have o:=(gE (x:=s.2.2.1) (d:=s.2.2.2.1) (by omega)).1 (by omega);simp only[aa,ag];rw[if_neg (by simp),jo (by omega) (by omega) (by omega)];simp only[aa];rw[jo (by omega) (by omega) (by omega)];rfl
theorem fM{β R:Type}{L:Nat→Int→β→Option R}{len:Nat}(a:Nat→β)(P:Nat→Prop)(b:Nat→R)(c:R)
  (u:∀k i:Nat,i<len→(∀j,j<i→P j)→(P i∧L (k+1) (i:Int) (a i)=L k ((i:Int)+1) (a (i+1)))∨(¬ P i∧L (k+1) (i:Int) (a i)=some (b i)))
  (q:∀k,L (k+1) (len:Int) (a len)=some c):
  ∀k,len<k→((∀i,i<len→P i)∧L k 0 (a 0)=some c)∨∃i,i<len∧(∀j,j<i→P j)∧¬ P i∧L k 0 (a 0)=some (b i):=by
 have n:∀(m k i:Nat),i+m=len→m<k→(∀j,j<i→P j)→((∀i,i<len→P i)∧L k (i:Int) (a i)=some c)∨∃j,j<len∧(∀i,i<j→P i)∧¬ P j∧L k (i:Int) (a i)=some (b j):=by
  intro m
  induction m with
  |zero=>
   intro k i o p d;obtain⟨k,rfl⟩:=YF k;have:i=len:=by omega
   subst this;exact .inl ⟨d,q k⟩
  |succ m w=>
   intro k i o p d;obtain⟨k,rfl⟩:=YF k;rcases u k i (by omega) d with⟨g,l⟩|⟨g,l⟩
   ·rw[l];exact w k (i+1) (by omega) (by omega) (fun j r=>by
     by_cases h:j=i
     ·rw[h];exact g
     ·exact d j (by omega))
   ·exact .inr ⟨i,by omega,d,g,l⟩
 exact fun k t=>n len k 0 (by omega) t (fun j r=>by omega)
theorem Bt{k v:Ty}(c:k.isKey=true){x:k.den}:∀l:List (k.den×v.den),(qJ k.kP l x).isSome=true↔∃p∈l,p.1=x
 |[]=>by simp[qJ]
 |p::l=>by
  unfold qJ
  split
  ·rename_i h;have:=(fO k x p.1 c).1 h;exact⟨fun _=>⟨p,cC,this.symm⟩,fun _=>rfl⟩
  ·rename_i h;rw[Bt c l];constructor
   ·rintro⟨q,a,b⟩;exact⟨q,bK _ a,b⟩
   ·rintro⟨q,a,b⟩;rcases List.mem_cons.1 a with rfl |a
    ·rw[(fO k x q.1 c).2 b.symm]at h;cases h
    ·exact⟨q,a,b⟩
def zg(v:Oy)(i:Nat):List UInt8:=v.1.getD i []
def nO(v:Oy)(i:Nat):Int×Int×Int:=v.2.getD i (0,0,0)
def Dt(v:Oy)(x:Int):Prop:=0<x∧x<(v.1.length:Int)
def Oz(v:Oy)(i:Nat):Prop:=(∀k,k<i→zg v k≠zg v i)∧(zg v i=[]↔i=0)∧(zg v i).length≤64
def UT(v:Oy)(i:Nat):Prop:=(Dt v (nO v i).1∧Dt v (nO v i).2.1∧Dt v (nO v i).2.2∧zg v (nO v i).2.2.toNat=zg v (nO v i).1.toNat++zg v (nO v i).2.1.toNat)∧
 ∀k,k<i→¬ ((nO v k).1=(nO v i).1∧(nO v k).2.1=(nO v i).2.1)
structure aav (v:Oy):Prop where
 l:v.1.length≤512
 t:∀i,i<v.1.length→Oz v i
 l2:2≤v.1.length
 m:v.2.length≤1024
 ms:∀i,i<v.2.length→UT v i
theorem SJ{v:Oy}{i:Nat}(h:i<v.1.length):idx v.1 (i:Int)=some (zg v i):=by
 rw[cO h];unfold zg;simp[h]
theorem WH{v:Oy}{i:Nat}(h:i<v.2.length):idx v.2 (i:Int)=some (nO v i):=by
 rw[cO h];unfold nO;simp[h]
theorem SL{v:Oy}{x:Int}(h:Dt v x):idx v.1 x=some (zg v x.toNat):=by
 have:=SJ (v:=v) (i:=x.toNat) (by have:=h.1;have:=h.2;omega);rw[show(x.toNat:Int)=x by have:=h.1;omega]at this;exact this
theorem Xq{v:Oy}{b:Nat}(h:∀x∈v.1,x.length≤b)(i:Nat):(zg v i).length≤b:=by
 unfold zg
 by_cases a:i<v.1.length
 ·simp only[bd,ai a,Option.getD_some];exact h _ (ap a)
 ·simp[Nat.le_of_not_lt a]
theorem aca(s:List UInt8):(s==[])=decide (s=[]):=by cases s<;>rfl
theorem OA{s:List UInt8}{i:Nat}:(((s==[])==((i:Int)==0))=true)↔(s=[]↔i=0):=by
 rw[aca];have:((i:Int)==0)=decide (i=0):=by
  by_cases h:i=0
  ·subst h;rfl
  ·rw[decide_eq_false h,beq_eq_false_iff_ne];omega
 rw[this,beq_iff_eq,decide_eq_decide]
theorem UU{n:Nat}{v:Oy}{x:Int}:∃b,im n (v,x)=some b∧(b=true↔Dt v x):=by
 rw[IB,oU];refine⟨_,rfl,?_⟩;rw[ah,dU,dU];exact Iff.rfl
theorem WI{n:Nat}{v:Oy}{x:Int}:∃b,i9 n (v,x)=some b∧(b=true↔Dt v x):=by
 rw[KT,oU];refine⟨_,rfl,?_⟩;rw[ah,dU,dU];exact Iff.rfl
theorem WJ{n:Nat}{v:Oy}{i:Nat}(o:i<v.1.length)(q:v.1.length≤1048576)(r:ii n):∃b,qY n (v,(i:Int))=some b∧(b=true↔Oz v i):=by
 rw[Ld,SJ o];simp only[aa];rcases fM (L:=fun k j (_:Unit)=>gB n k ((i:Int),(),zg v i,j,v,())) (len:=i) (fun _=>()) (fun k=>zg v k≠zg v i) (fun _=> .inl (false,())) (.inr ((i:Int),zg v i,())) (by
  intro k j p _;show(_∧gB n (k+1) _=_)∨(_∧gB n (k+1) _=_);rw[uk,xY,SJ (show j<v.1.length by omega)];simp only[aa,ag,beq_iff_eq]
  split
  ·rename_i h;exact .inr ⟨fun d=>d h,rfl⟩
  ·rename_i h;rw[bu];exact .inl ⟨h,rfl⟩) (by
  intro k;show gB n (k+1) _=_;rw[uk,Sx]) n (by omega)with⟨a,c⟩|⟨j,a,c,g,l⟩
 ·rw[c];simp only[aa,ea];rw[oU];refine⟨_,rfl,?_⟩;rw[ah,dU];have:=OA (s:=zg v i) (i:=i);rw[show(((zg v i==(Array.toList (ByteArray.data (ByteArray.mk (List.toArray [])))))==((i:Int)==0))=true)↔(zg v i=[]↔i=0)from this];exact⟨fun h=>⟨a,h.1,by omega⟩,fun h=>⟨h.2.1,by have:=h.2.2;omega⟩⟩
 ·rw[l];exact⟨_,rfl,fun h=>(by cases h),fun h=>absurd (h.1 j a) g⟩
theorem OB{n:Nat}{v:Oy}{i:Nat}(j:∀x∈v.1,x.length≤1048576){f:Oy×Int→Option Bool}(g:∀x,∃b,f (v,x)=some b∧(b=true↔Dt v x)):
  ∃b,(((f (v,(nO v i).1))).bind fun t=>aw (!t) (some true) (((f (v,(nO v i).2.1))).bind fun v4=>aw (!v4) (some true)
    (((f (v,(nO v i).2.2))).bind fun u=>aw (!u) (some true)
     (((idx v.1 (nO v i).2.2)).bind fun w=>((idx v.1 (nO v i).1)).bind fun y=>((idx v.1 (nO v i).2.1)).bind fun z=>((cat y z)).bind fun B=>some (!(w==B))))))=some b∧
   (b=false↔Dt v (nO v i).1∧Dt v (nO v i).2.1∧Dt v (nO v i).2.2∧zg v (nO v i).2.2.toNat=zg v (nO v i).1.toNat++zg v (nO v i).2.1.toNat):=by
 obtain⟨k,p,a⟩:=g (nO v i).1;obtain⟨l,q,c⟩:=g (nO v i).2.1;obtain⟨o,r,d⟩:=g (nO v i).2.2;rw[p];simp only[aa]
 cases k with
 |false=>exact⟨true,rfl,fun h=>(by cases h),fun h=>by have:=a.2 h.1;cases this⟩
 |true=>
 have a:=a.1 rfl;rw[q];simp only[aa,cD,aw]
 cases l with
 |false=>exact⟨true,rfl,fun h=>(by cases h),fun h=>by have:=c.2 h.2.1;cases this⟩
 |true=>
 have c:=c.1 rfl;rw[r];simp only[aa,cD]
 cases o with
 |false=>exact⟨true,rfl,fun h=>(by cases h),fun h=>by have:=d.2 h.2.2.1;cases this⟩
 |true=>
 have d:=d.1 rfl;simp only[cD];rw[SL a,SL c,SL d];simp only[aa];have t1:=Xq j (nO v i).1.toNat;have t2:=Xq j (nO v i).2.1.toNat;unfold cat;rw[jO];refine⟨_,rfl,?_⟩;rw[Bool.not_eq_false',beq_iff_eq];exact⟨fun h=>⟨a,c,d,h⟩,fun h=>h.2.2.2⟩
theorem UV{n:Nat}{v:Oy}{i:Nat}(o:i<v.2.length)(p:v.2.length≤1048576)(q:∀x∈v.1,x.length≤1048576)(t:ii n):∃b,oH n (v,(i:Int))=some b∧(b=true↔UT v i):=by
 rw[IC,WH o];simp only[aa];obtain⟨b,e,h⟩:=OB (n:=n) (v:=v) (i:=i) q (f:=im n) (fun x=>UU);rw[e];simp only[aa]
 cases b with
 |true=>exact⟨false,rfl,fun h=>(by cases h),fun a=>by have:=h.2 a.1;cases this⟩
 |false=>
 have h:=h.1 rfl;simp only[aw];rcases fM (L:=fun k j (_:Unit)=>fC n k ((i:Int),(),(),j,v,nO v i,())) (len:=i) (fun _=>()) (fun k=>¬ ((nO v k).1=(nO v i).1∧(nO v k).2.1=(nO v i).2.1)) (fun _=> .inl (false,())) (.inr ()) (by
  intro k j r _;show(_∧fC n (k+1) _=_)∨(_∧fC n (k+1) _=_);rw[sg,xY,WH (show j<v.2.length by omega)];simp only[aa];rw[oU];simp only[aa,ag,ah,beq_iff_eq]
  split
  ·rename_i h;exact .inr ⟨fun a=>a h,rfl⟩
  ·rename_i h;rw[bu];exact .inl ⟨h,rfl⟩) (by
  intro k;show fC n (k+1) _=_;rw[sg,Sx]) n (by omega)with⟨c,d⟩|⟨j,c,d,g,l⟩
 ·rw[d];exact⟨true,rfl,fun _=>⟨h,c⟩,fun _=>rfl⟩
 ·rw[l];exact⟨false,rfl,fun h=>(by cases h),fun h=>absurd (h.2 j c) g⟩
theorem UW{n:Nat}{v:Oy}(E:v.1.length≤1048576)(o:v.2.length≤1048576)(F:∀x∈v.1,x.length≤1048576)(u:ii n):∃r,oJ n v=some r∧(r.2=0↔aav v):=by
 rw[ID,ag]
 split
 ·rename_i h;rw[dU]at h;exact⟨_,rfl,fun h=>(by cases h),fun a=>by have:=a.l;omega⟩
 rename_i w;rw[dU]at w;rcases fM (L:=fun k j (_:Unit)=>fD n k ((),j,v,())) (len:=v.1.length) (fun _=>()) (Oz v) (fun i=> .inl ((i:Int),130,())) (.inr ((),v,())) (by
  intro k j g _;show(_∧fD n (k+1) _=_)∨(_∧fD n (k+1) _=_);obtain⟨b,e,h⟩:=WJ (n:=n) g E u;rw[sj,xY,e]
  cases b with
  |true=>simp only[aa,cD,aw];rw[bu];exact .inl ⟨h.1 rfl,rfl⟩
  |false=>exact .inr ⟨fun a=>(by have:=h.2 a;cases this),rfl⟩) (by
  intro k;show fD n (k+1) _=_;rw[sj,Sx]) n (by omega)with⟨c,p⟩|⟨j,c,p,y,z⟩
 case inr=>rw[z];exact⟨_,rfl,fun h=>(by cases h),fun h=>absurd (h.t j c) y⟩
 rw[p];simp only[aa,ea,ag,dU]
 split
 ·exact⟨_,rfl,fun h=>(by cases h),fun a=>by have:=a.l2;omega⟩
 split
 ·exact⟨_,rfl,fun h=>(by cases h),fun a=>by have:=a.m;omega⟩
 rcases fM (L:=fun k j (_:Unit)=>eS n k ((),j,v,())) (len:=v.2.length) (fun _=>()) (UT v) (fun i=> .inl ((i:Int),131,())) (.inr ()) (by
  intro k j g _;show(_∧eS n (k+1) _=_)∨(_∧eS n (k+1) _=_);obtain⟨b,e,h⟩:=UV (n:=n) g o F u;rw[qx,xY,e]
  cases b with
  |true=>simp only[aa,cD,aw];rw[bu];exact .inl ⟨h.1 rfl,rfl⟩
  |false=>exact .inr ⟨fun a=>(by have:=h.2 a;cases this),rfl⟩) (by
  intro k;show eS n (k+1) _=_;rw[qx,Sx]) n (by omega)with⟨d,q⟩|⟨j,d,q,B,D⟩
 case inr=>rw[D];exact⟨_,rfl,fun h=>(by cases h),fun h=>absurd (h.ms j d) B⟩
 rw[q];exact⟨_,rfl,fun _=>⟨by omega,c,by omega,by omega,d⟩,fun _=>rfl⟩
def zh(v:Oy)(i:Nat):List (List UInt8×Int):=(abY i).map (fun j=>(zg v j,(j:Int)))
def wM(v:Oy)(i:Nat):List ((Int×Int)×Int):=(abY i).map (fun j=>(((nO v j).1,(nO v j).2.1),(j:Int)))
theorem WK(v:Oy)(i:Nat):zh v (i+1)=zh v i++[(zg v i,(i:Int))]:=by unfold zh;rw[List.range_succ,acl];rfl
theorem WL(v:Oy)(i:Nat):wM v (i+1)=wM v i++[(((nO v i).1,(nO v i).2.1),(i:Int))]:=by unfold wM;rw[List.range_succ,acl];rfl
theorem OC{p:Prop}{o:Option Int}(h:o.isSome=true↔p):(¬ p→o.isSome=false):=fun b=>by
 cases a:o.isSome with
 |false=>rfl
 |true=>exact absurd (h.1 a) b
theorem UX{n:Nat}{v:Oy}(Z:v.1.length≤1048576)(W:v.2.length≤1048576)(Y:∀x∈v.1,x.length≤1048576)(J:ii n):∃r,ow n v=some r∧(r.2=0↔aav v):=by
 rw[Io,ag]
 split
 ·rename_i h;rw[dU]at h;exact⟨_,rfl,fun h=>(by cases h),fun D=>by have:=D.l;omega⟩
 rename_i S;rw[dU]at S;rcases fM (L:=fun k j s=>eC n k ((),(),v.1,(v.1.length:Int),j,v,s,())) (len:=v.1.length) (zh v) (Oz v) (fun i=> .inl ((i:Int),130,())) (.inr ((),v,())) (by
  intro k j O _;show(_∧eC n (k+1) _=_)∨(_∧eC n (k+1) _=_);rw[r9,xY,SJ O];simp only[aa];have o:=Bt (k:=.str) (v:=.int .i64) rfl (x:=zg v j) (zh v j);have u:(∃p∈zh v j,p.1=zg v j)↔¬ ∀k,k<j→zg v k≠zg v j:=by
   constructor
   ·rintro⟨p,y,h⟩ w;obtain⟨q,z,rfl⟩:=List.mem_map.1 y;exact w q (List.mem_range.1 z) h
   ·intro h;apply Decidable.byContradiction;intro N;exact h fun k w I=>N ⟨_,List.mem_map.2 ⟨k,List.mem_range.2 w,rfl⟩,I⟩
  have o:=o.trans u;have H:=OA (s:=zg v j) (i:=j)
  by_cases d:Oz v j
  ·have B:Option.isSome (qJ (Ty.kP Ty.str) (zh v j) (zg v j))=false:=OC o (fun h=>h d.1);have Q:((zg v j==([]:List UInt8))==((j:Int)==0))=true:=H.2 d.2.1;rw[B,Q];have X:=d.2.2;simp only[cD,aw];rw[decide_eq_false (show ¬ ((((zg v j).length:Nat):Int)>64)by omega)];simp only[aa];rw[bu];refine .inl ⟨d,?_⟩;have J:∀p∈zh v j,p.1≠zg v j:=by
    intro p y;obtain⟨q,z,rfl⟩:=List.mem_map.1 y;exact d.1 q (List.mem_range.1 z)
   have K:oV (Ty.kP Ty.str) (zh v j) (zg v j) (j:Int)=zh v (j+1):=by
    rw[WK];exact BH (k:=.str) (v:=.int .i64) rfl _ J
   exact congrArg (fun s=>eC n k ((),(),v.1,(v.1.length:Int),(j:Int)+1,v,s,())) K
  ·refine .inr ⟨d,?_⟩;have R:∀a b c:Bool,(a=true∨b=false∨c=true)→aw a (some true) (aw (!b) (some true) (some c))=some true:=by
    intro a b c h;rcases h with rfl |rfl |rfl
    ·rfl
    ·cases a<;>rfl
    ·cases a<;>cases b<;>rfl
   rw[R _ _ _ ?_]
   ·rfl
   ·by_cases g:∀k,k<j→zg v k≠zg v j
    ·by_cases E:zg v j=[]↔j=0
     ·right;right;rw[dU];have F:¬ (zg v j).length≤64:=fun F=>d ⟨g,E,F⟩;omega
     ·right;left;rw[←Bool.not_eq_true];exact fun h=>E (H.1 h)
    ·left;exact o.2 g) (by
  intro k;show eC n (k+1) _=_;rw[r9,Sx]) n (by omega)with⟨g,E⟩|⟨j,g,E,F,T⟩
 case inr=>
  rw[show([]:List (List UInt8×Int))=zh v 0 from rfl,T];exact⟨_,rfl,fun h=>(by cases h),fun h=>absurd (h.t j g) F⟩
 rw[show([]:List (List UInt8×Int))=zh v 0 from rfl,E];simp only[aa,ea,ag,dU]
 split
 ·exact⟨_,rfl,fun h=>(by cases h),fun D=>by have:=D.l2;omega⟩
 split
 ·exact⟨_,rfl,fun h=>(by cases h),fun D=>by have:=D.m;omega⟩
 rcases fM (L:=fun k j s=>eb n k ((),(),v.2,(v.2.length:Int),j,v,s,())) (len:=v.2.length) (wM v) (UT v) (fun i=> .inl ((i:Int),131,())) (.inr ()) (by
  intro k j O _;show(_∧eb n (k+1) _=_)∨(_∧eb n (k+1) _=_);rw[qp,xY,WH O];simp only[aa];obtain⟨b,e,h⟩:=OB (n:=n) (v:=v) (i:=j) Y (f:=i9 n) (fun x=>WI);rw[e];have o:=Bt (k:=.pair (.int .i64) (.int .i64)) (v:=.int .i64) rfl (x:=((nO v j).1,(nO v j).2.1)) (wM v j);have u:(∃p∈wM v j,p.1=((nO v j).1,(nO v j).2.1))↔¬ ∀k,k<j→¬ ((nO v k).1=(nO v j).1∧(nO v k).2.1=(nO v j).2.1):=by
   constructor
   ·rintro⟨p,y,h⟩ w;obtain⟨q,z,rfl⟩:=List.mem_map.1 y;exact w q (List.mem_range.1 z) ⟨(Prod.mk.inj h).1,(Prod.mk.inj h).2⟩
   ·intro h;apply Decidable.byContradiction;intro N;exact h fun k w I=>N ⟨_,List.mem_map.2 ⟨k,List.mem_range.2 w,rfl⟩,Prod.ext I.1 I.2⟩
  have o:=o.trans u
  by_cases d:UT v j
  ·have B:Option.isSome (qJ (Ty.kP (Ty.pair (Ty.int bx) (Ty.int bx))) (wM v j) ((nO v j).1,(nO v j).2.1))=false:=OC o (fun h=>h d.2);rw[B,h.2 d.1];simp only[aw,aa];rw[bu];refine .inl ⟨d,?_⟩;have J:∀p∈wM v j,p.1≠((nO v j).1,(nO v j).2.1):=by
    intro p y h;obtain⟨q,z,rfl⟩:=List.mem_map.1 y;exact d.2 q (List.mem_range.1 z) ⟨(Prod.mk.inj h).1,(Prod.mk.inj h).2⟩
   have K:oV (Ty.kP (Ty.pair (Ty.int bx) (Ty.int bx))) (wM v j) ((nO v j).1,(nO v j).2.1) (j:Int)=wM v (j+1):=by
    rw[WL];exact BH (k:=.pair (.int .i64) (.int .i64)) (v:=.int .i64) rfl _ J
   exact congrArg (fun s=>eb n k ((),(),v.2,(v.2.length:Int),(j:Int)+1,v,s,())) K
  ·refine .inr ⟨d,?_⟩
   by_cases g:∀k,k<j→¬ ((nO v k).1=(nO v j).1∧(nO v k).2.1=(nO v j).2.1)
   ·have H:b=true:=by
     cases b with
     |true=>rfl
     |false=>exact absurd ⟨h.1 rfl,g⟩ d
    rw[H,Es];simp[aw]
   ·have B:Option.isSome (qJ (Ty.kP (Ty.pair (Ty.int bx) (Ty.int bx))) (wM v j) ((nO v j).1,(nO v j).2.1))=true:=o.2 g;rw[B];rfl) (by
  intro k;show eb n (k+1) _=_;rw[qp,Sx]) n (by omega)with⟨M,P⟩|⟨j,M,P,U,V⟩
 case inr=>
  rw[show([]:List ((Int×Int)×Int))=wM v 0 from rfl,V];exact⟨_,rfl,fun h=>(by cases h),fun h=>absurd (h.ms j M) U⟩
 rw[show([]:List ((Int×Int)×Int))=wM v 0 from rfl,P];exact⟨_,rfl,fun _=>⟨by omega,g,by omega,by omega,M⟩,fun _=>rfl⟩
theorem agx{l:List Int}(h:aO l)(i:Nat):0≤eh (fun i=>fv (l.getD i 0)) i∧eh (fun i=>fv (l.getD i 0)) i≤i*128:=by
 refine wK _ fun j _=> ?_;have a:=h.at j;unfold fv
 split<;>omega
theorem UY{n:Nat}{w:List Int}{r c:Nat}(l:w.length=r*c)(E:r*c≤1048576)(F:1≤c)(t:aO w)(H:ii n):oN n (w,(c:Int))=some (cM (fun j=>ei (dh w c j)) r,0):=by
 have I:r≤1048576:=by
  have:=bM r (show 0<c by omega);omega
 have h:w.length % c=0:=by rw[l];exact Nat.mul_mod_left _ _
 have u:w.length/c=r:=by rw[l];exact Nat.mul_div_cancel _ (by omega)
 have d:zy w (c:Int)=0:=by
  unfold zy;rw[fu,fu]
 rw[IG,x4,d];simp only[aa,ag];rw[if_neg (by simp)];have p:=aQ (L:=fun k j s=>gT n k (w,(c:Int),s,j*(c:Int),())) (len:=r) (r:=(cM (fun j=>ei (dh w c j)) r,())) (fun j=>cM (fun j=>ei (dh w c j)) j) ?_ ?_ n (by omega)
 ·rw[Int.zero_mul,dD]at p;rw[p];rfl
 ·intro k j z;have a:j<w.length/c:=by rw[u];exact z
  have q:=BQ h a;have B:=nD h a;have b:aO (dh w c j):=t.sub _ _;show gT n (k+1) _=_;rw[show(j:Int)*(c:Int)=((j*c:Nat):Int)by simp];rw[sm,xY,bu (x:=((j*c:Nat):Int)+(c:Int)),Ma h a];simp only[aa];have o:=aQ (L:=fun k i s=>eW n k (w,(c:Int),cM (fun j=>ei (dh w c j)) j,((j*c:Nat):Int),s,dh w c j,(((dh w c j).length:Nat):Int),i,())) (len:=(dh w c j).length) (r:=(w,(c:Int),cM (fun j=>ei (dh w c j)) j,((j*c:Nat):Int),ei (dh w c j),())) (fun i=>eh (fun i=>fv ((dh w c j).getD i 0)) i) ?_ ?_ n (by omega)
  ·rw[show eh (fun i=>fv ((dh w c j).getD i 0)) 0=0 from rfl]at o;rw[o];simp only[aa];rw[dQ _ (by unfold room;omega) (by unfold room;omega)];simp only[aa];rw[bu,show((j*c:Nat):Int)+(c:Int)=((j:Int)+1)*(c:Int)by rw[Int.add_mul];simp]
  ·intro k i y;have D:=b.at i;have g:=agx b i;show eW n (k+1) _=_;rw[qA,xY,aS y 0];simp only[aa,ag,dU];rw[bu (x:=(dh w c j).getD i 0)];show _=eW n k (w,(c:Int),_,_,eh (fun i=>fv ((dh w c j).getD i 0)) i+fv ((dh w c j).getD i 0),_,_,_,());unfold fv
   split
   ·simp only[aa];rw[bu (x:=(i:Int)+1),bu (by unfold fv at g;omega) (by unfold fv at g;omega)];rfl
   ·simp only[aa];rw[bu (x:=(i:Int)+1),bu (by unfold fv at g;omega) (by unfold fv at g;omega)]
  ·intro k;show eW n (k+1) _=_;rw[qA,ag,if_neg (by simp)];rfl
 ·intro k;show gT n (k+1) _=_;rw[sm,ag,if_neg (by rw[dU,l];simp)]
structure MOk (m:Mod) (D H half C Hd V L:Nat):Prop where
 kp:Bs D H half C Hd
 v:m.1.1=(V:Int)
 c:m.1.2.1=(C:Int)
 d:m.1.2.2.1=(D:Int)
 h:m.1.2.2.2.1=(H:Int)
 l:m.1.2.2.2.2.1=(L:Int)
 hd:m.1.2.2.2.2.2=(Hd:Int)
 v2:2≤V∧V≤512
 l8:1≤L∧L≤8
 e:m.2.2.1.length=V*D
 es:0≤m.2.2.2.1∧m.2.2.2.1≤24
 cos:m.2.2.2.2.1.length=C*half
 sin:m.2.2.2.2.2.1.length=C*half
 bs:m.2.2.2.2.2.2.1.length=L
 b:∀b∈m.2.2.2.2.2.2.1,zf D Hd b
 be:m.2.2.2.2.2.2.2.1.length=256
 g:m.2.2.2.2.2.2.2.2.1.length=D
 u:m.2.2.2.2.2.2.2.2.2.1.length=V*D
 ls:0≤m.2.2.2.2.2.2.2.2.2.2∧m.2.2.2.2.2.2.2.2.2.2≤31
theorem Xr{s:Yu}(h:uI s):∃D H half C Hd V L:Nat,Bs D H half C Hd∧s.1=(V:Int)∧s.2.1=(C:Int)∧s.2.2.1=(D:Int)∧s.2.2.2.1=(H:Int)∧s.2.2.2.2.1=(L:Int)∧s.2.2.2.2.2=(Hd:Int)∧(2≤V∧V≤512)∧(1≤L∧L≤8)∧s.2.2.1/s.2.2.2.1/2=(half:Int):=by
 obtain⟨q,r,t,u,w,x,i,j⟩:=h;obtain⟨D,b⟩:∃D:Nat,s.2.2.1=(D:Int):=⟨s.2.2.1.toNat,by omega⟩;obtain⟨H,c⟩:∃H:Nat,s.2.2.2.1=(H:Int):=⟨s.2.2.2.1.toNat,by omega⟩;obtain⟨C,n⟩:∃C:Nat,s.2.1=(C:Int):=⟨s.2.1.toNat,by omega⟩;obtain⟨V,p⟩:∃V:Nat,s.1=(V:Int):=⟨s.1.toNat,by omega⟩;obtain⟨L,o⟩:∃L:Nat,s.2.2.2.2.1=(L:Int):=⟨s.2.2.2.2.1.toNat,by omega⟩;obtain⟨Hd,d⟩:∃Hd:Nat,s.2.2.2.2.2=(Hd:Int):=⟨s.2.2.2.2.2.toNat,by omega⟩;rw[b,c]at i j;have d7:D % H=0:=by omega
 have d8:D/H % 2=0:=by omega
 have a:D=H*(D/H):=(Nat.mul_div_cancel' (Nat.dvd_of_mod_eq_zero d7)).symm;have g:D/H≠0:=by
  intro k;rw[k]at a;omega
 have l:D/H=2*(D/H/2):=by omega
 refine⟨D,H,D/H/2,C,Hd,V,L,⟨by rw[←l];exact a,by omega,by omega,by omega,by omega,by omega,by omega,by omega⟩,p,n,b,c,o,d,by omega,by omega,?_⟩;rw[b,c];simp
theorem Bu{α:Type}{l:List α}{i:Nat}(h:i<l.length)(d:α):idx l (i:Int)=some (l.getD i d):=by
 rw[cO h];simp[h]
def aaw(l:List Int):Prop:=∀x∈l,0≤x∧x≤31
theorem GY{l:List Int}:aaw l↔∀i,i<l.length→0≤l.getD i 0∧l.getD i 0≤31:=by
 constructor
 ·intro h i a;have:=h _ (ap a);simpa[a]using this
 ·intro h x b;obtain⟨i,a,rfl⟩:=cZ b;have:=h i a;simpa[a]using this
theorem SM{n:Nat}{l:List Int}(p:l.length≤1000000)(q:ii n):
  (aaw l∧dO n n (l,(l.length:Int),0,())=some (.inr ()))∨(¬ aaw l∧dO n n (l,(l.length:Int),0,())=some (.inl (162,()))):=by
 rcases fM (L:=fun k j (_:Unit)=>dO n k (l,(l.length:Int),j,())) (len:=l.length) (fun _=>()) (fun i=>0≤l.getD i 0∧l.getD i 0≤31) (fun _=> .inl (162,())) (.inr ()) (by
  intro k j o _;show(_∧dO n (k+1) _=_)∨(_∧dO n (k+1) _=_);rw[sk,xY,Bu o 0];simp only[aa];rw[rn];simp only[aa]
  by_cases c:0≤l.getD j 0∧l.getD j 0≤31
  ·rw[decide_eq_true c,bu];exact .inl ⟨c,rfl⟩
  ·rw[decide_eq_false c];exact .inr ⟨c,rfl⟩) (by
  intro k;show dO n (k+1) _=_;rw[sk,Sx]) n (by omega)with⟨a,b⟩|⟨j,a,b,d,g⟩
 ·exact .inl ⟨GY.2 a,b⟩
 ·exact .inr ⟨fun h=>d (GY.1 h j a),g⟩
theorem GZ{n:Nat}{l:List Int}(q:l.length≤1000000)(r:ii n):∃b,gw n l=some b∧(b=true↔aaw l):=by
 rw[Gg,iD,jf];rcases fM (L:=fun k j (_:Unit)=>ba n k (l,(),(l.length:Int),j,())) (len:=l.length) (fun _=>()) (fun i=>0≤l.getD i 0∧l.getD i 0≤31) (fun i=> .inl ((i:Int),())) (.inr ()) (by
  intro k j p _;show(_∧ba n (k+1) _=_)∨(_∧ba n (k+1) _=_);rw[eg,xY,Bu p 0];simp only[aa];rw[B5,vC];simp only[aa]
  by_cases c:0≤l.getD j 0∧l.getD j 0≤31
  ·rw[decide_eq_true c,bu];exact .inl ⟨c,rfl⟩
  ·rw[decide_eq_false c];exact .inr ⟨c,rfl⟩) (by
  intro k;show ba n (k+1) _=_;rw[eg,Sx]) n (by omega)with⟨a,d⟩|⟨j,a,d,g,o⟩
 ·rw[d];exact⟨true,rfl,fun _=>GY.2 a,fun _=>rfl⟩
 ·rw[o];simp only[aa,ea];rw[decide_eq_true (show(j:Int)≥0 by omega)];exact⟨false,rfl,fun h=>(by cases h),fun h=>absurd (GY.1 h j a) g⟩
theorem Et{n:Nat}{d:Int}{l:List (List Int)}(u:l.length≤1000000)(w:ii n):∃b,fx n (d,l)=some b∧(b=true↔∀x∈l,(x.length:Int)=d):=by
 rw[A7];rcases fM (L:=fun k j (_:Unit)=>dF n k (d,l,(l.length:Int),j,())) (len:=l.length) (fun _=>()) (fun i=>((l.getD i []).length:Int)=d) (fun _=> .inl (false,())) (.inr ()) (by
  intro k j r _;show(_∧dF n (k+1) _=_)∨(_∧dF n (k+1) _=_);rw[mZ,xY,Bu r []];simp only[aa,ag,bne_iff_ne,ne_eq]
  split
  ·rename_i c;exact .inr ⟨c,rfl⟩
  ·rename_i c;rw[bu];exact .inl ⟨Decidable.not_not.1 c,rfl⟩) (by
  intro k;show dF n (k+1) _=_;rw[mZ,Sx]) n (by omega)with⟨a,g⟩|⟨j,a,g,p,q⟩
 ·rw[g];refine⟨true,rfl,fun _ x t=> ?_,fun _=>rfl⟩;obtain⟨i,o,rfl⟩:=cZ t;have:=a i o;simpa[o]using this
 ·rw[q];refine⟨false,rfl,fun h=>(by cases h),fun h=>absurd ?_ p⟩;have:=h _ (ap a);simpa[a]using this
theorem Xs{D Hd:Nat}{b:vz}:zf D Hd b↔(b.1.length=D∧b.2.2.2.2.2.1.length=D)∧(b.2.1.length=D*D∧b.2.2.1.length=D*D∧b.2.2.2.1.length=D*D∧b.2.2.2.2.1.length=D*D)∧
  (b.2.2.2.2.2.2.2.2.2.2.2.1.length=Hd*D∧b.2.2.2.2.2.2.2.2.2.2.2.2.1.length=Hd*D∧b.2.2.2.2.2.2.2.2.2.2.2.2.2.1.length=D*Hd)∧
  aaw [b.2.2.2.2.2.2.1,b.2.2.2.2.2.2.2.1,b.2.2.2.2.2.2.2.2.1,b.2.2.2.2.2.2.2.2.2.1,b.2.2.2.2.2.2.2.2.2.2.1,b.2.2.2.2.2.2.2.2.2.2.2.2.2.2.1,b.2.2.2.2.2.2.2.2.2.2.2.2.2.2.2.1,b.2.2.2.2.2.2.2.2.2.2.2.2.2.2.2.2]:=by
 constructor
 ·intro h;refine⟨⟨h.g1,h.g2⟩,⟨h.q,h.k,h.v,h.o⟩,⟨h.m1,h.m2,h.m3⟩,?_⟩;intro x a;simp only[List.mem_cons,List.not_mem_nil,or_false]at a;rcases a with rfl |rfl |rfl |rfl |rfl |rfl |rfl |rfl
  ·exact h.qs
  ·exact h.ks
  ·exact h.vs
  ·exact h.os
  ·exact h.ss
  ·exact h.gs
  ·exact h.us
  ·exact h.ds
 ·rintro⟨⟨c,d⟩,⟨g,i,j,l⟩,⟨n,p,r⟩,h⟩;exact⟨c,g,i,j,l,d,n,p,r,h _ (by simp),h _ (by simp),h _ (by simp),h _ (by simp),h _ (by simp),h _ (by simp),h _ (by simp),h _ (by simp)⟩
theorem UZ{n:Nat}{s:Yu}{b:vz}{D Hd:Nat}(q:s.2.2.1=(D:Int))(t:s.2.2.2.2.2=(Hd:Int))(a:D≤64)(c:Hd≤256)(u:ii n):∃r,oK n (s,b)=some r∧(r=0↔zf D Hd b):=by
 have w:D*D≤64*64:=aT a a;have x:Hd*D≤256*64:=aT c a;have y:D*Hd≤64*256:=aT a c;have k:ae .i64 ((D:Int)*(D:Int))=((D*D:Nat):Int):=by rw[show(D:Int)*(D:Int)=((D*D:Nat):Int)by simp];exact bu
 have o:ae .i64 ((Hd:Int)*(D:Int))=((Hd*D:Nat):Int):=by rw[show(Hd:Int)*(D:Int)=((Hd*D:Nat):Int)by simp];exact bu
 have p:ae .i64 ((D:Int)*(Hd:Int))=((D*Hd:Nat):Int):=by rw[show(D:Int)*(Hd:Int)=((D*Hd:Nat):Int)by simp];exact bu
 rw[IE,q,t,k,o,p,Xs];simp only[Es,aa]
 by_cases d:(b.1.length=D∧b.2.2.2.2.2.1.length=D)∧(b.2.1.length=D*D∧b.2.2.1.length=D*D∧b.2.2.2.1.length=D*D∧b.2.2.2.2.1.length=D*D)
 case neg=>
  refine⟨161,?_,fun h=>(by cases h),fun h=>absurd ⟨h.1,h.2.1⟩ d⟩;rw[ag,if_pos];simp only[dr,bne_iff_ne,ne_eq];omega
 rw[ag,if_neg (by simp only[dr,bne_iff_ne,ne_eq];omega)]
 by_cases j:(b.2.2.2.2.2.2.2.2.2.2.2.1.length=Hd*D∧b.2.2.2.2.2.2.2.2.2.2.2.2.1.length=Hd*D∧b.2.2.2.2.2.2.2.2.2.2.2.2.2.1.length=D*Hd)
 case neg=>
  refine⟨161,?_,fun h=>(by cases h),fun h=>absurd h.2.2.1 j⟩;rw[ag,if_pos];simp only[dr,bne_iff_ne,ne_eq];omega
 rw[ag,if_neg (by simp only[dr,bne_iff_ne,ne_eq];omega)];rcases SM (n:=n) (l:=[b.2.2.2.2.2.2.1,b.2.2.2.2.2.2.2.1,b.2.2.2.2.2.2.2.2.1,b.2.2.2.2.2.2.2.2.2.1,b.2.2.2.2.2.2.2.2.2.2.1,b.2.2.2.2.2.2.2.2.2.2.2.2.2.2.1,b.2.2.2.2.2.2.2.2.2.2.2.2.2.2.2.1,b.2.2.2.2.2.2.2.2.2.2.2.2.2.2.2.2]) (by simp) u with⟨g,i⟩|⟨g,i⟩
 ·rw[i];exact⟨0,rfl,fun _=>⟨d.1,d.2,j,g⟩,fun _=>rfl⟩
 ·rw[i];exact⟨162,rfl,fun h=>(by cases h),fun h=>absurd h.2.2.2 g⟩
theorem sQ{b:Bool}{p:Prop}(h:b=true↔p):(p∧b=true)∨(¬ p∧b=false):=by
 cases b with
 |true=>exact .inl ⟨h.1 rfl,rfl⟩
 |false=>exact .inr ⟨fun a=>(by have:=h.2 a;cases this),rfl⟩
theorem Va{n:Nat}{s:Yu}{b:vz}{D Hd:Nat}(E:s.2.2.1=(D:Int))(F:s.2.2.2.2.2=(Hd:Int))(a:D≤64)(g:Hd≤256)(c:ii n):∃r,ox n (s,b)=some r∧(r=0↔zf D Hd b):=by
 have M:D*D≤64*64:=aT a a;have N:D*Hd≤64*256:=aT a g;have u:ae .i64 ((D:Int)*(D:Int))=((D*D:Nat):Int):=by rw[show(D:Int)*(D:Int)=((D*D:Nat):Int)by simp];exact bu
 have w:ae .i64 ((D:Int)*(Hd:Int))=((D*Hd:Nat):Int):=by rw[show(D:Int)*(Hd:Int)=((D*Hd:Nat):Int)by simp];exact bu
 rw[Iq,E,F,u,w,Xs,Nat.mul_comm Hd D];obtain⟨I,x,j⟩:=Et (n:=n) (d:=(D:Int)) (l:=[b.1,b.2.2.2.2.2.1]) (by simp) c;obtain⟨J,y,k⟩:=Et (n:=n) (d:=((D*D:Nat):Int)) (l:=[b.2.1,b.2.2.1,b.2.2.2.1,b.2.2.2.2.1]) (by simp) c;obtain⟨K,z,o⟩:=Et (n:=n) (d:=((D*Hd:Nat):Int)) (l:=[b.2.2.2.2.2.2.2.2.2.2.2.1,b.2.2.2.2.2.2.2.2.2.2.2.2.1,b.2.2.2.2.2.2.2.2.2.2.2.2.2.1]) (by simp) c;obtain⟨L,B,H⟩:=GZ (n:=n) (l:=[b.2.2.2.2.2.2.1,b.2.2.2.2.2.2.2.1,b.2.2.2.2.2.2.2.2.1,b.2.2.2.2.2.2.2.2.2.1,b.2.2.2.2.2.2.2.2.2.2.1,b.2.2.2.2.2.2.2.2.2.2.2.2.2.2.1,b.2.2.2.2.2.2.2.2.2.2.2.2.2.2.2.1,b.2.2.2.2.2.2.2.2.2.2.2.2.2.2.2.2]) (by simp) c;simp only[List.mem_cons,List.not_mem_nil,or_false,forall_eq_or_imp,forall_eq]at j k o;rw[x];simp only[aa];rcases sQ j with⟨p,rfl⟩|⟨p,rfl⟩
 case inr=>exact⟨161,rfl,fun h=>(by cases h),fun h=>absurd ⟨by omega,by omega⟩ p⟩
 rw[y];simp only[aa,cD,jT];rcases sQ k with⟨q,rfl⟩|⟨q,rfl⟩
 case inr=>exact⟨161,rfl,fun h=>(by cases h),fun h=>absurd ⟨by omega,by omega,by omega,by omega⟩ q⟩
 rw[z];simp only[aa,cD,jT];rcases sQ o with⟨t,rfl⟩|⟨t,rfl⟩
 case inr=>exact⟨161,rfl,fun h=>(by cases h),fun h=>absurd ⟨by omega,by omega,by omega⟩ t⟩
 rw[B];simp only[aa,cD,jT];rcases sQ H with⟨i,rfl⟩|⟨i,rfl⟩
 case inr=>exact⟨162,rfl,fun h=>(by cases h),fun h=>absurd h.2.2.2 i⟩
 exact⟨0,rfl,fun _=>⟨⟨by omega,by omega⟩,⟨by omega,by omega,by omega,by omega⟩,⟨by omega,by omega,by omega⟩,i⟩,fun _=>rfl⟩
def Me(m:Mod):Prop:=uI m.1∧aav m.2.1∧(m.2.1.1.length:Int)=m.1.1∧∃D H a C b V L,MOk m D H a C b V L
theorem Ha{a b c:Nat}(h:a*b≤c)(d:c≤1000000000):ae .i64 ((a:Int)*(b:Int))=((a*b:Nat):Int):=by
 rw[show(a:Int)*(b:Int)=((a*b:Nat):Int)by simp];exact bu
theorem Q8{m:Mod}{D H half C Hd V L:Nat}(g:m.1.2.2.1/m.1.2.2.2.1/2=(half:Int))(N:m.1.1=(V:Int))(O:m.1.2.1=(C:Int))(P:m.1.2.2.1=(D:Int))(Q:m.1.2.2.2.1=(H:Int))(R:m.1.2.2.2.2.1=(L:Int))(S:m.1.2.2.2.2.2=(Hd:Int))
  (h:∃D H half C Hd V L,MOk m D H half C Hd V L):MOk m D H half C Hd V L:=by
 obtain⟨i,j,a,n,k,p,o,b⟩:=h;have I:=b.v;have J:=b.c;have q:=b.d;have r:=b.h;have K:=b.l;have M:=b.hd;have t:p=V:=by omega
 have u:n=C:=by omega
 have w:i=D:=by omega
 have x:j=H:=by omega
 have y:o=L:=by omega
 have z:k=Hd:=by omega
 have B:a=half:=by
  have E:i/j=2*a:=by rw[b.kp.d];exact Nat.mul_div_cancel_left _ b.kp.hh
  rw[q,r]at g;have F:(i:Int)/(j:Int)/2=((i/j/2:Nat):Int):=by simp
  rw[F,E]at g;omega
 subst t u w x y z B;exact b
theorem J3{n:Nat}{m:Mod}(hm:WD m)(hn:ii n):∃r,kY n m=some r∧(r.2.2=0↔Me m):=by
 have hbs:=hm.bs;obtain⟨vr,hvr,w⟩:=UW (n:=n) (v:=m.2.1) hm.t hm.ms hm.tt hn;rw[IF,J1];simp only[aa,ag,bne_iff_ne,ne_eq]
 by_cases B:uI m.1
 case neg=>
  rw[sP B,if_pos (by decide)];exact⟨_,rfl,fun h=>(by cases h),fun h=>absurd h.1 B⟩
 rw[BV B,if_neg (by simp),hvr];simp only[aa]
 by_cases E:¬ vr.2=0
 ·rw[if_pos E];exact⟨_,rfl,fun h=>absurd h E,fun h=>absurd (w.2 h.2.1) E⟩
 rw[if_neg E];have P:=w.1 (Decidable.not_not.1 E);have o:=WF (n:=n) B;obtain⟨D,H,d,C,Hd,V,L,l,U,X,I,hH,T,x,J,Y,M⟩:=Xr B;rw[M]at o;have c:=Q8 (m:=m) M U X I hH T x;have g1:=l.dm;have g2:=l.hm;have g3:=l.cm;have g4:=l.hle;have m1:V*D≤512*64:=aT J.2 g1;have m2:C*d≤512*64:=aT g3 (by omega);have e1:=Ha m1 (by omega);have e2:=Ha m2 (by omega)
 by_cases Q:¬ (m.2.1.1.length:Int)=m.1.1
 ·rw[if_pos Q];exact⟨_,rfl,fun h=>(by cases h),fun h=>absurd h.2.2.1 Q⟩
 rw[if_neg Q,U,I,e1]
 by_cases W:¬ (m.2.2.1.length:Int)=((V*D:Nat):Int)
 ·rw[if_pos W];exact⟨_,rfl,fun h=>(by cases h),fun h=>absurd (by rw[(c h.2.2.2).e]) W⟩
 rw[if_neg W,rn];simp only[aa]
 by_cases y:¬ (0≤m.2.2.2.1∧m.2.2.2.1≤24)
 ·rw[if_pos (by simp only[cd,decide_eq_false_iff_not];exact y)];exact⟨_,rfl,fun h=>(by cases h),fun h=>absurd (c h.2.2.2).es y⟩
 have y:=Decidable.not_not.1 y;rw[if_neg (by simp only[cd,decide_eq_false_iff_not];exact fun h=>h y)];rcases fM (L:=fun k j (_:Unit)=>eU n k ((),(),[m.2.2.2.2.1,m.2.2.2.2.2.1],(([m.2.2.2.2.1,m.2.2.2.2.2.1].length:Nat):Int),j,m,m.1,())) (len:=2) (fun _=>())
  (fun i=>(([m.2.2.2.2.1,m.2.2.2.2.2.1]:List (List Int)).getD i []).length=C*d) (fun i=> .inl (4,(i:Int),161,())) (.inr ((),(),m,m.1,())) (by
  intro k j p _;show(_∧eU n (k+1) _=_)∨(_∧eU n (k+1) _=_);rw[qy,ag,if_pos (by rw[dU];simp only[ca,cH];omega),Bu (show j<([m.2.2.2.2.1,m.2.2.2.2.2.1]:List (List Int)).length from p) []];simp only[aa,ag,bne_iff_ne,ne_eq];rw[o];simp only[aa];rw[X,e2]
  by_cases d1:¬ (((([m.2.2.2.2.1,m.2.2.2.2.2.1]:List (List Int)).getD j []).length:Nat):Int)=((C*d:Nat):Int)
  ·rw[if_pos d1];exact .inr ⟨by omega,rfl⟩
  ·rw[if_neg d1,bu];exact .inl ⟨by omega,rfl⟩) (by
  intro k;show eU n (k+1) _=_;rw[qy,ag,if_neg (by simp)]) n (by omega)with⟨R,h2⟩|⟨j,R,h2,F,S⟩
 case inr=>
  rw[S];refine⟨_,rfl,fun h=>(by cases h),fun h=>absurd ?_ F⟩;have ho:=c h.2.2.2
  match j,R with
  |0,_=>exact ho.cos
  |1,_=>exact ho.sin
 rw[h2];simp only[aa,ea];have K:m.2.2.2.2.1.length=C*d:=R 0 (by omega);have O:m.2.2.2.2.2.1.length=C*d:=R 1 (by omega);rcases fM (L:=fun k j (_:Unit)=>(eV n k ((),(),m.2.2.2.2.2.2.1,(m.2.2.2.2.2.2.1.length:Int),j,m,m.1,())).map (fun q=>match q with |.inl q=>Sum.inl (decide (q.2.2.1=0))|.inr q=> .inr q)) (len:=m.2.2.2.2.2.2.1.length) (fun _=>())
  (fun i=>i<L∧∀(h:i<m.2.2.2.2.2.2.1.length),zf D Hd m.2.2.2.2.2.2.1[i]) (fun _=> .inl false) (.inr ((),(),m,m.1,())) (by
  intro k j p _;show(_∧Option.map _ (eV n (k+1) _)=_)∨(_∧Option.map _ (eV n (k+1) _)=_);obtain⟨r,hr,N⟩:=UZ (n:=n) (s:=m.1) (b:=m.2.2.2.2.2.2.1[j]) (D:=D) (Hd:=Hd) I x g1 g2 hn;rw[qz,xY,cO p];simp only[aa,ag,bne_iff_ne,ne_eq,dU];rw[T]
  by_cases d1:(j:Int)≥(L:Int)
  ·rw[if_pos d1];exact .inr ⟨fun h=>absurd h.1 (by omega),rfl⟩
  rw[if_neg d1,hr];simp only[aa]
  by_cases d2:¬ r=0
  ·rw[if_pos d2];exact .inr ⟨fun h=>absurd (N.2 (h.2 p)) d2,by simp[d2]⟩
  ·rw[if_neg d2,bu];exact .inl ⟨⟨by omega,fun _=>N.1 (Decidable.not_not.1 d2)⟩,rfl⟩) (by
  intro k;show Option.map _ (eV n (k+1) _)=_;rw[qz,ag,if_neg (by simp)];rfl) n (by omega)with⟨F,S⟩|⟨j,F,S,h5,h6⟩
 case inr=>
  obtain⟨q,hq,a⟩:=Option.map_eq_some_iff.1 h6;rw[hq]
  match q,a with
  |.inl q,a=>
   have hz:¬ q.2.2.1=0:=by simpa using a
   refine⟨_,rfl,fun h=>absurd h hz,fun h=>absurd ⟨?_,fun p=> ?_⟩ h5⟩
   ·have:=(c h.2.2.2).bs;omega
   ·exact(c h.2.2.2).b _ (ap p)
  |.inr q,a=>cases a
 obtain⟨q,hq,a⟩:=Option.map_eq_some_iff.1 S;rw[hq]
 match q,a with
 |.inl q,a=>cases a
 |.inr q,a=>
 have a:q=((),(),m,m.1,()):=by simpa using a
 subst a;simp only[aa];rw[T,I,U,e1];simp only[dU]
 by_cases c5:(m.2.2.2.2.2.2.1.length:Int)<(L:Int)
 ·rw[if_pos c5];exact⟨_,rfl,fun h=>(by cases h),fun h=>(by have:=(c h.2.2.2).bs;omega)⟩
 rw[if_neg c5]
 by_cases c6:¬ (m.2.2.2.2.2.2.2.1.length:Int)=256
 ·rw[if_pos c6];exact⟨_,rfl,fun h=>(by cases h),fun h=>(by have:=(c h.2.2.2).be;omega)⟩
 rw[if_neg c6]
 by_cases c7:¬ (m.2.2.2.2.2.2.2.2.1.length:Int)=(D:Int)
 ·rw[if_pos c7];exact⟨_,rfl,fun h=>(by cases h),fun h=>(by have:=(c h.2.2.2).g;omega)⟩
 rw[if_neg c7]
 by_cases c8:¬ (m.2.2.2.2.2.2.2.2.2.1.length:Int)=((V*D:Nat):Int)
 ·rw[if_pos c8];exact⟨_,rfl,fun h=>(by cases h),fun h=>(by have:=(c h.2.2.2).u;omega)⟩
 rw[if_neg c8,rn];simp only[aa]
 by_cases z:¬ (0≤m.2.2.2.2.2.2.2.2.2.2∧m.2.2.2.2.2.2.2.2.2.2≤31)
 ·rw[if_pos (by simp only[cd,decide_eq_false_iff_not];exact z)];exact⟨_,rfl,fun h=>(by cases h),fun h=>absurd (c h.2.2.2).ls z⟩
 have z:=Decidable.not_not.1 z;rw[if_neg (by simp only[cd,decide_eq_false_iff_not];exact fun h=>h z)];have Z:m.2.2.2.2.2.2.1.length=L:=by
  by_cases h0:m.2.2.2.2.2.2.1.length=0
  ·omega
  ·have:=(F (m.2.2.2.2.2.2.1.length -1) (by omega)).1;omega
 refine⟨_,rfl,fun _=>⟨B,P,Decidable.not_not.1 Q,D,H,d,C,Hd,V,L,l,U,X,I,hH,T,x,J,Y,by omega,y,K,O,Z,fun b hb=> ?_,by omega,by omega,by omega,z⟩,fun _=>rfl⟩;obtain⟨j,p,rfl⟩:=cZ hb;exact(F j p).2 p
end Go.Am.Pu
