import Derived.Test.YtllhngpojglipaaGreatDoorP4
set_option linter.unusedVariables false
set_option linter.unusedSimpArgs false
open Bool renaming and_eq_true→aj,false_eq_true→cp,not_eq_true'→aW,not_eq_true→eK,not_true→ba,or_eq_true→aB
open Int renaming emod_lt_of_pos→dD,emod_nonneg→fw,mul_ediv_add_emod→dU,mul_le_mul_of_nonneg_right→ci,toNat_natCast→ax
open Go.IntKind renaming i64→bw
open List renaming drop_eq_getElem_cons→bz,drop_of_length_le→bB,drop_zero→dC,getD_eq_getElem?_getD→aG,getElem?_eq_getElem→ah,getElem?_eq_none→bx,getElem_mem→ak,length_cons→aZ,mem_cons_of_mem→aF,mem_cons_self→aH,mem_of_mem_take→dy,take_add_one→dO,take_length→ch,take_zero→fm
open Nat renaming le_mul_of_pos_right→cB,le_refl→aA,mul_le_mul_right→cv,mul_le_mul→bK
open Option renaming bind_some→aa
namespace Go.Am.Pu
open Go Go.Am
structure atC (b:GI):Prop where
 g1:b.1.length≤1000000000
 q:b.2.1.length≤1000000000
 k:b.2.2.1.length≤1000000000
 v:b.2.2.2.1.length≤1000000000
 o:b.2.2.2.2.1.length≤1000000000
 g2:b.2.2.2.2.2.1.length≤1000000000
 m1:b.2.2.2.2.2.2.2.2.2.2.2.1.length≤1000000000
 m2:b.2.2.2.2.2.2.2.2.2.2.2.2.1.length≤1000000000
 m3:b.2.2.2.2.2.2.2.2.2.2.2.2.2.1.length≤1000000000
theorem av8{l:List Int}{b:Nat}(h:l.length≤1000000000:=by omega)(hb:b≤1000:=by omega):app b [] l=some l:=by
 unfold app;rw[if_pos]
 ·rfl
 ·have:l.length*b≤1000000000*1000:=bK h hb;unfold room;simp;omega
theorem cT{n:Nat}{l:List Int}(h:l.length≤1000000000:=by omega):bG n l=some l:=by
 rw[adI,av8 h (by omega)];rfl
noncomputable def wd(b:GI)(f:QQ):List (List Int)→kR→List (List Int)→Int⊕(kR×List (List Int))
 |[],all,out=> .inr (all,out)
 |x::xs,all,out=>
  if(pX b f x (all.length:Int)).2≠0 then .inl (pX b f x (all.length:Int)).2 else
  if(Nx b f x (all++[(pX b f x (all.length:Int)).1])).2≠0 then .inl (Nx b f x (all++[(pX b f x (all.length:Int)).1])).2 else
  wd b f xs (all++[(pX b f x (all.length:Int)).1]) (out++[(Nx b f x (all++[(pX b f x (all.length:Int)).1])).1])
noncomputable def B9(b:GI)(f:QQ)(xs:List (List Int))(aO:kR):List (List Int)×kR×Int:=
 match wd b f xs aO []with
 |.inl e=>([],[],e)
 |.inr r=>(r.2,r.1.drop aO.length,0)
theorem Xc{b:GI}{f:QQ}{x:List Int}{p:Int}:bc (pX b f x p).1.1∧bc (pX b f x p).1.2:=by
 have xT:bc []:=fun x hx=>(by cases hx);unfold pX;simp only
 split
 ·exact⟨xT,xT⟩
 ·split
  ·exact⟨xT,xT⟩
  ·split
   ·exact⟨xT,xT⟩
   ·split
    ·exact⟨xT,xT⟩
    ·exact⟨Mg.bc,jW.bc⟩
theorem QF{b:GI}{f:QQ}:∀{xs:List (List Int)} {all:kR} {out:List (List Int)} {r:kR×List (List Int)},wd b f xs all out= .inr r→r.1.length=all.length+xs.length∧r.2.length=out.length+xs.length∧all<+:r.1∧((∀p∈all,bc p.1∧bc p.2)→∀p∈r.1,bc p.1∧bc p.2)∧((∀y∈out,iI y)→∀y∈r.2,iI y):=by
 intro xs
 induction xs with
 |nil=>
  intro all out r h;simp only[wd,Sum.inr.injEq]at h;subst h;exact⟨by simp,by simp,List.prefix_rfl,fun h=>h,fun h=>h⟩
 |cons x xs ih=>
  intro all out r h;simp only[wd]at h
  split at h
  ·cases h
  ·split at h
   ·cases h
   ·obtain⟨h1,h2,h3,h4,h5⟩:=ih h;refine⟨by simp at h1 ⊢;omega,by simp at h2 ⊢;omega,(List.prefix_append _ _).trans h3,fun ha=>h4 ?_,fun ha=>h5 ?_⟩
    ·intro p hp;rcases List.mem_append.1 hp with hp |hp
     ·exact ha p hp
     ·rw[List.mem_singleton.1 hp];exact Xc
    ·intro y hy;rcases List.mem_append.1 hy with hy |hy
     ·exact ha y hy
     ·rw[List.mem_singleton.1 hy];exact atB
theorem abo{n:Nat}{aO:kR}{xs:List (List Int)}{o0 o1 o2 o3 o4 o5:List Int}{o6 o7 o8 o9 o10:Int}{o11 o12 o13:List Int}{o14 o15 o16:Int}{f0:Int}{f1 f2 f3:List Int}(hb:OkB (o0,o1,o2,o3,o4,o5,o6,o7,o8,o9,o10,o11,o12,o13,o14,o15,o16))(hf:OkF (f0,f1,f2,f3))(hx8:∀x∈xs,iI x∧x.length≤1000000000)(hxl:xs.length≤1000000000)(hn:2000000000≤n):
  ∀(m k i:Nat) (all:kR) (out:List (List Int)),i+m=xs.length→m<k→(∀p∈all,bc p.1∧bc p.2)→all.length+m≤1000000000→out.length+m≤1000000000→
  tK n k (aO,(),(),all,out,xs,(xs.length:Int),(i:Int),(o0,o1,o2,o3,o4,o5,o6,o7,o8,o9,o10,o11,o12,o13,o14,o15,o16),(f0,f1,f2,f3),())=
   some (match wd (o0,o1,o2,o3,o4,o5,o6,o7,o8,o9,o10,o11,o12,o13,o14,o15,o16) (f0,f1,f2,f3) (xs.drop i) all out with |.inl e=>Sum.inl ([],([],(e,())))|.inr r=>Sum.inr (aO,(r.1,(r.2,())))):=by
 intro m
 induction m with
 |zero=>
  intro k i all out h1 h2 _ _ _;obtain⟨k,rfl⟩:=iY k;rw[Dn,sS,bB (by omega)];rfl
 |succ m ih=>
  intro k i all out h1 h2 h3 h4 h5;obtain⟨k,rfl⟩:=iY k;have hi:i<xs.length:=by omega
  obtain⟨x,hx⟩:∃x,x=xs[i]:=⟨_,rfl⟩;have hxm:x∈xs:=by rw[hx];exact ak hi
  rw[Dn,jK,bj hi,←hx,bz hi,←hx];simp only[aa,wd];rw[ao2 hb hf (hx8 x hxm).2 hn];simp only[aa,af,bne_iff_ne];obtain⟨K,hK⟩:∃K,K=pX (o0,o1,o2,o3,o4,o5,o6,o7,o8,o9,o10,o11,o12,o13,o14,o15,o16) (f0,f1,f2,f3) x (all.length:Int):=⟨_,rfl⟩;have hK8:bc K.1.1∧bc K.1.2:=by rw[hK];exact Xc
  rw[←hK]
  by_cases c1:K.2≠0
  ·rw[if_pos c1,if_pos c1]
  rw[if_neg c1,if_neg c1];have hap:app 48 all [K.1]=some (all++[K.1]):=by
   unfold app;rw[if_pos (by unfold room;simp;omega)]
  have XB:∀p∈all++[K.1],bc p.1∧bc p.2:=by
   intro p hp;rcases List.mem_append.1 hp with hp |hp
   ·exact h3 p hp
   ·rw[List.mem_singleton.1 hp];exact hK8
  rw[hap];simp only[aa];rw[ary hb hf (hx8 x hxm).1 (hx8 x hxm).2 XB (by simp;omega) hn];simp only[aa];obtain⟨R,hR⟩:∃R,R=Nx (o0,o1,o2,o3,o4,o5,o6,o7,o8,o9,o10,o11,o12,o13,o14,o15,o16) (f0,f1,f2,f3) x (all++[K.1]):=⟨_,rfl⟩;rw[←hR]
  by_cases c2:R.2≠0
  ·rw[if_pos c2,if_pos c2]
  rw[if_neg c2,if_neg c2];have ayZ:app 24 out [R.1]=some (out++[R.1]):=by
   unfold app;rw[if_pos (by unfold room;simp;omega)]
  rw[ayZ];simp only[aa];rw[aN];exact ih k (i+1) (all++[K.1]) (out++[R.1]) (by omega) (by omega) XB (by simp;omega) (by simp;omega)
theorem ao9{n:Nat}{b:GI}{f:QQ}{xs:List (List Int)}{aO:kR}(hb:OkB b)(hf:OkF f)(hx8:∀x∈xs,iI x∧x.length≤1000000000)(hp:∀p∈aO,bc p.1∧bc p.2)(hl:aO.length+xs.length≤1000000000)(hn:2000000000≤n):zo n (b,f,xs,aO)=some (B9 b f xs aO):=by
 obtain⟨o0,o1,o2,o3,o4,o5,o6,o7,o8,o9,o10,o11,o12,o13,o14,o15,o16⟩:=b;obtain⟨f0,f1,f2,f3⟩:=f;rw[aaA];have hap:app 48 [] aO=some aO:=by
  unfold app;rw[if_pos (by unfold room;simp;omega)];rfl
 rw[hap];simp only[aa];have hL:=abo (aO:=aO) hb hf hx8 (by omega) hn xs.length n 0 aO [] (by omega) (by omega) hp (by omega) (by simp;omega);rw[Int.natCast_zero,dC]at hL;rw[hL];unfold B9;obtain⟨G,hG⟩:∃G,G=wd (o0,o1,o2,o3,o4,o5,o6,o7,o8,o9,o10,o11,o12,o13,o14,o15,o16) (f0,f1,f2,f3) xs aO []:=⟨_,rfl⟩;rw[←hG]
 match G,hG with
 |.inl e,hG=>rfl
 |.inr r,hG=>
  obtain⟨h1,h2,h3,_⟩:=QF hG.symm;simp only[aa,cY];unfold slc;rw[if_pos ⟨by omega,by omega,by omega⟩];simp only[aa,ax,ch]
theorem abp{n:Nat}{aO:kR}{xs:List (List Int)}{o0 o1 o2 o3 o4 o5:List Int}{o6 o7 o8 o9 o10:Int}{o11 o12 o13:List Int}{o14 o15 o16:Int}{f0:Int}{f1 f2 f3:List Int}(hb:OkB (o0,o1,o2,o3,o4,o5,o6,o7,o8,o9,o10,o11,o12,o13,o14,o15,o16))(hf:OkF (f0,f1,f2,f3))(hx8:∀x∈xs,iI x∧x.length≤1000000000)(hxl:xs.length≤1000000000)(hn:2000000000≤n):
  ∀(m k i:Nat) (all:kR) (out:List (List Int)),i+m=xs.length→m<k→(∀p∈all,bc p.1∧bc p.2)→all.length+m≤1000000000→out.length+m≤1000000000→
  ud n k (aO,(),(),all,out,xs,(xs.length:Int),(i:Int),(o0,o1,o2,o3,o4,o5,o6,o7,o8,o9,o10,o11,o12,o13,o14,o15,o16),(f0,f1,f2,f3),())=
   some (match wd (o0,o1,o2,o3,o4,o5,o6,o7,o8,o9,o10,o11,o12,o13,o14,o15,o16) (f0,f1,f2,f3) (xs.drop i) all out with |.inl e=>Sum.inl ([],([],(e,())))|.inr r=>Sum.inr (aO,(r.1,(r.2,())))):=by
 intro m
 induction m with
 |zero=>
  intro k i all out h1 h2 _ _ _;obtain⟨k,rfl⟩:=iY k;rw[DB,sS,bB (by omega)];rfl
 |succ m ih=>
  intro k i all out h1 h2 h3 h4 h5;obtain⟨k,rfl⟩:=iY k;have hi:i<xs.length:=by omega
  obtain⟨x,hx⟩:∃x,x=xs[i]:=⟨_,rfl⟩;have hxm:x∈xs:=by rw[hx];exact ak hi
  rw[DB,jK,bj hi,←hx,bz hi,←hx];simp only[aa,wd];rw[ao3 hb hf (hx8 x hxm).2 hn];simp only[aa,af,bne_iff_ne];obtain⟨K,hK⟩:∃K,K=pX (o0,o1,o2,o3,o4,o5,o6,o7,o8,o9,o10,o11,o12,o13,o14,o15,o16) (f0,f1,f2,f3) x (all.length:Int):=⟨_,rfl⟩;have hK8:bc K.1.1∧bc K.1.2:=by rw[hK];exact Xc
  rw[←hK]
  by_cases c1:K.2≠0
  ·rw[if_pos c1,if_pos c1]
  rw[if_neg c1,if_neg c1];have hap:app 48 all [K.1]=some (all++[K.1]):=by
   unfold app;rw[if_pos (by unfold room;simp;omega)]
  have XB:∀p∈all++[K.1],bc p.1∧bc p.2:=by
   intro p hp;rcases List.mem_append.1 hp with hp |hp
   ·exact h3 p hp
   ·rw[List.mem_singleton.1 hp];exact hK8
  rw[hap];simp only[aa];rw[arz hb hf (hx8 x hxm).1 (hx8 x hxm).2 XB (by simp;omega) hn];simp only[aa];obtain⟨R,hR⟩:∃R,R=Nx (o0,o1,o2,o3,o4,o5,o6,o7,o8,o9,o10,o11,o12,o13,o14,o15,o16) (f0,f1,f2,f3) x (all++[K.1]):=⟨_,rfl⟩;rw[←hR]
  by_cases c2:R.2≠0
  ·rw[if_pos c2,if_pos c2]
  rw[if_neg c2,if_neg c2];have ayZ:app 24 out [R.1]=some (out++[R.1]):=by
   unfold app;rw[if_pos (by unfold room;simp;omega)]
  rw[ayZ];simp only[aa];rw[aN];exact ih k (i+1) (all++[K.1]) (out++[R.1]) (by omega) (by omega) XB (by simp;omega) (by simp;omega)
theorem apa{n:Nat}{b:GI}{f:QQ}{xs:List (List Int)}{aO:kR}(hb:OkB b)(hf:OkF f)(hx8:∀x∈xs,iI x∧x.length≤1000000000)(hp:∀p∈aO,bc p.1∧bc p.2)(hl:aO.length+xs.length≤1000000000)(hn:2000000000≤n):zJ n (b,f,xs,aO)=some (B9 b f xs aO):=by
 obtain⟨o0,o1,o2,o3,o4,o5,o6,o7,o8,o9,o10,o11,o12,o13,o14,o15,o16⟩:=b;obtain⟨f0,f1,f2,f3⟩:=f;rw[aa0];have hap:app 48 [] aO=some aO:=by
  unfold app;rw[if_pos (by unfold room;simp;omega)];rfl
 rw[hap];simp only[aa];have hL:=abp (aO:=aO) hb hf hx8 (by omega) hn xs.length n 0 aO [] (by omega) (by omega) hp (by omega) (by simp;omega);rw[Int.natCast_zero,dC]at hL;rw[hL];unfold B9;obtain⟨G,hG⟩:∃G,G=wd (o0,o1,o2,o3,o4,o5,o6,o7,o8,o9,o10,o11,o12,o13,o14,o15,o16) (f0,f1,f2,f3) xs aO []:=⟨_,rfl⟩;rw[←hG]
 match G,hG with
 |.inl e,hG=>rfl
 |.inr r,hG=>
  obtain⟨h1,h2,h3,_⟩:=QF hG.symm;simp only[aa,cY];unfold slc;rw[if_pos ⟨by omega,by omega,by omega⟩];simp only[aa,ax,ch]
theorem dg{n:Nat}{a:List Int}(h:a.length≤1000000000)(hn:2000000000≤n):dE n (a,a)=some true:=by
 rw[aba,af,if_neg (by simp)];have hL:=aX (L:=fun k i (_:Unit)=>mZ n k (a,a,(a.length:Int),i,())) (len:=a.length) (r:=Sum.inr ()) (fun _=>()) ?_ ?_ n (by omega)
 ·rw[hL];rfl
 ·intro k i hi;show mZ n (k+1) _=_;rw[DI,jK,bm hi 0];simp only[aa,af];rw[if_neg (by simp),aN]
 ·intro k;show mZ n (k+1) _=_;rw[DI,af,if_neg (by simp)]
theorem arB{α:Type}{l:List α}{i:Nat}(h:i<l.length):l.take i++[l[i]]=l.take (i+1):=by
 rw[dO,ah h];rfl
theorem Gr{α:Type}{l:List α}{i b:Nat}(h:i<l.length)(hl:l.length≤1000000000)(hb:b≤1000):app b (l.take i) [l[i]]=some (l.take (i+1)):=by
 unfold app;have:(i+1)*b≤1000000000*1000:=bK (by omega) hb;have h2:(l.take i).length=i:=by simp;omega
 rw[arB h,if_pos];rw[h2];exact⟨by unfold room;simp;omega,by unfold room;simp;omega⟩
theorem Uk{n:Nat}{b:GI}(hb:atC b)(hn:2000000000≤n):ul n (b,b)=some true:=by
 rw[TM];simp only[af,bne_self_eq_false,cp,if_false];rw[dg hb.g1 hn,dg hb.q hn,dg hb.k hn,dg hb.v hn,dg hb.o hn,dg hb.g2 hn,dg hb.m1 hn,dg hb.m2 hn,dg hb.m3 hn];rfl
theorem aip{x y d:Int}(hd:1≤d)(h:x≤y):vl x d≤vl y d:=by
 have hx:=dU x d;have hy:=dU y d;have rx:=fw x (show d≠0 by omega);have rx2:=dD x (show 0<d by omega);have ry:=fw y (show d≠0 by omega);have ry2:=dD y (show 0<d by omega);have hq:=Int.ediv_le_ediv (show 0<d by omega) h;unfold vl
 by_cases he:x/d=y/d
 ·rw[he]at hx ⊢
  split<;>split<;>omega
 ·split<;>split<;>omega
theorem atD{x d:Int}(hd:1≤d):vl (-x) d= -vl x d:=by
 have hx:=dU x d;have rx:=fw x (show d≠0 by omega);have rx2:=dD x (show 0<d by omega)
 by_cases h0:x % d=0
 ·obtain⟨e1,e2⟩:(-x)/d= -(x/d)∧(-x) % d=0:=(Int.ediv_emod_unique (by omega)).2 ⟨by rw[Int.mul_neg];omega,by omega,by omega⟩;unfold vl;rw[e1,e2,h0]
  split<;>split<;>omega
 ·obtain⟨e1,e2⟩:(-x)/d= -(x/d) -1∧(-x) % d=d -x % d:=(Int.ediv_emod_unique (by omega)).2 ⟨by rw[Int.mul_sub,Int.mul_neg];omega,by omega,by omega⟩;unfold vl;rw[e1,e2]
  split<;>split<;>omega
theorem QG{x s:Int}(h1:0≤s)(h2:s≤62):cq x s=(vl x (2^s.toNat),0):=by
 unfold cq;rw[gG]
theorem arC{x X s:Int}(h1: -X≤x)(h2:x≤X)(hs:0≤s)(hs2:s≤62): -(cq X s).1≤(cq x s).1∧(cq x s).1≤(cq X s).1:=by
 have hd:=(rV (s:=s.toNat) (by omega)).1;rw[QG hs hs2,QG hs hs2];have a:=aip hd h1;have b:=aip hd h2;rw[atD hd]at a;exact⟨a,b⟩
theorem am0{x s:Int}(h:0≤x)(hs:0≤s)(hs2:s≤62):(cq x s).1≤x:=by
 have hd:=(rV (s:=s.toNat) (by omega)).1;obtain⟨d,sD⟩:∃d:Int,d=2^s.toNat:=⟨_,rfl⟩;rw[QG hs hs2];rw[←sD]at hd ⊢;have hx:=dU x d;have rx:=fw x (show d≠0 by omega);have rx2:=dD x (show 0<d by omega);have hq:=(jQ hd).1 h;show vl x d≤x;unfold vl
 split
 ·rename_i c
  by_cases hq0:x/d=x
  ·exfalso
   by_cases hx0:x=0
   ·rw[hx0]at c rx;simp at c;omega
   ·have h1:d=1:=by
     have:d*(x/d)≤x:=by omega
     rw[hq0]at this
     by_cases h2:d≤1
     ·omega
     ·exfalso;have:=ci (show(2:Int)≤d by omega) h;omega
    omega
  ·omega
 ·omega
def jm(x:Int):Int:=if x<0 then -x else x
theorem am1(x:Int):0≤jm x∧-jm x≤x∧x≤jm x:=by
 unfold jm;split<;>omega
def gI(l:List Int):Int:=gH (fun i=>jm (l.getD i 0)) l.length
theorem ae1{g h:Nat→Int}:∀n,(∀i,i<n→-(h i)≤g i∧g i≤h i)→-(gH h n)≤gH g n∧gH g n≤gH h n
 |0,_=>by simp[gH]
 |n+1,hh=>by
  have h1:=ae1 n fun i hi=>hh i (by omega);have h2:=hh n (by omega);simp only[gH];omega
theorem ae2{h:Nat→Int}(c:Int):∀n,gH (fun i=>c*h i) n=c*gH h n
 |0=>by simp[gH]
 |n+1=>by simp only[gH];rw[ae2 c n,Int.mul_add]
theorem sk.at{l:List Int}(h:sk l)(i:Nat): -127≤l.getD i 0∧l.getD i 0≤127:=by
 by_cases hi:i<l.length
 ·rw[aT hi];exact h _ (ak hi)
 ·rw[aG,bx (by omega)];decide
theorem aqp{a b:Int}(hb: -127≤b∧b≤127): -(127*jm a)≤a*b∧a*b≤127*jm a:=by
 have h:=am1 a;have:=akD (a:=a) (b:=b) (m:=jm a) (k:=127) ⟨h.2.1,h.2.2⟩ hb;omega
theorem atE{r o:List Int}(ho:sk o): -(127*gI r)≤yp r o∧yp r o≤127*gI r:=by
 unfold yp gI;rw[←ae2];exact ae1 _ fun i _=>aqp (ho.at i)
theorem aiq{l:List Int}(h:bc l):0≤gI l∧gI l≤l.length*128:=by
 unfold gI;refine Gp _ fun j _=> ?_;have h1:=h.at j;unfold jm
 split<;>omega
theorem air{w x:List Int}{c:Nat}(hw:w.length≤1048576)(hc:1≤c)(hm:w.length % c=0)(hx:x.length=c):kW w (c:Int) x=(Xa w c x,0):=by
 have h0:JO w (c:Int)=0:=by
  unfold JO;rw[gG,gG]
 unfold kW;rw[h0,if_neg (by simp),gG,ax]
theorem ais{l:List Int}{s:Int}(hl:l.length≤1048576)(hs:0≤s)(hs2:s≤62):jL l s=(l.map (fun x=>(cq x s).1),0):=by
 unfold jL amC;rw[if_neg (show ¬ l.length>1048576 by omega),if_neg (by simp),gG]
theorem H5{w x:List Int}{c:Nat}:(Xa w c x).length=w.length/c:=by simp[Xa]
theorem DV{w h:List Int}{s:Int}{r:Nat}(hw:w.length=r*h.length)(hb:r*h.length≤1048576)(hc:1≤h.length)(hs:0≤s)(hs2:s≤62):(dM w h s).2=0∧(dM w h s).1.length=r:=by
 unfold dM;have hd:w.length/h.length=r:=by rw[hw];exact Nat.mul_div_cancel _ (by omega)
 have hr:r≤1048576:=by
  have:=cB r (show 0<h.length by omega);omega
 rw[air (by omega) hc (by rw[hw];exact Nat.mul_mod_left _ _) rfl];simp only[ne_eq,not_true,if_false];unfold zV;rw[ais (by rw[H5,hd];exact hr) hs hs2];exact⟨rfl,by simp[H5,hd]⟩
theorem abT{x gw:List Int}(hg:gw.length=x.length)(h1:1≤x.length)(h2:x.length≤64)(hx:∀y∈x,-268435456≤y∧y≤268435456):(ns x gw).2=0∧(ns x gw).1.length=x.length:=by
 have hr:(gk x).2=0:=by
  unfold gk;rw[gG,if_neg];rintro⟨i,hi,hf⟩;unfold qu at hf;rw[aT hi]at hf;have:=hx _ (ak hi);omega
 unfold ns;rw[gG,hr];simp
structure Mh (D H half C Hd:Nat):Prop where
 d:D=H*(2*half)
 h:1≤half
 hh:1≤H
 dm:D≤64
 c:1≤C
 cm:C≤512
 hd:1≤Hd
 hm:Hd≤256
structure Jw (D Hd:Nat) (b:GI):Prop where
 g1:b.1.length=D
 q:b.2.1.length=D*D
 k:b.2.2.1.length=D*D
 v:b.2.2.2.1.length=D*D
 o:b.2.2.2.2.1.length=D*D
 g2:b.2.2.2.2.2.1.length=D
 m1:b.2.2.2.2.2.2.2.2.2.2.2.1.length=Hd*D
 m2:b.2.2.2.2.2.2.2.2.2.2.2.2.1.length=Hd*D
 m3:b.2.2.2.2.2.2.2.2.2.2.2.2.2.1.length=D*Hd
 qs:0≤b.2.2.2.2.2.2.1∧b.2.2.2.2.2.2.1≤31
 ks:0≤b.2.2.2.2.2.2.2.1∧b.2.2.2.2.2.2.2.1≤31
 vs:0≤b.2.2.2.2.2.2.2.2.1∧b.2.2.2.2.2.2.2.2.1≤31
 os:0≤b.2.2.2.2.2.2.2.2.2.1∧b.2.2.2.2.2.2.2.2.2.1≤31
 ss:0≤b.2.2.2.2.2.2.2.2.2.2.1∧b.2.2.2.2.2.2.2.2.2.2.1≤31
 gs:0≤b.2.2.2.2.2.2.2.2.2.2.2.2.2.2.1∧b.2.2.2.2.2.2.2.2.2.2.2.2.2.2.1≤31
 us:0≤b.2.2.2.2.2.2.2.2.2.2.2.2.2.2.2.1∧b.2.2.2.2.2.2.2.2.2.2.2.2.2.2.2.1≤31
 ds:0≤b.2.2.2.2.2.2.2.2.2.2.2.2.2.2.2.2∧b.2.2.2.2.2.2.2.2.2.2.2.2.2.2.2.2≤31
structure ait (H half C:Nat) (f:QQ):Prop where
 h:f.1=(H:Int)
 cos:f.2.1.length=C*half
 sin:f.2.2.1.length=C*half
 fZ:f.2.2.2.length=256
theorem Mh.pos{D H half C Hd:Nat}(h:Mh D H half C Hd):2≤D:=by
 have:=bK h.hh (show 2≤2*half by have:=h.h;omega);rw[←h.d]at this;omega
theorem Mh.dd{D H half C Hd:Nat}(h:Mh D H half C Hd):D*D≤4096:=bK h.dm h.dm
theorem Mh.sD{D H half C Hd:Nat}(h:Mh D H half C Hd):Hd*D≤16384:=bK h.hm h.dm
theorem Mh.hle{D H half C Hd:Nat}(h:Mh D H half C Hd):2*half≤64:=by
 have h1:=h.dm;have:=cv (2*half) h.hh;rw[←h.d]at this;omega
theorem ae3{D H half C Hd:Nat}(h:Mh D H half C Hd){f:QQ}(hf:ait H half C f){p:Nat}(hp:p<C):∃c s,Cr f D (p:Int)=(((2*half:Nat):Int),c,s,0)∧c.length=half∧s.length=half:=by
 have h1:=h.h;have h2:=h.hh;have hd:=h.d;have hsz:D/H=2*half:=by rw[hd];exact Nat.mul_div_cancel_left _ (by omega)
 have hm:D % H=0:=by rw[hd];exact Nat.mul_mod_right _ _
 have hc:f.2.1.length/half=C:=by rw[hf.cos];exact Nat.mul_div_cancel _ (by omega)
 have hs:f.2.2.1.length/half=C:=by rw[hf.sin];exact Nat.mul_div_cancel _ (by omega)
 have r1:=Aa (l:=f.2.1.length) (half:=half) (p:=p) (by omega);have r2:=Aa (l:=f.2.2.1.length) (half:=half) (p:=p) (by omega);refine⟨(f.2.1.drop (p*half)).take half,(f.2.2.1.drop (p*half)).take half,?_,by simp;omega,by simp;omega⟩;unfold Cr;rw[hf.h];simp only[ax];rw[gG,hsz,gG,show 2*half/2=half by omega,hc,hs,gG]
theorem atF{x cos sin:List Int}{half:Nat}(h:1≤half)(hx:x.length % (2*half)=0)(hc:cos.length=half)(hs:sin.length=half):(Gq x ((2*half:Nat):Int) cos sin).2=0∧(Gq x ((2*half:Nat):Int) cos sin).1.length=x.length:=by
 unfold Gq;rw[gG,gG];exact⟨rfl,by simp⟩
theorem ae4{D H half C Hd:Nat}(h:Mh D H half C Hd){w hh cos sin:List Int}{s:Int}(hw:w.length=D*D)(hl:hh.length=D)(hs:0≤s)(hs2:s≤31)(hc:cos.length=half)(hsn:sin.length=half):(lL w hh s ((2*half:Nat):Int) cos sin).2=0∧(lL w hh s ((2*half:Nat):Int) cos sin).1.length=D:=by
 have h1:=h.dd;have h2:=h.pos;obtain⟨t1,t2⟩:=DV (w:=w) (h:=hh) (s:=s) (r:=D) (by rw[hw,hl]) (by rw[hl];omega) (by omega) hs (by omega);unfold lL;rw[t1];simp only[ne_eq,not_true,if_false];rw[←t2];exact atF h.h (by rw[t2,h.d];exact Nat.mul_mod_left _ _) hc hsn
theorem av9{D H half C Hd:Nat}(h:Mh D H half C Hd){b:GI}{f:QQ}(hb:Jw D Hd b)(hf:ait H half C f){x:List Int}(hx:x.length=D)(hr:∀y∈x,-268435456≤y∧y≤268435456){p:Nat}(hp:p<C):
  (pX b f x (p:Int)).2=0∧(pX b f x (p:Int)).1.1.length=D∧(pX b f x (p:Int)).1.2.length=D∧sk (pX b f x (p:Int)).1.1∧sk (pX b f x (p:Int)).1.2:=by
 have h1:=h.dd;have h2:=h.pos;have h3:=h.dm;obtain⟨c,s,a1,a2,a3⟩:=ae3 h hf hp;obtain⟨r1,r2⟩:=abT (x:=x) (gw:=b.1) (by rw[hb.g1,hx]) (by omega) (by omega) hr;obtain⟨k1,k2⟩:=ae4 h (w:=b.2.2.1) (hh:=(ns x b.1).1) (s:=b.2.2.2.2.2.2.2.1) (cos:=c) (sin:=s) hb.k (by rw[r2,hx]) hb.ks.1 hb.ks.2 a2 a3;obtain⟨v1,v2⟩:=DV (w:=b.2.2.2.1) (h:=(ns x b.1).1) (s:=b.2.2.2.2.2.2.2.2.1) (r:=D) (by rw[hb.v,r2,hx]) (by rw[r2,hx];omega) (by omega) hb.vs.1 (by have:=hb.vs.2;omega);unfold pX;simp only;rw[hx,a1];simp only[ne_eq,not_true,if_false];rw[if_neg (by rw[r1];decide),if_neg (by rw[k1];decide),if_neg (by rw[v1];decide)];exact⟨rfl,k2,v2,Mg,jW⟩
theorem aBv{w v:List Int}(hw:Good w)(hv:sk v): -127≤DR w v∧DR w v≤127:=by
 obtain⟨S,hS⟩:∃S,S=gH (fun i=>w.getD i 0) w.length:=⟨_,rfl⟩;have hp:=hw.pos;have mh: -(127*S)≤y7 w v w.length∧y7 w v w.length≤127*S:=by
  rw[hS,←ae2];refine ae1 _ fun i _=> ?_;have h1:=hw.rng i;have h2:=aqp (a:=w.getD i 0) (hv.at i);have h3:jm (w.getD i 0)=w.getD i 0:=by unfold jm;rw[gG]
  rw[h3]at h2;exact h2
 unfold DR;rw[←hS]at hp ⊢;obtain⟨P,hP⟩:∃P,P=y7 w v w.length:=⟨_,rfl⟩;rw[←hP]at mh ⊢;have hlo: -127≤(2*P+S)/(2*S):=Int.le_ediv_of_mul_le (by omega) (by omega);have hhi:(2*P+S)/(2*S)<128:=Int.ediv_lt_of_lt_mul (by omega) (by omega);rw[w8 (by omega) (by omega)];omega
theorem aBw{rows:List (List Int)}{c:Nat}(h:∀r∈rows,sk r):sk (QC rows c):=by
 intro x hx;obtain⟨i,hi,rfl⟩:=i9 hx;rw[aT hi];exact(h _ (ak hi)).at c
theorem awa{q:List Int}{keys values:List (List Int)}{sz:Nat}{s:Int}{h:Nat}(h1:1≤keys.length)(h2:keys.length≤512)(hv:∀r∈values,sk r):sk (qB q keys values sz s h):=by
 intro x hx;unfold qB aeW QD at hx;obtain⟨c,hc,rfl⟩:=i9 hx;have hg:Good (fI (qm ((q.drop (h*sz)).take sz) (B8 keys (h*sz) sz) s)):=by
  refine EU ?_ ?_
  ·simp[qm,B8];omega
  ·simp[qm,B8];omega
 refine aBv hg (aBw ?_);intro r hr;obtain⟨i,hi,rfl⟩:=i9 hr;intro y hy;have hm:=List.mem_of_mem_drop (dy hy);rw[aT hi]at hm;exact hv _ (ak hi) y hm
theorem atG{D H half C Hd:Nat}(h:Mh D H half C Hd){q:List Int}{aO:kR}{s:Int}(hq:q.length=D)(h1:1≤aO.length)(h2:aO.length≤C)(hp:∀p∈aO,p.1.length=D∧p.2.length=D∧sk p.1∧sk p.2)(hs:0≤s)(hs2:s≤31):
  (y8 q (H:Int) aO s).2=0∧(y8 q (H:Int) aO s).1.length=D∧sk (y8 q (H:Int) aO s).1:=by
 have hcm:=h.cm;have hdm:=h.dm;have hpos:=h.pos;have hhh:=h.hh;have hk:∀i,i<aO.length→aO.getD i ([],[])∈aO:=fun i hi=>by rw[aT hi];exact ak hi
 have f1:Fits q (dt aO):=by
  refine⟨by simp[dt];omega,by omega,fun i hi=> ?_⟩;have hi':i<aO.length:=by simpa[dt]using hi
  unfold dt;rw[pW _ hi',(hp _ (hk i hi')).1,hq]
 have f2:Fits q (valuesOf aO):=by
  refine⟨by simp[valuesOf];omega,by omega,fun i hi=> ?_⟩;have hi':i<aO.length:=by simpa[valuesOf]using hi
  unfold valuesOf;rw[pW _ hi',(hp _ (hk i hi')).2.1,hq]
 have hm:D % H=0:=by rw[h.d];exact Nat.mul_mod_right _ _
 have hsz:D/H=2*half:=by rw[h.d];exact Nat.mul_div_cancel_left _ (by omega)
 have hm':(q.length:Int) % (H:Int)=0:=by rw[hq];omega
 unfold y8;rw[gG,if_neg (by exact fun hn=>hn ⟨f1,f2⟩),gG,ax,hq,hsz];refine⟨rfl,?_,?_⟩
 ·show(Nw _ H).length=D;rw[MX (m:=2*half) (H:=H) ?_ H (aA _),←h.d];intro i hi;rw[DU];exact(DT (q:=q) (sz:=2*half) (H:=H) (by rw[hq];exact h.d) hi).1
 ·refine aeY (p:=fun x=> -127≤x∧x≤127) (fun i=>awa ?_ ?_ ?_) H
  ·simp[dt];omega
  ·simp[dt];omega
  ·intro r hr;obtain⟨i,hi,rfl⟩:=i9 hr;exact(hp _ (hk i hi)).2.2.2
theorem QH{w o:List Int}{s a:Int}{r c:Nat}(hw:w.length=r*c)(hb:r*c≤1048576)(hc:1≤c)(ho:o.length=c)(ho7:sk o)(hs:0≤s)(hs2:s≤31)(ha:∀j,j<r→(cq (127*gI (eU w c j)) s).1≤a):
  (kW w (c:Int) o).2=0∧(jL (kW w (c:Int) o).1 s).2=0∧(jL (kW w (c:Int) o).1 s).1.length=r∧∀y∈(jL (kW w (c:Int) o).1 s).1,-a≤y∧y≤a:=by
 have hd:w.length/c=r:=by rw[hw];exact Nat.mul_div_cancel _ (by omega)
 have hr:r≤1048576:=by
  have:=cB r (show 0<c by omega);omega
 rw[air (by omega) hc (by rw[hw];exact Nat.mul_mod_left _ _) ho];simp only;rw[ais (by rw[H5,hd];exact hr) hs (by omega)];refine⟨trivial,rfl,by simp[H5,hd],?_⟩;intro y hy;obtain⟨z,hz,rfl⟩:=List.mem_map.1 hy;obtain⟨j,hj,rfl⟩:=i9 hz;rw[hd]at hj;have h1:=atE (r:=eU w c j) ho7;have h2:=arC (s:=s) (x:=yp (eU w c j) o) (X:=127*gI (eU w c j)) (by omega) (by omega) hs (by omega);have h3:=ha j hj;omega
theorem aqq{x z:List Int}{R a:Int}(hl:z.length=x.length)(hlen:x.length≤1048576)(hx:∀y∈x,-R≤y∧y≤R)(hz:∀y∈z,-a≤y∧y≤a)(hR:R+a≤268435456)(ha:0≤a)(hR0:0≤R):
  (Ub x z).2=0∧(Ub x z).1.length=x.length∧∀y∈(Ub x z).1,-(R+a)≤y∧y≤R+a:=by
 have hat:∀i,i<x.length→oA x z i=(x.getD i 0+z.getD i 0,true)∧-(R+a)≤x.getD i 0+z.getD i 0∧x.getD i 0+z.getD i 0≤R+a:=by
  intro i hi;have h1:=hx _ (ak hi);have h2:=hz _ (ak (show i<z.length by omega));rw[←aT hi 0]at h1;rw[←aT (show i<z.length by omega) 0]at h2;unfold oA akz;rw[lK];exact⟨rfl,by omega,by omega⟩
 have hf:HZ x z=0:=by
  unfold HZ;rw[gG,gG]
 unfold Ub;rw[hf,if_neg (by simp),if_neg]
 ·refine⟨rfl,by simp,?_⟩;intro y hy;obtain⟨i,hi,rfl⟩:=i9 hy;rw[(hat i hi).1];exact(hat i hi).2
 ·rintro⟨i,hi,hn⟩;rw[(hat i hi).1]at hn
  cases hn
theorem apb{D H half C Hd:Nat}(h:Mh D H half C Hd){b:GI}{f:QQ}(hb:Jw D Hd b)(hf:ait H half C f){g:List Int}(hg:g.length=D){c:Int}(hc:∀j,j<D→(cq (127*gI (eU b.2.2.2.2.2.2.2.2.2.2.2.2.2.1 Hd j)) b.2.2.2.2.2.2.2.2.2.2.2.2.2.2.2.2).1≤c):
  (n7 b.2.2.2.2.2.2.2.2.2.2.2 f.2.2.2 g).2=0∧(n7 b.2.2.2.2.2.2.2.2.2.2.2 f.2.2.2 g).1.length=D∧∀y∈(n7 b.2.2.2.2.2.2.2.2.2.2.2 f.2.2.2 g).1,-c≤y∧y≤c:=by
 have h1:=h.sD;have h2:=h.pos;have h3:=h.hd;have h4:=h.hm;obtain⟨g1,g2⟩:=DV (w:=b.2.2.2.2.2.2.2.2.2.2.2.1) (h:=g) (s:=b.2.2.2.2.2.2.2.2.2.2.2.2.2.2.1) (r:=Hd) (by rw[hb.m1,hg]) (by rw[hg];omega) (by omega) hb.gs.1 (by have:=hb.gs.2;omega);obtain⟨u1,u2⟩:=DV (w:=b.2.2.2.2.2.2.2.2.2.2.2.2.1) (h:=g) (s:=b.2.2.2.2.2.2.2.2.2.2.2.2.2.2.2.1) (r:=Hd) (by rw[hb.m2,hg]) (by rw[hg];omega) (by omega) hb.us.1 (by have:=hb.us.2;omega);obtain⟨M,hM⟩:∃M,M=Mf f.2.2.2 (dM b.2.2.2.2.2.2.2.2.2.2.2.1 g b.2.2.2.2.2.2.2.2.2.2.2.2.2.2.1).1 (dM b.2.2.2.2.2.2.2.2.2.2.2.2.1 g b.2.2.2.2.2.2.2.2.2.2.2.2.2.2.2.1).1:=⟨_,rfl⟩;have m1:M.2=0∧M.1.length=Hd:=by
  rw[hM];unfold Mf;rw[if_neg (by rw[hf.fZ];simp),gG,gG];exact⟨rfl,by simp[g2]⟩
 have m2:sk M.1:=by rw[hM];exact z9
 obtain⟨d1,d2,d3,d4⟩:=QH (w:=b.2.2.2.2.2.2.2.2.2.2.2.2.2.1) (o:=M.1) (s:=b.2.2.2.2.2.2.2.2.2.2.2.2.2.2.2.2) (a:=c) (r:=D) (c:=Hd) hb.m3 (by rw[Nat.mul_comm];omega) (by omega) m1.2 m2 hb.ds.1 hb.ds.2 hc;unfold n7;simp only;rw[if_neg (by rw[g1];decide),if_neg (by rw[u1];decide),←hM,if_neg (by rw[m1.1];decide),m1.2,if_neg (by rw[d1];decide)];exact⟨d2,d3,d4⟩
theorem ay0{D H half C Hd:Nat}(h:Mh D H half C Hd){b:GI}{f:QQ}(hb:Jw D Hd b)(hf:ait H half C f){x:List Int}{aO:kR}{R a c:Int}(hx:x.length=D)(hr:∀y∈x,-R≤y∧y≤R)(hR0:0≤R)(ha0:0≤a)(hc0:0≤c)(hR:R+a+c≤268435456)
  (h1:1≤aO.length) (h2:aO.length≤C) (hp:∀p∈aO,p.1.length=D∧p.2.length=D∧sk p.1∧sk p.2)
  (ha:∀j,j<D→(cq (127*gI (eU b.2.2.2.2.1 D j)) b.2.2.2.2.2.2.2.2.2.1).1≤a)
  (hc:∀j,j<D→(cq (127*gI (eU b.2.2.2.2.2.2.2.2.2.2.2.2.2.1 Hd j)) b.2.2.2.2.2.2.2.2.2.2.2.2.2.2.2.2).1≤c):
  (Nx b f x aO).2=0∧(Nx b f x aO).1.length=D∧∀y∈(Nx b f x aO).1,-(R+a+c)≤y∧y≤R+a+c:=by
 have g1:=h.dd;have g2:=h.pos;have g3:=h.dm;obtain⟨co,si,a1,a2,a3⟩:=ae3 h hf (p:=aO.length -1) (by omega);rw[show((aO.length -1:Nat):Int)=(aO.length:Int) -1 by omega]at a1;obtain⟨r1,r2⟩:=abT (x:=x) (gw:=b.1) (by rw[hb.g1,hx]) (by omega) (by omega) (fun y hy=>by have:=hr y hy;omega);obtain⟨q1,q2⟩:=ae4 h (w:=b.2.1) (hh:=(ns x b.1).1) (s:=b.2.2.2.2.2.2.1) (cos:=co) (sin:=si) hb.q (by rw[r2,hx]) hb.qs.1 hb.qs.2 a2 a3;obtain⟨o1,o2,o3⟩:=atG h (q:=(lL b.2.1 (ns x b.1).1 b.2.2.2.2.2.2.1 ((2*half:Nat):Int) co si).1) (aO:=aO) (s:=b.2.2.2.2.2.2.2.2.2.2.1) q2 h1 h2 hp hb.ss.1 hb.ss.2;obtain⟨t1,t2,t3,t4⟩:=QH (w:=b.2.2.2.2.1) (o:=(y8 (lL b.2.1 (ns x b.1).1 b.2.2.2.2.2.2.1 ((2*half:Nat):Int) co si).1 (H:Int) aO b.2.2.2.2.2.2.2.2.2.2.1).1) (s:=b.2.2.2.2.2.2.2.2.2.1) (a:=a) (r:=D) (c:=D) hb.o (by omega) (by omega) o2 o3 hb.os.1 hb.os.2 ha;have hL:qn b f x aO=Ub x (jL (kW b.2.2.2.2.1 (D:Int) (y8 (lL b.2.1 (ns x b.1).1 b.2.2.2.2.2.2.1 ((2*half:Nat):Int) co si).1 (H:Int) aO b.2.2.2.2.2.2.2.2.2.2.1).1).1 b.2.2.2.2.2.2.2.2.2.1).1:=by
  unfold qn;simp only;rw[hx,a1,hf.h];simp only[ne_eq,not_true,if_false];rw[if_neg (by rw[r1];decide),if_neg (by rw[q1];decide),if_neg (by rw[o1];decide),if_neg (by rw[t1];decide),if_neg (by rw[t2];decide)]
 obtain⟨l1,l2,l3⟩:=aqq (x:=x) (R:=R) (a:=a) (by rw[t3,hx]) (by omega) hr t4 (by omega) ha0 hR0;rw[←hL]at l1 l2 l3;obtain⟨s1,s2⟩:=abT (x:=(qn b f x aO).1) (gw:=b.2.2.2.2.2.1) (by rw[hb.g2,l2,hx]) (by omega) (by omega) (fun y hy=>by have:=l3 y hy;omega);obtain⟨m1,m2,m3⟩:=apb h hb hf (g:=(ns (qn b f x aO).1 b.2.2.2.2.2.1).1) (by rw[s2,l2,hx]) hc;obtain⟨e1,e2,e3⟩:=aqq (x:=(qn b f x aO).1) (R:=R+a) (a:=c) (by rw[m2,l2,hx]) (by omega) l3 m3 (by omega) hc0 (by omega);unfold Nx;simp only;rw[if_neg (by rw[l1];decide),if_neg (by rw[s1];decide),if_neg (by rw[m1];decide)];exact⟨e1,by rw[e2,l2,hx],e3⟩
theorem awb{D H half C Hd:Nat}(h:Mh D H half C Hd){b:GI}{f:QQ}(hb:Jw D Hd b)(hf:ait H half C f){R a c:Int}(hR0:0≤R)(ha0:0≤a)(hc0:0≤c)(hR:R+a+c≤268435456)
  (ha:∀j,j<D→(cq (127*gI (eU b.2.2.2.2.1 D j)) b.2.2.2.2.2.2.2.2.2.1).1≤a)
  (hc:∀j,j<D→(cq (127*gI (eU b.2.2.2.2.2.2.2.2.2.2.2.2.2.1 Hd j)) b.2.2.2.2.2.2.2.2.2.2.2.2.2.2.2.2).1≤c):
  ∀(xs:List (List Int)) (all:kR) (out:List (List Int)),(∀x∈xs,x.length=D∧∀y∈x,-R≤y∧y≤R)→all.length+xs.length≤C→(∀p∈all,p.1.length=D∧p.2.length=D∧sk p.1∧sk p.2)→(∀y∈out,y.length=D∧∀z∈y,-(R+a+c)≤z∧z≤R+a+c)→
  ∃r,wd b f xs all out= .inr r∧(∀p∈r.1,p.1.length=D∧p.2.length=D∧sk p.1∧sk p.2)∧∀y∈r.2,y.length=D∧∀z∈y,-(R+a+c)≤z∧z≤R+a+c:=by
 intro xs
 induction xs with
 |nil=>intro all out _ _ h3 h4;exact⟨(all,out),rfl,h3,h4⟩
 |cons x xs ih=>
  intro all out h1 h2 h3 h4;simp only[aZ]at h2;obtain⟨x1,x2⟩:=h1 x aH;obtain⟨k1,k2,k3,k4,k5⟩:=av9 h hb hf x1 (fun y hy=>by have:=x2 y hy;omega) (p:=all.length) (by omega);have XB:∀p∈all++[(pX b f x (all.length:Int)).1],p.1.length=D∧p.2.length=D∧sk p.1∧sk p.2:=by
   intro p hp;rcases List.mem_append.1 hp with hp |hp
   ·exact h3 p hp
   ·rw[List.mem_singleton.1 hp];exact⟨k2,k3,k4,k5⟩
  obtain⟨r1,r2,r3⟩:=ay0 h hb hf x1 x2 hR0 ha0 hc0 hR (aO:=all++[(pX b f x (all.length:Int)).1]) (by simp) (by simp;omega) XB ha hc;simp only[wd];rw[if_neg (by rw[k1];decide),if_neg (by rw[r1];decide)];refine ih _ _ (fun y hy=>h1 y (aF _ hy)) (by simp;omega) XB ?_;intro y hy;rcases List.mem_append.1 hy with hy |hy
  ·exact h4 y hy
  ·rw[List.mem_singleton.1 hy];exact⟨r2,r3⟩
abbrev Shp:=Int×Int×Int×Int×Int×Int
abbrev EW:=List (List UInt8)×List (Int×Int×Int)
abbrev Mod:=Shp×EW×List Int×Int×List Int×List Int×List GI×List Int×List Int×List Int×Int
theorem am2{β R:Type}{L:Nat→Int→β→Option R}{len:Nat}(Inv:Nat→β→Prop)(Post:R→Prop)
  (hs:∀k i s,i<len→Inv i s→(∃r,L (k+1) (i:Int) s=some r∧Post r)∨∃s',L (k+1) (i:Int) s=L k ((i:Int)+1) s'∧Inv (i+1) s')
  (he:∀k s,Inv len s→∃r,L (k+1) (len:Int) s=some r∧Post r):
  ∀k s,len<k→Inv 0 s→∃r,L k 0 s=some r∧Post r:=by
 have key:∀(m k i:Nat) (s:β),i+m=len→m<k→Inv i s→∃r,L k (i:Int) s=some r∧Post r:=by
  intro m
  induction m with
  |zero=>
   intro k i s h1 h2 h3;obtain⟨k,rfl⟩:=iY k;have:i=len:=by omega
   subst this;exact he k s h3
  |succ m ih=>
   intro k i s h1 h2 h3;obtain⟨k,rfl⟩:=iY k;rcases hs k i s (by omega) h3 with h |⟨s',h4,h5⟩
   ·exact h
   ·rw[h4];exact ih k (i+1) s' (by omega) (by omega) h5
 exact fun k s hk h0=>key len k 0 s (by omega) hk h0
structure ahh (m:Mod):Prop where
 t:m.2.1.1.length≤1048576
 tt:∀x∈m.2.1.1,x.length≤1048576
 ms:m.2.1.2.length≤1048576
 e:m.2.2.1.length≤1048576
 c:m.2.2.2.2.1.length≤1048576
 si:m.2.2.2.2.2.1.length≤1048576
 bs:m.2.2.2.2.2.2.1.length≤1048576
 b:∀b∈m.2.2.2.2.2.2.1,atC b
 be:m.2.2.2.2.2.2.2.1.length≤1048576
 g:m.2.2.2.2.2.2.2.2.1.length≤1048576
 u:m.2.2.2.2.2.2.2.2.2.1.length≤1048576
theorem Ul{α:Type}{l:List α}{b:Nat}(h:l.length≤1000000000:=by omega)(hb:b≤1000:=by omega):app b [] l=some l:=by
 unfold app;rw[if_pos]
 ·rfl
 ·have:l.length*b≤1000000000*1000:=bK h hb;unfold room;simp;omega
theorem Gs{n:Nat}{m:Mod}(h:ahh m)(hn:2000000000≤n):sj n m=some m:=by
 obtain⟨⟨s1,s2,s3,s4,s5,s6⟩,⟨t,ms⟩,e,es,c,si,bs,be,g,u,ls⟩:=m;have ht:t.length≤1048576:=h.t;have hms:ms.length≤1048576:=h.ms;have he:e.length≤1048576:=h.e;have hc:c.length≤1048576:=h.c;have hsi:si.length≤1048576:=h.si;have hbs:bs.length≤1048576:=h.bs;have hb:∀b∈bs,atC b:=h.b;have hbe:be.length≤1048576:=h.be;have hg:g.length≤1048576:=h.g;have hu:u.length≤1048576:=h.u;have h1:=aX (L:=fun k i s=>qh n k ((),(),(),ms,(ms.length:Int),i,((s1,s2,s3,s4,s5,s6),(t,ms),e,es,c,si,bs,be,g,u,ls),(0,0,0,0,0,0,[],[],[],0,[],[],[],[],[],[],0,()),(s1,s2,s3,s4,s5,s6,t,s,e,es,c,si,[],be,g,u,ls,()),())) (len:=ms.length)
  (r:=((),(),(),((s1,s2,s3,s4,s5,s6),(t,ms),e,es,c,si,bs,be,g,u,ls),(0,0,0,0,0,0,[],[],[],0,[],[],[],[],[],[],0,()),(s1,s2,s3,s4,s5,s6,t,ms,e,es,c,si,[],be,g,u,ls,()),())) (fun i=>ms.take i) (by
   intro k i hi;show qh n (k+1) _=_;rw[Jn,jK,bj hi];simp only[aa];rw[Gr hi (by omega) (by omega),aN];rfl) (by
   intro k;show qh n (k+1) _=_;rw[Jn,sS,ch]) n (by omega)
 have h2:=aX (L:=fun k i s=>oN n k ((),(),bs,(bs.length:Int),i,(0,0,0,0,0,0,[],[],[],0,[],[],[],[],[],[],0,()),(s1,s2,s3,s4,s5,s6,t,ms,e,es,c,si,s,be,g,u,ls,()),())) (len:=bs.length)
  (r:=((),(),(0,0,0,0,0,0,[],[],[],0,[],[],[],[],[],[],0,()),(s1,s2,s3,s4,s5,s6,t,ms,e,es,c,si,bs,be,g,u,ls,()),())) (fun i=>bs.take i) (by
   intro k i hi;have hb:=hb _ (ak hi);obtain⟨B,hB⟩:∃B,B=bs[i]:=⟨_,rfl⟩;have ha:=Gr (b:=280) hi (by omega) (by omega);show oN n (k+1) _=_;rw[Ga,jK,bj hi];rw[←hB]at hb ha ⊢;simp only[aa];rw[cT hb.g1,cT hb.q,cT hb.k,cT hb.v,cT hb.o,cT hb.g2,cT hb.m1,cT hb.m2,cT hb.m3];simp only[aa];rw[ha,aN];rfl) (by
   intro k;show oN n (k+1) _=_;rw[Ga,sS,ch]) n (by omega)
 rw[fm]at h1 h2;rw[agy];simp only;rw[cT,cT,cT,cT,cT,cT,Ul];simp only[aa];rw[h1];simp only[aa];rw[h2];rfl
theorem atH{n:Nat}{m:Mod}(h:ahh m)(hn:2000000000≤n):GZ n m=some m:=by
 obtain⟨⟨s1,s2,s3,s4,s5,s6⟩,⟨t,ms⟩,e,es,c,si,bs,be,g,u,ls⟩:=m;have ht:t.length≤1048576:=h.t;have hms:ms.length≤1048576:=h.ms;have he:e.length≤1048576:=h.e;have hc:c.length≤1048576:=h.c;have hsi:si.length≤1048576:=h.si;have hbs:bs.length≤1048576:=h.bs;have hb:∀b∈bs,atC b:=h.b;have hbe:be.length≤1048576:=h.be;have hg:g.length≤1048576:=h.g;have hu:u.length≤1048576:=h.u;have h1:=aX (L:=fun k i s=>p9 n k ((),(),(),ms,(ms.length:Int),i,((s1,s2,s3,s4,s5,s6),(t,ms),e,es,c,si,bs,be,g,u,ls),(0,0,0,0,0,0,[],[],[],0,[],[],[],[],[],[],0,()),(s1,s2,s3,s4,s5,s6,t,s,e,es,c,si,[],be,g,u,ls,()),())) (len:=ms.length)
  (r:=((),(),(),((s1,s2,s3,s4,s5,s6),(t,ms),e,es,c,si,bs,be,g,u,ls),(0,0,0,0,0,0,[],[],[],0,[],[],[],[],[],[],0,()),(s1,s2,s3,s4,s5,s6,t,ms,e,es,c,si,[],be,g,u,ls,()),())) (fun i=>ms.take i) (by
   intro k i hi;show p9 n (k+1) _=_;rw[Jj,jK,bj hi];simp only[aa];rw[Gr hi (by omega) (by omega),aN];rfl) (by
   intro k;show p9 n (k+1) _=_;rw[Jj,sS,ch]) n (by omega)
 have h2:=aX (L:=fun k i s=>oH n k ((),(),bs,(bs.length:Int),i,(0,0,0,0,0,0,[],[],[],0,[],[],[],[],[],[],0,()),(s1,s2,s3,s4,s5,s6,t,ms,e,es,c,si,s,be,g,u,ls,()),())) (len:=bs.length)
  (r:=((),(),(0,0,0,0,0,0,[],[],[],0,[],[],[],[],[],[],0,()),(s1,s2,s3,s4,s5,s6,t,ms,e,es,c,si,bs,be,g,u,ls,()),())) (fun i=>bs.take i) (by
   intro k i hi;have hb:=hb _ (ak hi);obtain⟨B,hB⟩:∃B,B=bs[i]:=⟨_,rfl⟩;have ha:=Gr (b:=280) hi (by omega) (by omega);show oH n (k+1) _=_;rw[F0,jK,bj hi];rw[←hB]at hb ha ⊢;simp only[aa];rw[cT hb.g1,cT hb.q,cT hb.k,cT hb.v,cT hb.o,cT hb.g2,cT hb.m1,cT hb.m2,cT hb.m3];simp only[aa];rw[ha,aN];rfl) (by
   intro k;show oH n (k+1) _=_;rw[F0,sS,ch]) n (by omega)
 rw[fm]at h1 h2;rw[agn];simp only;rw[cT,cT,cT,cT,cT,cT,Ul];simp only[aa];rw[h1];simp only[aa];rw[h2];rfl
def DW(s:Shp):Prop:=(2≤s.1∧s.1≤512)∧(1≤s.2.1∧s.2.1≤512)∧(2≤s.2.2.1∧s.2.2.1≤64)∧(1≤s.2.2.2.2.1∧s.2.2.2.2.1≤8)∧(1≤s.2.2.2.2.2∧s.2.2.2.2.2≤256)∧1≤s.2.2.2.1∧s.2.2.1 % s.2.2.2.1=0∧s.2.2.1/s.2.2.2.1 % 2=0
instance (s:Shp):Decidable (DW s):=by unfold DW;exact inferInstance
def awc(s:Shp):Int:=if DW s then 0 else 160
theorem Ca{s:Shp}(h:¬ DW s):awc s=160:=if_neg h
theorem MZ{s:Shp}(h:DW s):awc s=0:=if_pos h
theorem fM{a b:Bool}:av a (some b) (some false)=some (a&&b):=by cases a<;>rfl
theorem cg{R:Type}{x y:Option R}:av false x y=y:=rfl
theorem j9{R:Type}{x y:Option R}:av true x y=x:=rfl
theorem eP{a b:Bool}:av a (some true) (some b)=some (a||b):=by cases a<;>rfl
theorem zX{n:Nat}{x lo hi:Int}:fc n (x,lo,hi)=some (decide (lo≤x∧x≤hi)):=by
 rw[Ta,fM];simp only[aa,Bool.decide_and]
theorem EX{n:Nat}{x lo hi:Int}:ft n (x,lo,hi)=some (decide (lo≤x∧x≤hi)):=by
 rw[Qd,fM];simp only[aa,Bool.decide_and]
theorem H6{n:Nat}{x lo hi:Int}:fQ n (x,lo,hi)=some (decide (lo≤x∧x≤hi)):=by
 rw[Th,fM];simp only[aa,Bool.decide_and]
theorem apc{d h:Int}(hd:2≤d∧d≤64)(hh:1≤h):(((rm d h)).bind fun v8=>av (v8 !=(0:Int)) (some true)
  (((qt bw d h)).bind fun v9=>((rm v9 (2:Int))).bind fun v10=>some (v10 !=(0:Int))))=some (decide (¬ (d % h=0∧d/h % 2=0))):=by
 have hq:=(jQ (x:=d) (d:=h) (by omega)).1 (by omega);rw[DP];simp only[aa]
 by_cases c7:d % h=0
 ·rw[show(d % h !=0)=false by simp[c7],n6 (by omega) (by omega) (by omega)];simp only[av,aa];rw[DP];simp only[aa];congr 1
  by_cases c8:d/h % 2=0
  ·simp[c7,c8]
  ·simp[c7,c8]
 ·rw[show(d % h !=0)=true by simp[c7]];simp[av,c7]
theorem Yy{n:Nat}{s:Shp}:jY n s=some (awc s):=by
 rw[V3];simp only[zX,aa,eP]
 by_cases c:(2≤s.1∧s.1≤512)∧(1≤s.2.1∧s.2.1≤512)∧(2≤s.2.2.1∧s.2.2.1≤64)∧(1≤s.2.2.2.2.1∧s.2.2.2.2.1≤8)∧(1≤s.2.2.2.2.2∧s.2.2.2.2.2≤256)
 ·obtain⟨c1,c2,c3,c4,c5⟩:=c;rw[decide_eq_true c1,decide_eq_true c2,decide_eq_true c3,decide_eq_true c4,decide_eq_true c5];simp only[ba,Bool.or_false,cg]
  by_cases c6:s.2.2.2.1<1
  ·rw[decide_eq_true c6,Ca (by unfold DW;omega)];rfl
  ·rw[decide_eq_false c6];rw[cg,apc c3 (by omega)];simp only[aa]
   by_cases c7:s.2.2.1 % s.2.2.2.1=0∧s.2.2.1/s.2.2.2.1 % 2=0
   ·rw[decide_eq_false (by simpa using c7),MZ ⟨c1,c2,c3,c4,c5,by omega,c7.1,c7.2⟩];rfl
   ·rw[decide_eq_true c7,Ca (fun h=>c7 h.2.2.2.2.2.2)];rfl
 ·have e:(!decide (2≤s.1∧s.1≤512)||(!decide (1≤s.2.1∧s.2.1≤512)||(!decide (2≤s.2.2.1∧s.2.2.1≤64)||(!decide (1≤s.2.2.2.2.1∧s.2.2.2.2.1≤8)|| !decide (1≤s.2.2.2.2.2∧s.2.2.2.2.2≤256)))))=true:=by
   simp only[aB,aW,decide_eq_false_iff_not];omega
  rw[e,Ca (fun h=>c ⟨h.1,h.2.1,h.2.2.1,h.2.2.2.1,h.2.2.2.2.1⟩)];rfl
theorem Yz{n:Nat}{s:Shp}:qL n s=some (awc s):=by
 rw[V8];simp only[EX,aa,fM]
 by_cases c:(2≤s.1∧s.1≤512)∧(1≤s.2.1∧s.2.1≤512)∧(2≤s.2.2.1∧s.2.2.1≤64)
 ·obtain⟨c1,c2,c3⟩:=c;rw[decide_eq_true c1,decide_eq_true c2,decide_eq_true c3];simp only[Bool.and_true,ba,av]
  by_cases c6:s.2.2.2.1<1
  ·rw[decide_eq_true c6,Ca (by unfold DW;omega)];rfl
  ·rw[decide_eq_false c6];simp only;have hq:=(jQ (x:=s.2.2.1) (d:=s.2.2.2.1) (by omega)).1 (by omega);rw[DP];simp only[aa]
   by_cases c7:s.2.2.1 % s.2.2.2.1=0
   ·rw[show(s.2.2.1 % s.2.2.2.1 !=0)=false by simp[c7],n6 (by omega) (by omega) (by omega)];simp only[aa];rw[DP];simp only[aa]
    by_cases c8:s.2.2.1/s.2.2.2.1 % 2=0
    ·rw[show(s.2.2.1/s.2.2.2.1 % 2!=0)=false by simp[c8]];simp only
     by_cases c4:1≤s.2.2.2.2.1∧s.2.2.2.2.1≤8
     ·rw[decide_eq_true c4];simp only[ba]
      by_cases c5:1≤s.2.2.2.2.2∧s.2.2.2.2.2≤256
      ·rw[decide_eq_true c5,MZ ⟨c1,c2,c3,c4,c5,by omega,c7,c8⟩];rfl
      ·rw[decide_eq_false c5,Ca (fun h=>c5 h.2.2.2.2.1)];rfl
     ·rw[decide_eq_false c4,Ca (fun h=>c4 h.2.2.2.1)];rfl
    ·rw[show(s.2.2.1/s.2.2.2.1 % 2!=0)=true by simp[c8],Ca (fun h=>c8 h.2.2.2.2.2.2.2)];rfl
   ·rw[show(s.2.2.1 % s.2.2.2.1 !=0)=true by simp[c7],Ca (fun h=>c7 h.2.2.2.2.2.2.1)];rfl
 ·have e:(decide (2≤s.1∧s.1≤512)&&(decide (1≤s.2.1∧s.2.1≤512)&&decide (2≤s.2.2.1∧s.2.2.1≤64)))=false:=by
   rw[←eK];simp only[aj,bF];omega
  rw[e,Ca (fun h=>c ⟨h.1,h.2.1,h.2.2.1⟩)];rfl
theorem apd{n:Nat}{s:Shp}(h:DW s):nC n s=some (s.2.2.1/s.2.2.2.1/2):=by
 rw[aaf,Yy];rw[MZ h];obtain⟨c1,c2,c3,c4,c5,c6,c7,c8⟩:=h;have hq:=(jQ (x:=s.2.2.1) (d:=s.2.2.2.1) (by omega)).1 (by omega);simp only[aa,af];rw[if_neg (by simp),n6 (by omega) (by omega) (by omega)];simp only[aa];rw[n6 (by omega) (by omega) (by omega)];rfl
theorem ape{n:Nat}{s:Shp}(h:DW s):zg n s=some (s.2.2.1/s.2.2.2.1/2):=by
 rw[aak,Yz];rw[MZ h];obtain⟨c1,c2,c3,c4,c5,c6,c7,c8⟩:=h;have hq:=(jQ (x:=s.2.2.1) (d:=s.2.2.2.1) (by omega)).1 (by omega);simp only[aa,af];rw[if_neg (by simp),n6 (by omega) (by omega) (by omega)];simp only[aa];rw[n6 (by omega) (by omega) (by omega)];rfl
end Go.Am.Pu
