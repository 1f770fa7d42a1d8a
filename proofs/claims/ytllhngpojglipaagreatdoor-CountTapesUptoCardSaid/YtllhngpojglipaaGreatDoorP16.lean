import Derived.Test.YtllhngpojglipaaGreatDoorP15
set_option linter.unusedVariables false
set_option linter.unusedSimpArgs false
open Bool renaming and_eq_true→aj,or_eq_true→aB
open Go.IntKind renaming wrap→ap
open List renaming append_assoc→bn,append_nil→cK,dropLast_concat_getLast→bQ,flatten_cons→eo,getElem?_eq_getElem→ah,getElem?_eq_none→bx,getElem_mem→ak,length_append→ag,length_cons→aZ,length_replicate→aY,length_singleton→fO,length_take→aC,map_append→eI,mem_append_left→aR,mem_append_right→bo,mem_cons_of_mem→aF,nil_append→bE,replicate_succ→cM,replicate→ao,take_add_one→dO,take_append_drop→cH,take_length→ch
open Nat renaming le_refl→aA
open Option renaming bind_some→aa
namespace Go.Am.Pu
open Go Go.Am
def abt:List (List Int)→Prop
 |[]=>True
 |A::bs=>(∀x∈A,∀y∈bs.flatten,x<y)∧abt bs
theorem UH:∀{bs cs:List (List Int)},abt (bs++cs)↔abt bs∧abt cs∧∀x∈bs.flatten,∀y∈cs.flatten,x<y
 |[],cs=>by simp[abt]
 |A::bs,cs=>by
  have ih:=UH (bs:=bs) (cs:=cs);show((∀x∈A,∀y∈(bs++cs).flatten,x<y)∧abt (bs++cs))↔_;constructor
  ·rintro⟨h1,h2⟩;obtain⟨h3,h4,h5⟩:=ih.1 h2;refine⟨⟨fun x hx y hy=>h1 x hx y (by rw[List.flatten_append];exact aR _ hy),h3⟩,h4,fun x hx y hy=> ?_⟩;rw[eo]at hx;rcases List.mem_append.1 hx with hx |hx
   ·exact h1 x hx y (by rw[List.flatten_append];exact bo _ hy)
   ·exact h5 x hx y hy
  ·rintro⟨⟨h1,h2⟩,h3,h4⟩;refine⟨fun x hx y hy=> ?_,ih.2 ⟨h2,h3,fun x hx y hy=>h4 x (by rw[eo];exact bo _ hx) y hy⟩⟩;rw[List.flatten_append]at hy;rcases List.mem_append.1 hy with hy |hy
   ·exact h1 x hx y hy
   ·exact h4 x (by rw[eo];exact aR _ hx) y hy
def Full(s:Nat):List (List Int)→Prop
 |[]=>True
 |[A]=>0<A.length∧A.length≤s
 |A::B::r=>A.length=s∧Full s (B::r)
theorem afy{s:Nat}(hs:0<s):∀{bs:List (List Int)},(∀A∈bs,A.length=s)→Full s bs
 |[],_=>trivial
 |[A],h=>by have:=h A (by simp);exact⟨by omega,by omega⟩
 |A::B::r,h=>⟨h A (by simp),afy hs fun C hC=>h C (aF _ hC)⟩
theorem M7{s:Nat}{M:List Int}(h1:0<M.length)(h2:M.length≤s):∀{bs:List (List Int)},(∀A∈bs,A.length=s)→Full s (bs++[M])
 |[],_=>⟨h1,h2⟩
 |[A],h=>⟨h A (by simp),h1,h2⟩
 |A::B::r,h=>⟨h A (by simp),M7 h1 h2 (bs:=B::r) fun C hC=>h C (aF _ hC)⟩
theorem Xk{s:Nat}{A:List Int}:∀{r:List (List Int)},Full s (A::r)→Full s r
 |[],_=>trivial
 |_::_,h=>h.2
theorem Pw{n V:Nat}(uQ:V≤1000000)(hn:2000000000≤n){K:List Int}:∀(k:Nat) (T P:List Int),T.length<k→T.Pairwise (·<·)→Val K T→(P++T).length=V→
  ∃bs Q T',dk n k (some (0,0,V),(V:Int),(K,()),20,(P.length:Int),((P.length+20:Nat):Int),[some (P++T)],())=some (some (0,0,V),(V:Int),(K,()),20,((P++bs.flatten).length:Int),[some ((P++bs.flatten)++T')],())∧
   T=Q++T'∧bs.flatten.Perm Q∧T'.length<20∧(∀A∈bs,A.length=20∧Ia K A)∧abt bs
 |0,T,P,h,_,_,_=>by omega
 |k+1,T,P,h,ho,hv,hl=>by
  rw[ag]at hl;rw[md,af]
  by_cases c:T.length<20
  ·rw[if_neg (by rw[bF];omega)];exact⟨[],[],T,by simp,rfl,by simp,c,fun A hA=>(by cases hA),trivial⟩
  rw[if_pos (by rw[bF];omega)];obtain⟨L,S,rfl,hL⟩:∃L S,T=L++S∧L.length=20:=⟨T.take 20,T.drop 20,(cH _ _).symm,by rw[aC];omega⟩;rw[ag]at hl h;have ho':=List.pairwise_append.1 ho;obtain⟨M,m1,m2,m3⟩:=insertionSort (n:=n) (V:=V) uQ hn (K:=K) (P:=P) (L:=L) (S:=S) (A:=(P.length:Int)) (B:=((P.length+20:Nat):Int)) rfl (by rw[hL]) hv.left ho'.1 (by simp only[ag];omega);rw[m1];simp only[aa];have hM:M.length=20:=by rw[m2.length_eq,hL]
  rw[aN];have e1:P++(M++S)=(P++M)++S:=by simp
  obtain⟨bs,Q,T',r1,r2,r3,r4,r5,r6⟩:=Pw uQ hn (K:=K) k S (P++M) (by omega) ho'.2.1 hv.right (by simp only[ag];omega);have e2:((P++M).length:Int)=((P.length+20:Nat):Int):=by rw[ag,hM]
  have e3:(((P++M).length+20:Nat):Int)=((P.length+20:Nat):Int)+20:=by rw[ag,hM];omega
  rw[e2,e3]at r1;rw[e1,r1];refine⟨M::bs,L++Q,T',by simp,by rw[r2];simp,?_,r4,fun A hA=> ?_,fun x hx y hy=> ?_,r6⟩
  ·rw[eo];exact m2.append r3
  ·rcases List.mem_cons.1 hA with rfl |hA
   ·exact⟨hM,m3⟩
   ·exact r5 A hA
  ·exact ho'.2.2 x (m2.subset hx) y (by rw[r2];exact aR _ (r3.subset hy))
theorem YP{n V:Nat}(uQ:V≤1000000)(hn:2000000000≤n){K:List Int}{s:Nat}(hs:0<s)(hsb:s≤10000000):∀(k:Nat) (bs:List (List Int)) (P:List Int),bs.length<k→Full s bs→(∀A∈bs,Ia K A)→abt bs→Val K bs.flatten→(P++bs.flatten).length=V→
  ∃b1 b2,dn n k (some (0,0,V),(V:Int),(K,()),(s:Int),(P.length:Int),((P.length+2*s:Nat):Int),[some (P++bs.flatten)],())=some (some (0,0,V),(V:Int),(K,()),(s:Int),((P++b1.flatten).length:Int),[some ((P++b1.flatten)++b2.flatten)],())∧
   (∀A∈b1,A.length=2*s∧Ia K A)∧Full s b2∧b2.flatten.length<2*s∧(∀A∈b2,Ia K A)∧abt (b1++b2)∧(b1.flatten++b2.flatten).Perm bs.flatten
 |0,bs,P,h,_,_,_,_,_=>by omega
 |k+1,bs,P,h,hF,hS,hI,hv,hl=>by
  rw[ag]at hl;rw[mf,af]
  by_cases c:bs.flatten.length<2*s
  ·rw[if_neg (by rw[bF];omega)];exact⟨[],bs,by simp,fun A hA=>(by cases hA),hF,c,hS,hI,by simp⟩
  rw[if_pos (by rw[bF];omega)]
  match bs,h,hF,hS,hI,hv,hl,c with
  |[],_,_,_,_,_,_,c=>simp at c;omega
  |[A],_,hF,_,_,_,_,c=>simp at c;have:=hF.2;omega
  |A::B::r,h,hF,hS,hI,hv,hl,c=>
   have hA:=hF.1;have hB:B.length=s:=by
    match r,hF with
    |[],hF=>
     have:=hF.2.2;simp at c;omega
    |C::r,hF=>exact hF.2.1
   have hfl:(A::B::r).flatten=A++(B++r.flatten):=by simp
   rw[hfl]at hl hv ⊢;have hl':P.length+(A.length+(B.length+r.flatten.length))=V:=by simpa using hl
   have hIA:=hI.1;have hIB:=hI.2.1;obtain⟨M,m1,m2,m3⟩:=UG (n:=n) (V:=V) uQ hn (K:=K) n A B P r.flatten (by omega) (by omega) (by omega) (hS A (by simp)) (hS B (by simp)) (fun x hx=>hv x (by rcases List.mem_append.1 hx with hx |hx<;>simp[hx])) (fun x hx y hy=>hIA x hx y (by rw[eo];exact aR _ hy)) (by rw[ag,ag,ag];exact hl');have m1':bP n (some (0,0,V),(P.length:Int),ap .i64 ((P.length:Int)+(s:Int)),((P.length+2*s:Nat):Int),(K,())) ([some (P++(A++(B++r.flatten)))],()) ()=some ((),[some (P++(M++r.flatten))],()):=by
    rw[aN,show(P.length:Int)+(s:Int)=((P.length+A.length:Nat):Int)by omega,show((P.length+2*s:Nat):Int)=((P.length+A.length+B.length:Nat):Int)by omega];exact m1
   rw[m1'];simp only[aa];have hM:M.length=2*s:=by rw[m2.length_eq,ag];omega
   rw[aN (x:=2*(s:Int)),aN];have e1:P++(M++r.flatten)=(P++M)++r.flatten:=by simp
   obtain⟨b1,b2,r1,r2,r3,r4,r5,r6,r7⟩:=YP uQ hn (K:=K) hs hsb k r (P++M) (by simp at h;omega) (Xk (Xk hF)) (fun C hC=>hS C (by simp[hC])) hI.2.2 (fun x hx=>hv x (by simp[hx])) (by rw[ag,ag,hM];omega);have e2:((P++M).length:Int)=((P.length+2*s:Nat):Int):=by rw[ag,hM]
   have e3:(((P++M).length+2*s:Nat):Int)=((P.length+2*s:Nat):Int)+2*(s:Int):=by rw[ag,hM];omega
   rw[e2,e3]at r1;rw[e1,r1];refine⟨M::b1,b2,by simp,fun C hC=> ?_,r3,r4,r5,⟨fun x hx y hy=> ?_,r6⟩,?_⟩
   ·rcases List.mem_cons.1 hC with rfl |hC
    ·exact⟨hM,m3⟩
    ·exact r2 C hC
   ·have hy:y∈(b1++b2).flatten:=hy;rw[List.flatten_append]at hy;have hy:=r7.subset hy;rcases List.mem_append.1 (m2.subset hx)with hx |hx
    ·exact hIA x hx y (by rw[eo];exact bo _ hy)
    ·exact hIB x hx y hy
   ·rw[eo,bn];refine(m2.append r7).trans ?_;simp
theorem Px{n V:Nat}(uQ:V≤1000000)(hn:2000000000≤n){K:List Int}:∀(k s:Nat) (bs:List (List Int)),0<s→s≤2000000→V+1 -s<k→Full s bs→(∀A∈bs,Ia K A)→abt bs→Val K bs.flatten→bs.flatten.length=V→
  ∃o,dl n k (some (0,0,V),(V:Int),(K,()),(s:Int),[some bs.flatten],())=some ([some o],())∧o.Perm bs.flatten∧Ia K o
 |0,s,bs,_,_,h,_,_,_,_,_=>by omega
 |k+1,s,bs,h0,hsb,h,hF,hS,hI,hv,hl=>by
  rw[me,af]
  by_cases c:s<V
  case neg=>
   rw[if_neg (by rw[bF];omega)];refine⟨bs.flatten,rfl,List.Perm.refl _,?_⟩
   match bs,hF,hS,hl with
   |[],_,_,_=>exact List.Pairwise.nil
   |[A],_,hS,_=>simpa using hS A (by simp)
   |A::B::r,hF,_,hl=>
    have h1:=hF.1;have h2:0<B.length:=by
     match r,hF with
     |[],hF=>exact hF.2.1
     |C::r,hF=>have:=hF.2.1;omega
    simp at hl;omega
  rw[if_pos (by rw[bF];omega)];obtain⟨b1,b2,r1,r2,r3,r4,r5,r6,r7⟩:=YP (n:=n) uQ hn (K:=K) h0 (by omega) n bs [] (by
   have:∀(l:List (List Int)),Full s l→l.length≤l.flatten.length:=by
    intro l
    induction l with
    |nil=>intro _;simp
    |cons A l ih=>
     intro hf;have hA:0<A.length:=by
      match l,hf with
      |[],hf=>exact hf.1
      |B::l,hf=>have:=hf.1;omega
     have:=ih (Xk hf);simp only[aZ,eo,ag];omega
   have:=this bs hF;omega) hF hS hI hv (by simpa using hl)
  rw[show(([]:List Int).length:Int)=0 from rfl,show((([]:List Int).length+2*s:Nat):Int)=2*(s:Int)by simp,bE]at r1;rw[aN (x:=2*(s:Int)),r1];simp only[aa,bE];have hlen:b1.flatten.length+b2.flatten.length=V:=by rw[←hl,←r7.length_eq,ag]
  rw[aN (x:=(b1.flatten.length:Int)+(s:Int))];have hI2:=UH.1 r6;have key:∃b3,(av (decide ((b1.flatten.length:Int)+(s:Int)<(V:Int))) (((bP n (some (0,0,V),(b1.flatten.length:Int),(b1.flatten.length:Int)+(s:Int),(V:Int),(K,())) ([some (b1.flatten++b2.flatten)],()) ())).bind fun v3=>
     some (some (0,0,V),(V:Int),(K,()),(s:Int),v3.2))
     (some (some (0,0,V),(V:Int),(K,()),(s:Int),[some (b1.flatten++b2.flatten)],())))=some (some (0,0,V),(V:Int),(K,()),(s:Int),[some (b1.flatten++b3.flatten)],())∧
    Full (2*s) (b1++b3)∧(∀A∈b3,Ia K A)∧abt b3∧b3.flatten.Perm b2.flatten:=by
   match b2,r3,r4,r5,hlen,hI2 with
   |[],r3,r4,r5,hlen,hI2=>
    refine⟨[],?_,by rw[cK];exact afy (by omega) fun A hA=>(r2 A hA).1,fun A hA=>(by cases hA),trivial,List.Perm.refl _⟩;rw[af,if_neg (by rw[bF];have h00:([]:List (List Int)).flatten.length=0:=rfl;omega)]
   |[A],r3,r4,r5,hlen,hI2=>
    have hA:=r3;have hAl:[A].flatten=A:=by simp
    rw[hAl]at hlen r4;refine⟨[A],?_,M7 hA.1 (by omega) fun A hA=>(r2 A hA).1,r5,hI2.2.1,List.Perm.refl _⟩;rw[af,if_neg (by rw[bF];have:=hA.2;omega)]
   |[A,B],r3,r4,r5,hlen,hI2=>
    have hAB:[A,B].flatten=A++B:=by simp
    rw[hAB,ag]at hlen r4;have hA:A.length=s:=r3.1;have hB:0<B.length∧B.length≤s:=r3.2;have hI3:∀x∈A,∀y∈B,x<y:=fun x hx y hy=>hI2.2.1.1 x hx y (by simpa using hy);have aEl:Val K (A++B):=(hv.perm r7).right |> fun h=>by rw[hAB]at h;exact h
    obtain⟨M,m1,m2,m3⟩:=UG (n:=n) (V:=V) uQ hn (K:=K) n A B b1.flatten [] (by omega) (by omega) hB.1 (r5 A (by simp)) (r5 B (by simp)) aEl hI3 (by rw[ag,ag,cK];omega);have hMl:[M].flatten=M:=by simp
    refine⟨[M],?_,M7 (by rw[m2.length_eq,ag];omega) (by rw[m2.length_eq,ag];omega) fun A hA=>(r2 A hA).1,fun C hC=> ?_,⟨fun x _ y hy=>(by cases hy),trivial⟩,by rw[hMl,hAB];exact m2⟩
    ·rw[jK,hAB,hMl];have m1':bP n (some (0,0,V),(b1.flatten.length:Int),(b1.flatten.length:Int)+(s:Int),(V:Int),(K,())) ([some (b1.flatten++(A++B))],()) ()=some ((),[some (b1.flatten++M)],()):=by
      rw[cK,cK]at m1;rw[show(b1.flatten.length:Int)+(s:Int)=((b1.flatten.length+A.length:Nat):Int)by omega,show(V:Int)=((b1.flatten.length+A.length+B.length:Nat):Int)by omega];exact m1
     rw[m1'];rfl
    ·have:C=M:=by simpa using hC
     rw[this];exact m3
   |A::B::C::r,r3,r4,r5,hlen,hI2=>
    have hA:A.length=s:=r3.1;have hB:B.length=s:=r3.2.1;simp only[eo,ag]at r4;omega
  obtain⟨b3,k1,k2,k3,k4,k5⟩:=key;rw[k1];simp only[aa];rw[aN,show(s:Int)*2=((2*s:Nat):Int)by omega];have hfl:(b1++b3).flatten=b1.flatten++b3.flatten:=by simp
  have abs:(b1++b3).flatten.Perm bs.flatten:=by
   rw[hfl];exact(List.Perm.append_left _ k5).trans r7
  rw[←hfl];obtain⟨o,o1,o2,o3⟩:=Px uQ hn (K:=K) k (2*s) (b1++b3) (by omega) (by omega) (by omega) k2 (fun C hC=>by
    rcases List.mem_append.1 hC with hC |hC
    ·exact(r2 C hC).2
    ·exact k3 C hC) (UH.2 ⟨hI2.1,k4,fun x hx y hy=>hI2.2.2 x hx y (k5.subset hy)⟩) (hv.perm abs) (by rw[abs.length_eq];exact hl)
  exact⟨o,o1,o2.trans abs,o3⟩
theorem apE{n:Nat}(hn:2000000000≤n){K T:List Int}(uQ:T.length≤1000000)(ho:T.Pairwise (·<·))(hv:Val K T):
  ∃o,dr n (some (0,0,T.length),(K,())) ([some T],()) ()=some ((),[some o],())∧o.Perm T∧Ia K o:=by
 rw[mu,ne];obtain⟨bs,Q,T',r1,r2,r3,r4,r5,r6⟩:=Pw (n:=n) (V:=T.length) uQ hn (K:=K) n T [] (by omega) ho hv (by simp);rw[show(([]:List Int).length:Int)=0 from rfl,show((([]:List Int).length+20:Nat):Int)=20 from rfl,bE,bE]at r1;rw[show gsN (some (0,0,T.length))=(T.length:Int)from rfl,r1];simp only[aa];have hTl:T.length=Q.length+T'.length:=by rw[r2,ag]
 have hbl:bs.flatten.length=Q.length:=r3.length_eq;have ho2:=List.pairwise_append.1 (by rw[r2]at ho;exact ho);have hv2:Val K (Q++T'):=by rw[←r2];exact hv
 obtain⟨M,m1,m2,m3⟩:=insertionSort (n:=n) (V:=T.length) uQ hn (K:=K) (P:=bs.flatten) (L:=T') (S:=[]) (A:=(bs.flatten.length:Int)) (B:=(T.length:Int)) rfl (by rw[hTl,hbl]) hv2.right ho2.2.1 (by rw[cK,ag];omega);rw[cK,cK]at m1;rw[m1];simp only[aa];have hMl:=m2.length_eq;obtain⟨b3,q1,q2,q3,q4⟩:∃b3,b3.flatten=M∧Full 20 (bs++b3)∧(∀A∈b3,Ia K A)∧abt b3:=by
  by_cases c:M=[]
  ·exact⟨[],by rw[c];rfl,by rw[cK];exact afy (by omega) fun A hA=>(r5 A hA).1,fun A hA=>(by cases hA),trivial⟩
  ·refine⟨[M],by simp,M7 (by have:=List.length_pos_iff.2 c;omega) (by omega) fun A hA=>(r5 A hA).1,fun A hA=> ?_,⟨fun x _ y hy=>(by cases hy),trivial⟩⟩;have:A=M:=by simpa using hA
   rw[this];exact m3
 have hfl:(bs++b3).flatten=bs.flatten++M:=by rw[List.flatten_append,q1]
 have abs:(bs++b3).flatten.Perm T:=by rw[hfl,r2];exact r3.append m2
 rw[←hfl];obtain⟨o,o1,o2,o3⟩:=Px (n:=n) (V:=T.length) uQ hn (K:=K) n 20 (bs++b3) (by omega) (by omega) (by omega) q2 (fun A hA=>by
   rcases List.mem_append.1 hA with hA |hA
   ·exact(r5 A hA).2
   ·exact q3 A hA) (UH.2 ⟨r6,q4,fun x hx y hy=>ho2.2.2 x (r3.subset hx) y (m2.subset (by rw[←q1];exact hy))⟩) (hv.perm abs) (by rw[abs.length_eq])
 rw[show((20:Nat):Int)=20 from rfl]at o1;rw[o1];exact⟨o,rfl,o2.trans abs,o3⟩
theorem YQ(n:Nat):places (n+1)=places n++[(n:Int)]:=by unfold places;rw[List.range_succ,eI];rfl
theorem aiE{n V:Nat}(uQ:V≤1000000){K:List Int}:∀(m k i:Nat),i+m=V→m<k→
  fD n k ((K,()),some (0,0,V),(V:Int),(i:Int),[some (places i++ao m 0)],())=some ((K,()),some (0,0,V),[some (places V)],())
 |0,k,i,h1,h2=>by
  obtain⟨k,rfl⟩:=iY k;rw[kQ,sS];have:i=V:=by omega
  subst this;simp
 |m+1,k,i,h1,h2=>by
  obtain⟨k,rfl⟩:=iY k;have hl:(places i++ao (m+1) 0).length=V:=by rw[ag,n9,aY];omega
  rw[kQ,jK];simp only[aa];have hx:(places i++ao (m+1) (0:Int))[i]? =some 0:=by rw[cM];exact pZ n9.symm
  rw[M9 (i:=i) hl rfl hx,wrL,aN,show(i:Int)+1=((i+1:Nat):Int)by omega];have e:(places i++ao (m+1) (0:Int)).set i (i:Int)=places (i+1)++ao m 0:=by
   rw[cM,sm n9.symm,YQ];simp
  rw[e];exact aiE uQ m k (i+1) (by omega) (by omega)
theorem apF{n:Nat}(hn:2000000000≤n){K:List Int}(uQ:K.length≤1000000):∃o,nH n K=some o∧Cd K o:=by
 rw[aaH,uW,gY (m:=K.length) rfl (by omega) (by omega)];simp only[aa];have hf:=aiE (n:=n) (V:=K.length) uQ (K:=K) K.length n 0 (by omega) (by omega);rw[show places 0++ao K.length (0:Int)=ao K.length 0 from rfl,show((0:Nat):Int)=0 from rfl]at hf;rw[show gsN (some (0,0,K.length))=(K.length:Int)from rfl,show eR [] (ao K.length (0:Int))=[some (ao K.length 0)]from rfl,hf];simp only[aa];obtain⟨o,o1,o2,o3⟩:=apE (n:=n) hn (K:=K) (T:=places K.length) (by rw[n9];exact uQ) apC (fun x hx=>Ce.1 hx);rw[n9]at o1;rw[o1];simp only[aa];have J5:o.length=K.length:=by rw[o2.length_eq,n9]
 have hgs:sP [some o] (some (0,0,K.length))=some o:=by
  rw[←J5];unfold sP;simp only[show fP [some o] 0=some o from rfl];rw[lK];simp
 obtain⟨H',h1⟩:=aft hgs;rw[h1];exact⟨o,rfl,o2,o3⟩
theorem rdG{α β:Type}{H:List (Option (List α))}{x:Option (Nat×Nat×Nat)}{l:List α}{I:Int}{i:Nat}{v:α}(h:sP H x=some l)(hI:I=(i:Int))(hx:l[i]? =some v)(f:α→Option β):
  (x.bind fun v1=>(ck I v1.2.2).bind fun v2=>(fP H v1.1).bind fun v3=>(nth v3 (v1.2.1+v2)).bind fun v4=>f v4)=f v:=by
 have hi:i<l.length:=by
  apply Decidable.byContradiction;intro hc;rw[bx (by omega)]at hx
  cases hx
 obtain⟨p,w,q1,q2,q3,q4,-⟩:=aiz h hi;rw[ah hi]at hx;rw[q1,hI];simp only[aa];rw[q2];simp only[aa];rw[q3];simp only[aa];rw[q4,hx];rfl
theorem wrG{α:Type}{H:List (Option (List α))}{x:Option (Nat×Nat×Nat)}{l:List α}{I:Int}{i:Nat}(v:α)(h:sP H x=some l)(hI:I=(i:Int))(hi:i<l.length):
  ∃H',sP H' x=some (l.set i v)∧∀{β:Type} (g:List (Option (List α))→Option β),(x.bind fun v5=>(ck I v5.2.2).bind fun v6=>(fP H v5.1).bind fun v7=>(nth v7 (v5.2.1+v6)).bind fun _=>(vn H v5.1 (v7.set (v5.2.1+v6) v)).bind fun v9=>g v9)=g H':=by
 obtain⟨p,w,q1,q2,q3,q4,q5⟩:=aiz h hi;obtain⟨H',u1,u2⟩:=q5 v;refine⟨H',u2,fun g=> ?_⟩;rw[q1,hI];simp only[aa];rw[q2];simp only[aa];rw[q3];simp only[aa];rw[q4];simp only[aa];rw[u1];rfl
theorem aqF{K:List Int}{x:Int}(h:0≤x∧x<(K.length:Int)):idx K x=some (ky K x):=by
 have:=qC (l:=K) (i:=x.toNat) (by omega) 0;rw[show(x.toNat:Int)=x by omega]at this;exact this
theorem ant{n:Nat}{K:List Int}{H:List (Option (List Int))}{s:Option (Nat×Nat×Nat)}{out:List Int}{i:Nat}(hi:i<K.length)(hv:Val K out)(hs:sP H s=some out)(J5:out.length≤1000000):∀(m k:Nat) (Da Db:List Int),Da.length=m→m<k→out=Da++Db→(∀d∈Db,ky K d<ky K (i:Int))→
  ∃Dc Dd,rQ n k (K,s,(i:Int),(Da.length:Int),H,())=some (K,s,(i:Int),(Dc.length:Int),H,())∧out=Dc++Dd∧(∀d∈Dd,ky K d<ky K (i:Int))∧(∀d,Dc.getLast? =some d→¬ ky K d<ky K (i:Int))
 |0,k,Da,Db,h1,h2,h3,h4=>by
  obtain⟨k,rfl⟩:=iY k;have:Da=[]:=List.length_eq_zero_iff.1 h1;subst this;rw[BV,af,if_neg (by rw[bF];simp)];exact⟨[],Db,by simp[av],h3,h4,fun d hd=>(by cases hd)⟩
 |m+1,k,Da,Db,h1,h2,h3,h4=>by
  obtain⟨k,rfl⟩:=iY k;obtain⟨D,d,rfl⟩:∃D d,Da=D++[d]:=by
   have:Da≠[]:=by intro h;rw[h]at h1;simp at h1
   exact⟨_,_,(bQ this).symm⟩
  have hD:D.length=m:=by simpa using h1
  have hlD:(D++[d]).length=D.length+1:=by simp
  have hout:out.length=D.length+1+Db.length:=by rw[h3,ag,hlD]
  have hx:out[D.length]? =some d:=by rw[h3,bn];exact pZ rfl
  have hdv:=hv d (by rw[h3];simp);rw[BV,jK];rw[rdG (i:=D.length) hs (by rw[aN];omega) hx,aqF hdv,aqF (x:=(i:Int)) ⟨by omega,by omega⟩];simp only[aa];rw[af]
  by_cases c:ky K d<ky K (i:Int)
  ·rw[if_pos (by simpa using c),aN,show((D++[d]).length:Int) -1=(D.length:Int)by omega];refine ant hi hv hs J5 m k D (d::Db) hD (by omega) (by rw[h3];simp) fun y hy=> ?_;rcases List.mem_cons.1 hy with rfl |hy
   ·exact c
   ·exact h4 y hy
  ·rw[if_neg (by simpa using c)];refine⟨D++[d],Db,rfl,h3,h4,fun y hy=> ?_⟩;have:y=d:=by simpa using hy.symm
   rw[this];exact c
theorem aiF{n:Nat}{K:List Int}{s:Option (Nat×Nat×Nat)}{i:Nat}{Dc:List Int}:∀(m k:Nat) (Da Db:List Int) (y:Int) (H:List (Option (List Int))),Da.length=m→m<k→sP H s=some (Dc++(Da++y::Db))→Dc.length+Da.length+Db.length≤1000000→
  ∃H' y',qk n k (K,s,(i:Int),(Dc.length:Int),((Dc.length+Da.length:Nat):Int),H,())=some (K,s,(i:Int),(Dc.length:Int),H',())∧sP H' s=some (Dc++y'::(Da++Db))
 |0,k,Da,Db,y,H,h1,h2,h3,h4=>by
  obtain⟨k,rfl⟩:=iY k;have:Da=[]:=List.length_eq_zero_iff.1 h1;subst this;rw[y5,af,if_neg (by rw[bF];simp)];exact⟨H,y,rfl,h3⟩
 |m+1,k,Da,Db,y,H,h1,h2,h3,h4=>by
  obtain⟨k,rfl⟩:=iY k;obtain⟨D,d,rfl⟩:∃D d,Da=D++[d]:=by
   have:Da≠[]:=by intro h;rw[h]at h1;simp at h1
   exact⟨_,_,(bQ this).symm⟩
  have hD:D.length=m:=by simpa using h1
  have hlD:(D++[d]).length=D.length+1:=by simp
  rw[y5,jK];have e1:Dc++((D++[d])++y::Db)=(Dc++D)++d::(y::Db):=by simp
  have e2:Dc++((D++[d])++y::Db)=(Dc++(D++[d]))++y::Db:=by simp
  have hx:(Dc++((D++[d])++y::Db))[Dc.length+D.length]? =some d:=by rw[e1];exact pZ (by simp)
  rw[rdG (i:=Dc.length+D.length) h3 (by rw[aN];omega) hx];obtain⟨H',a1,a2⟩:=wrG (i:=Dc.length+(D++[d]).length) (I:=((Dc.length+(D++[d]).length:Nat):Int)) d h3 rfl (by rw[e2];simp);rw[a2];have e3:(Dc++((D++[d])++y::Db)).set (Dc.length+(D++[d]).length) d=Dc++(D++d::(d::Db)):=by rw[e2,sm (by simp)];simp
  rw[e3]at a1;rw[aN,show((Dc.length+(D++[d]).length:Nat):Int) -1=((Dc.length+D.length:Nat):Int)by omega];obtain⟨H2,y',b1,b2⟩:=aiF (n:=n) (K:=K) (i:=i) m k D (d::Db) d H' hD (by omega) a1 (by simp;omega);exact⟨H2,y',b1,by rw[b2];simp⟩
theorem MA{n:Nat}{K:List Int}(hn:2000000000≤n)(hb:K.length≤1000000):∀(m k i:Nat) (H:List (Option (List Int))) (s:Option (Nat×Nat×Nat)) (out:List Int),i+m=K.length→m<k→sP H s=some out→out.Perm (places i)→Ia K out→
  ∃H' s' o,rP n k (K,s,(i:Int),H,())=some (s',H',())∧sP H' s'=some o∧Cd K o
 |0,k,i,H,s,out,h1,h2,h3,h4,h5=>by
  obtain⟨k,rfl⟩:=iY k;have:i=K.length:=by omega
  subst this;rw[BU,af,if_neg (by simp)];exact⟨H,s,out,rfl,h3,h4,h5⟩
 |m+1,k,i,H,s,out,h1,h2,h3,h4,h5=>by
  obtain⟨k,rfl⟩:=iY k;have hi:i<K.length:=by omega
  have J5:out.length=i:=by rw[h4.length_eq,n9]
  have hv:Val K out:=fun x hx=>by have:=Ce.1 (h4.subset hx);omega
  have hlt:∀x∈out,x<(i:Int):=fun x hx=>(Ce.1 (h4.subset hx)).2;rw[BU,jK];rw[YK h3];obtain⟨Dc,Dd,f1,f2,f3,f4⟩:=ant (n:=n) hi hv h3 (by omega) out.length n out [] rfl (by omega) (by simp) (fun d hd=>by cases hd);rw[f1];simp only[aa];obtain⟨H1,s1,g1,g2⟩:=M6 (b:=8) (m:=[(0:Int)]) h3 (by simp;omega) (by omega);rw[g1];simp only[aa];have hdl:out.length=Dc.length+Dd.length:=by rw[f2,ag]
  have hN:=YK g2;rw[hN,ag,fO];rw[aN,show(((out.length+1:Nat):Int) -1)=((Dc.length+Dd.length:Nat):Int)by omega];obtain⟨H2,y',u1,u2⟩:=aiF (n:=n) (K:=K) (s:=s1) (i:=i) (Dc:=Dc) Dd.length n Dd [] 0 H1 rfl (by omega) (by rw[g2,f2];simp) (by simp;omega);rw[u1];simp only[aa];obtain⟨H3,w1,w2⟩:=wrG (i:=Dc.length) (I:=(Dc.length:Int)) (i:Int) u2 rfl (by simp);rw[w2];rw[sm rfl,cK]at w1;rw[aN,show(i:Int)+1=((i+1:Nat):Int)by omega];refine MA hn hb m k (i+1) H3 s1 (Dc++(i:Int)::Dd) (by omega) (by omega) w1 ?_ (afw (by rw[←f2];exact h5) (by rw[←f2];exact hlt) f3 f4);rw[YQ];refine List.perm_middle.trans ?_;rw[←f2];exact(List.Perm.cons _ h4).trans (List.perm_append_singleton _ _).symm
theorem anu{n:Nat}{K:List Int}(hn:2000000000≤n)(hb:K.length≤1000000):∃o,l9 n K=some o∧Cd K o:=by
 rw[WS];obtain⟨H',s',o,a1,a2,a3⟩:=MA (n:=n) hn hb K.length n 0 (eR [] []) (some (0,0,0)) [] (by omega) (by omega) UD (List.Perm.refl _) List.Pairwise.nil;rw[show((0:Nat):Int)=0 from rfl]at a1;rw[a1];simp only[aa];obtain⟨H2,h2⟩:=aft a2;rw[h2];exact⟨o,rfl,a3⟩
theorem apG{n:Nat}{K:List Int}(hn:2000000000≤n)(hb:K.length≤1000000):∃o,nH n K=some o∧l9 n K=some o∧Cd K o:=by
 obtain⟨o,a1,a2⟩:=apF hn hb;obtain⟨p,b1,b2⟩:=anu hn hb;rw[apB b2 a2]at b1;exact⟨o,a1,b1,a2⟩
theorem aEn{n:Nat}{K:List Int}{k:Int}(hn:2000000000≤n)(hb:K.length≤1000000):∃o t,vM n (K,k)=some t∧sI n (K,k)=some t∧Cd K o∧t=(if 0<k∧k<(K.length:Int)then o.take k.toNat else o):=by
 obtain⟨o,a1,a2,a3⟩:=apG hn hb;have J5:=a3.len;rw[agv,aee,a1,a2];simp only[aa,fM];refine⟨o,if 0<k∧k<(K.length:Int)then o.take k.toNat else o,?_,?_,a3,rfl⟩
 ·rw[af]
  by_cases c:0<k∧k<(K.length:Int)
  ·rw[if_pos (by rw[aj,bF,bF,J5];exact c),if_pos c];have:=we (l:=o) (k:=k.toNat) (by omega);rw[show(k.toNat:Int)=k by omega]at this;rw[this];simp only[aa];rw[et (by rw[aC];simp;omega) (by omega)];simp
  ·rw[if_neg (by rw[aj,bF,bF,J5];exact c),if_neg c]
 ·rw[af]
  by_cases c:0<k∧k<(K.length:Int)
  ·rw[if_pos (by rw[aj,bF,bF,J5];exact c),if_pos c];have:=we (l:=o) (k:=k.toNat) (by omega);rw[show(k.toNat:Int)=k by omega]at this;rw[this];rfl
  ·rw[if_neg (by rw[aj,bF,bF,J5];exact c),if_neg c]
def kI(l:List Int):Nat→Int
 |0=>0
 |k+1=>kI l k+l.getD k 0
theorem sK{l:List Int}{b:Int}(h:∀x∈l,0≤x∧x≤b):∀k,k≤l.length→0≤kI l k∧kI l k≤k*b
 |0,_=>by simp[kI]
 |k+1,hk=>by
  have h1:=sK h k (by omega);have h2:=h _ (ak (show k<l.length by omega));show 0≤kI l k+l.getD k 0∧kI l k+l.getD k 0≤((k+1:Nat):Int)*b;rw[aT (show k<l.length by omega)];have:((k+1:Nat):Int)*b=k*b+b:=by grind
  omega
theorem Ac{l:List Int}:∀k,k≤l.length→kI l k=(l.take k).sum
 |0,_=>by simp[kI]
 |k+1,hk=>by
  show kI l k+l.getD k 0=_;have e:l.take (k+1)=l.take k++[l[k]'(by omega)]:=by rw[dO,ah (by omega)];rfl
  rw[Ac k (by omega),aT (show k<l.length by omega),e,List.sum_append];simp
def WOk(l:List Int):Prop:=l.length≤4096∧(∀x∈l,0≤x∧x≤1073741824)∧0<l.sum
theorem WOk.apH{l:List Int}(h:WOk l):l.sum≤4398046511104:=by
 have:=(sK h.2.1 l.length (aA _)).2;rw[Ac _ (aA _),ch]at this;have:=h.1;omega
theorem anw{n:Nat}{l:List Int}(h:WOk l)(hn:2000000000≤n):AC n l=some (l.sum,0):=by
 have hl:=h.1;rw[agw,sS];have h1:=aX (L:=fun k j s=>nI n k (s,l,(l.length:Int),j,())) (len:=l.length) (r:=.inr (l.sum,())) (fun i=>kI l i) (by
  intro k j hj;have hx:=h.2.1 _ (ak hj);have hs:=sK h.2.1 j (by omega);show nI n (k+1) _=nI n k (kI l j+l.getD j 0,_);rw[Jm,jK,fk hj];simp only[aa];rw[aT hj,eP];simp only[aa];rw[af,if_neg (by rw[aB,bF,bF];omega),aN,aN]) (by
  intro k;show nI n (k+1) _=_;rw[Jm,af,if_neg (by simp),Ac _ (aA _),ch]) n (by omega)
 rw[show kI l 0=0 from rfl]at h1;rw[h1];simp only[aa,cY];rw[af,if_neg (by rw[beq_iff_eq];have:=h.2.2;omega)]
theorem aiG{n:Nat}{l:List Int}(h:WOk l)(hn:2000000000≤n):xz n l=some (l.sum,0):=by
 have hl:=h.1;rw[aef,sS];have h1:=aX (L:=fun k j s=>ma n k (l,s,j,())) (len:=l.length) (r:=.inr (l.sum,())) (fun i=>kI l i) (by
  intro k j hj;have hx:=h.2.1 _ (ak hj);have hs:=sK h.2.1 j (by omega);show ma n (k+1) _=ma n k (l,kI l j+l.getD j 0,_);rw[Gh,jK,fk hj];simp only[aa];rw[aT hj,eP];simp only[aa];rw[af,if_neg (by rw[aB,bF,bF];omega),aN,aN]) (by
  intro k;show ma n (k+1) _=_;rw[Gh,af,if_neg (by simp),Ac _ (aA _),ch]) n (by omega)
 rw[show kI l 0=0 from rfl]at h1;rw[h1];simp only[aa,cY];rw[af,if_neg (by rw[beq_iff_eq];have:=h.2.2;omega)]
end Go.Am.Pu
