import Derived.Test.YtllhngpojglipaaGreatDoorP14
set_option linter.unusedVariables false
set_option linter.unusedSimpArgs false
open Bool renaming and_eq_true→aj
open Go.IntKind renaming wrap→ap
open List renaming append_assoc→bn,dropLast_concat_getLast→bQ,getElem?_append_left→aQ,getElem?_append_right→bh,getElem?_eq_getElem→ah,getElem_mem→ak,getElem_of_mem→aL,length_append→ag,length_cons→aZ,length_nil→dz,length_set→aP,length_take→aC,mem_append_left→aR,mem_append_right→bo,mem_cons_of_mem→aF,mem_cons_self→aH,take_append_drop→cH
open Nat renaming add_sub_cancel_left→eZ,le_refl→aA
open Option renaming bind_some→aa
namespace Go.Am.Pu
open Go Go.Am
abbrev at9:=(Option (Nat×Nat×Nat)×Int×Int×Int×(List Int×Unit))→(List (Option (List Int))×Unit)→Unit→Option (Unit×List (Option (List Int))×Unit)
theorem half{i j:Nat}(h:i+j≤1000000000):vm .u64 (ap .u64 (ap .i64 ((i:Int)+(j:Int)))) 1=some (((i+j)/2:Nat):Int):=by
 rw[aN,Ny];have:=Us (k:=.u64) (a:=(i:Int)+(j:Int)) (s:=1) (by decide);rw[show((1:Nat):Int)=1 from rfl]at this;rw[this];congr 1
theorem xh{K l:List Int}(h:Ia K l){i j:Nat}(hi:i<l.length)(hj:j<l.length)(hij:i<j):wg K l[i] l[j]:=List.pairwise_iff_getElem.1 h i j hi hj hij
theorem abZ{P X T:List Int}{c:Nat}(hc:c<X.length){i:Nat}(hi:i=P.length+c):(P++(X++T))[i]? =some X[c]:=by
 subst hi;rw[bh (by omega),eZ,aQ hc,ah hc]
theorem Ib{n V:Nat}(uQ:V≤1000000){Rf:at9}{K P R S:List Int}{x:Int}(hs:Ia K R)(hv:Val K (x::R))(hx:∀y∈R,x<y)(hl:(P++(x::(R++S))).length=V):∀(k i j:Nat),i≤j→j≤R.length→j -i<k→
  (∀c (hc:c<R.length),c<i→wg K R[c] x)→(∀c (hc:c<R.length),j≤c→¬ wg K R[c] x)→
  ∃p,p≤R.length∧cW n Rf k (some (0,0,V),(P.length:Int),(K,()),((P.length+1+i:Nat):Int),((P.length+1+j:Nat):Int),[some (P++(x::(R++S)))],())=some (some (0,0,V),(P.length:Int),((P.length+1+p:Nat):Int),[some (P++(x::(R++S)))],())∧
   (∀c (hc:c<R.length),c<p→wg K R[c] x)∧(∀c (hc:c<R.length),p≤c→¬ wg K R[c] x)
 |0,i,j,h1,h2,h3,h4,h5=>by omega
 |k+1,i,j,h1,h2,h3,h4,h5=>by
  have hV:P.length+(R.length+S.length+1)=V:=by rw[←hl];simp
  rw[kT,af]
  by_cases c:i=j
  ·subst c;rw[if_neg (by rw[bF];omega)];exact⟨i,h2,rfl,h4,h5⟩
  rw[if_pos (by rw[bF];omega),half (by omega)];simp only[aa];have hc:(i+j)/2<R.length:=by omega
  have e:(P.length+1+i+(P.length+1+j))/2=P.length+1+(i+j)/2:=by omega
  rw[e,aN (x:=((P.length+1+(i+j)/2:Nat):Int))];have i1:(P++(x::(R++S)))[P.length+1+(i+j)/2]? =some R[(i+j)/2]:=by
   have:=abZ (P:=P++[x]) (X:=R) (T:=S) hc (i:=P.length+1+(i+j)/2) (by simp);simpa using this
  have i2:(P++(x::(R++S)))[P.length]? =some x:=pZ rfl
  rw[M9 (i:=P.length+1+(i+j)/2) hl rfl i1,M9 (i:=P.length) hl rfl i2];have hy:=ak hc;obtain⟨q,q1,q2⟩:=UE (n:=n) (hv _ (aF _ hy)) (hv x aH);rw[q1];simp only[aa];rw[q2,af]
  by_cases hb:ky K x<ky K R[(i+j)/2]
  ·have hb':=(apD (hx _ hy)).2 hb;rw[if_pos (by simpa using hb)];simp only[aa];rw[aN,show((P.length+1+(i+j)/2:Nat):Int)+1=((P.length+1+((i+j)/2+1):Nat):Int)by omega];refine Ib uQ hs hv hx hl k ((i+j)/2+1) j (by omega) h2 (by omega) (fun c Nc hci=> ?_) h5
   by_cases wi:c=(i+j)/2
   ·subst wi;exact hb'
   ·exact(xh hs Nc hc (by omega)).trans hb'
  ·have hb':¬ wg K R[(i+j)/2] x:=fun h=>hb ((apD (hx _ hy)).1 h);rw[if_neg (by simpa using hb)];simp only[aa];refine Ib uQ hs hv hx hl k i ((i+j)/2) (by omega) (by omega) (by omega) h4 (fun c Nc hci=> ?_)
   by_cases wi:c=(i+j)/2
   ·subst wi;exact hb'
   ·exact fun h=>hb' ((xh hs hc Nc (by omega)).trans h)
theorem afx{n V:Nat}(uQ:V≤1000000){Rf:at9}{x:Int}{i:Nat}:∀(R1 P T:List Int) (k:Nat),P.length+1+R1.length=i→R1.length<k→(P++(x::(R1++T))).length=V→
  cX n Rf k (some (0,0,V),(i:Int),(P.length:Int),[some (P++(x::(R1++T)))],())=some ([some (P++(R1++(x::T)))],())
 |[],P,T,k,h1,h2,h3=>by
  obtain⟨k,rfl⟩:=iY k;have hV:P.length≤V:=by rw[←h3];simp
  simp only[dz]at h1;rw[fH,af,if_neg (by rw[bF,aN];omega)];simp
 |r::R1,P,T,k,h1,h2,h3=>by
  obtain⟨k,rfl⟩:=iY k;have hlr:(r::R1).length=R1.length+1:=rfl;rw[hlr]at h1 h2;have hV:P.length+(R1.length+1+T.length+1)=V:=by rw[←h3];simp only[ag,aZ]
  rw[fH,af,if_pos (by rw[bF,aN];omega)];simp only[aa];have e1:P++(x::((r::R1)++T))=(P++[x])++r::(R1++T):=by simp
  have i1:(P++(x::((r::R1)++T)))[P.length+1]? =some r:=by rw[e1];exact pZ (by simp)
  have i2:(P++(x::((r::R1)++T)))[P.length]? =some x:=pZ rfl
  have w1:(P++(x::((r::R1)++T))).set P.length r=(P++[r])++r::(R1++T):=by rw[sm rfl];simp
  have sQ:((P++[r])++r::(R1++T)).length=V:=by rw[←w1,aP];exact h3
  have i3:((P++[r])++r::(R1++T))[P.length+1]? =some r:=pZ (by simp)
  have w2:((P++[r])++r::(R1++T)).set (P.length+1) x=(P++[r])++(x::(R1++T)):=sm (by simp);rw[M9 (i:=P.length+1) h3 (by rw[aN];omega) i1,M9 (i:=P.length) h3 rfl i2,M9 (i:=P.length) h3 rfl i2,wrL,w1];rw[M9 (i:=P.length+1) sQ (by rw[aN];omega) i3,wrL,w2];have hr:=afx (n:=n) uQ (Rf:=Rf) (x:=x) (i:=i) R1 (P++[r]) T k (by simp;omega) (by omega) (by rw[←w2,aP];exact sQ);rw[aN,show(P.length:Int)+1=((P++[r]).length:Int)by simp,hr];simp
theorem Mz{n V:Nat}(uQ:V≤1000000){Rf:at9}{K P L S:List Int}{y:Int}(hs:Ia K L)(hv:Val K (y::L))(hy:∀x∈L,x<y)(hl:(P++(L++(y::S))).length=V):∀(k i j:Nat),i≤j→j≤L.length→j -i<k→
  (∀c (hc:c<L.length),c<i→wg K L[c] y)→(∀c (hc:c<L.length),j≤c→¬ wg K L[c] y)→
  ∃p,p≤L.length∧cO n Rf k (some (0,0,V),((P.length+L.length:Nat):Int),(K,()),((P.length+i:Nat):Int),((P.length+j:Nat):Int),[some (P++(L++(y::S)))],())=some (some (0,0,V),((P.length+L.length:Nat):Int),((P.length+p:Nat):Int),[some (P++(L++(y::S)))],())∧
   (∀c (hc:c<L.length),c<p→wg K L[c] y)∧(∀c (hc:c<L.length),p≤c→¬ wg K L[c] y)
 |0,i,j,h1,h2,h3,h4,h5=>by omega
 |k+1,i,j,h1,h2,h3,h4,h5=>by
  have hV:P.length+(L.length+(S.length+1))=V:=by rw[←hl];simp
  rw[kK,af]
  by_cases c:i=j
  ·subst c;rw[if_neg (by rw[bF];omega)];exact⟨i,h2,rfl,h4,h5⟩
  rw[if_pos (by rw[bF];omega),half (by omega)];simp only[aa];have hc:(i+j)/2<L.length:=by omega
  have e:(P.length+i+(P.length+j))/2=P.length+(i+j)/2:=by omega
  rw[e,aN (x:=((P.length+(i+j)/2:Nat):Int))];have i1:(P++(L++(y::S)))[P.length+(i+j)/2]? =some L[(i+j)/2]:=abZ hc rfl
  have i2:(P++(L++(y::S)))[P.length+L.length]? =some y:=by
   simp
  rw[M9 (i:=P.length+L.length) hl rfl i2,M9 (i:=P.length+(i+j)/2) hl rfl i1];have hx:=ak hc;obtain⟨q,q1,q2⟩:=UE (n:=n) (hv y aH) (hv _ (aF _ hx));rw[q1];simp only[aa];rw[q2,af]
  by_cases hb:ky K L[(i+j)/2]<ky K y
  ·have hb':¬ wg K L[(i+j)/2] y:=fun h=>(UF (hy _ hx)).1 h hb;rw[if_neg (by simpa using hb)];simp only[aa];refine Mz uQ hs hv hy hl k i ((i+j)/2) (by omega) (by omega) (by omega) h4 (fun c Nc hci=> ?_)
   by_cases wi:c=(i+j)/2
   ·subst wi;exact hb'
   ·exact fun h=>hb' ((xh hs hc Nc (by omega)).trans h)
  ·have hb':=(UF (hy _ hx)).2 hb;rw[if_pos (by simpa using hb)];simp only[aa];rw[aN,show((P.length+(i+j)/2:Nat):Int)+1=((P.length+((i+j)/2+1):Nat):Int)by omega];refine Mz uQ hs hv hy hl k ((i+j)/2+1) j (by omega) h2 (by omega) (fun c Nc hci=> ?_) h5
   by_cases wi:c=(i+j)/2
   ·subst wi;exact hb'
   ·exact(xh hs Nc hc (by omega)).trans hb'
theorem aiC{n V:Nat}(uQ:V≤1000000){Rf:at9}{y:Int}{P:List Int}:∀(m:Nat) (L2 T:List Int) (k:Nat),L2.length=m→m<k→(P++(L2++(y::T))).length=V→
  cP n Rf k (some (0,0,V),(P.length:Int),((P.length+L2.length:Nat):Int),[some (P++(L2++(y::T)))],())=some ([some (P++(y::(L2++T)))],())
 |0,L2,T,k,h1,h2,h3=>by
  obtain⟨k,rfl⟩:=iY k;have:L2=[]:=List.length_eq_zero_iff.1 h1;subst this;rw[fy,af,if_neg (by rw[bF];simp)];simp
 |m+1,L2,T,k,h1,h2,h3=>by
  obtain⟨k,rfl⟩:=iY k;obtain⟨D,d,rfl⟩:∃D d,L2=D++[d]:=by
   have:L2≠[]:=by intro h;rw[h]at h1;simp at h1
   exact⟨_,_,(bQ this).symm⟩
  have hD:D.length=m:=by simpa using h1
  have hlD:(D++[d]).length=D.length+1:=by simp
  have hV:P.length+(D.length+1+(T.length+1))=V:=by rw[←h3,ag,ag,hlD];rfl
  rw[fy,jK];simp only[aa];have e0:P++((D++[d])++(y::T))=(P++D)++d::(y::T):=by simp
  have e1:P++((D++[d])++(y::T))=(P++(D++[d]))++y::T:=by simp
  have i1:(P++((D++[d])++(y::T)))[P.length+(D++[d]).length]? =some y:=by rw[e1];exact pZ (by simp)
  have i2:(P++((D++[d])++(y::T)))[P.length+D.length]? =some d:=by rw[e0];exact pZ (by simp)
  have w1:(P++((D++[d])++(y::T))).set (P.length+(D++[d]).length) d=(P++D)++d::(d::T):=by rw[e1,sm (by simp)];simp
  have sQ:((P++D)++d::(d::T)).length=V:=by rw[←w1,aP];exact h3
  have i3:((P++D)++d::(d::T))[P.length+D.length]? =some d:=pZ (by simp)
  have w2:((P++D)++d::(d::T)).set (P.length+D.length) y=P++(D++(y::(d::T))):=by rw[sm (by simp)];simp
  rw[M9 (i:=P.length+D.length) h3 (by rw[aN];omega) i2,M9 (i:=P.length+(D++[d]).length) h3 rfl i1,M9 (i:=P.length+(D++[d]).length) h3 rfl i1,wrL,w1];rw[M9 (i:=P.length+D.length) sQ (by rw[aN];omega) i3,wrL,w2];have hr:=aiC (n:=n) uQ (Rf:=Rf) (y:=y) (P:=P) m D (d::T) k hD (by omega) (by rw[←w2,aP];exact sQ);rw[aN,show((P.length+(D++[d]).length:Nat):Int) -1=((P.length+D.length:Nat):Int)by omega,hr];simp
theorem QL{n V:Nat}(uQ:V≤1000000){Rf:at9}{K P L R S:List Int}{z1 z2 z3 z4:Int}{N lo hi:Nat}(hL:Ia K L)(hR:Ia K R)(hv:Val K (L++R))(hx:∀x∈L,∀y∈R,x<y)(hl:(P++(L++(R++S))).length=V)
  (hN:∀c,lo≤c→c<hi→c<L.length∧P.length+L.length≤N -1 -(P.length+c)∧N -1 -(P.length+c)<P.length+L.length+R.length∧P.length+c<N):∀(k i j:Nat),lo≤i→i≤j→j≤hi→hi≤1000000→N≤10000000→j -i<k→
  (∀c (hc:c<L.length) (hd:N -1 -(P.length+c) -(P.length+L.length)<R.length),lo≤c→c<i→wg K L[c] R[N -1 -(P.length+c) -(P.length+L.length)])→
  (∀c (hc:c<L.length) (hd:N -1 -(P.length+c) -(P.length+L.length)<R.length),j≤c→c<hi→¬ wg K L[c] R[N -1 -(P.length+c) -(P.length+L.length)])→
  ∃p,lo≤p∧p≤hi∧cS n Rf k (some (0,0,V),z1,z2,z3,(K,()),z4,(N:Int),((P.length+i:Nat):Int),((P.length+j:Nat):Int),(N:Int) -1,[some (P++(L++(R++S)))],())=some (some (0,0,V),z1,z2,z3,(K,()),z4,(N:Int),((P.length+p:Nat):Int),[some (P++(L++(R++S)))],())∧
   (∀c (hc:c<L.length) (hd:N -1 -(P.length+c) -(P.length+L.length)<R.length),lo≤c→c<p→wg K L[c] R[N -1 -(P.length+c) -(P.length+L.length)])∧
   (∀c (hc:c<L.length) (hd:N -1 -(P.length+c) -(P.length+L.length)<R.length),p≤c→c<hi→¬ wg K L[c] R[N -1 -(P.length+c) -(P.length+L.length)])
 |0,i,j,h0,h1,h2,hh,hNb,h3,h4,h5=>by omega
 |k+1,i,j,h0,h1,h2,hh,hNb,h3,h4,h5=>by
  have hV:P.length+(L.length+(R.length+S.length))=V:=by rw[←hl];simp
  rw[kL,af]
  by_cases c:i=j
  ·subst c;rw[if_neg (by rw[bF];omega)];exact⟨i,h0,h2,rfl,h4,h5⟩
  rw[if_pos (by rw[bF];omega),half (by omega)];simp only[aa];obtain⟨g1,g2,g3,g4⟩:=hN ((i+j)/2) (by omega) (by omega);have e:(P.length+i+(P.length+j))/2=P.length+(i+j)/2:=by omega
  have hd:N -1 -(P.length+(i+j)/2) -(P.length+L.length)<R.length:=by omega
  rw[e,aN (x:=((P.length+(i+j)/2:Nat):Int))];have i1:(P++(L++(R++S)))[P.length+(i+j)/2]? =some L[(i+j)/2]:=abZ g1 rfl
  have i2:(P++(L++(R++S)))[N -1 -(P.length+(i+j)/2)]? =some R[N -1 -(P.length+(i+j)/2) -(P.length+L.length)]:=by
   have:=abZ (P:=P++L) (X:=R) (T:=S) hd (i:=N -1 -(P.length+(i+j)/2)) (by rw[ag];omega);simpa using this
  rw[M9 (i:=N -1 -(P.length+(i+j)/2)) hl (by rw[aN];omega) i2,M9 (i:=P.length+(i+j)/2) hl rfl i1];have hxm:=ak g1;have hym:=ak hd;obtain⟨q,q1,q2⟩:=UE (n:=n) (hv _ (bo _ hym)) (hv _ (aR _ hxm));rw[q1];simp only[aa];rw[q2,af];have hlt:=hx _ hxm _ hym
  by_cases hb:ky K L[(i+j)/2]<ky K R[N -1 -(P.length+(i+j)/2) -(P.length+L.length)]
  ·have hb':=fun h=>(UF hlt).1 h hb;rw[if_neg (by simpa using hb)];simp only[aa];refine QL uQ hL hR hv hx hl hN k i ((i+j)/2) h0 (by omega) (by omega) hh hNb (by omega) h4 (fun c Nc hd' hci hch=> ?_)
   by_cases wi:c=(i+j)/2
   ·subst wi;exact hb'
   ·intro h;obtain⟨f1,f2,f3,f4⟩:=hN c (by omega) hch;exact hb' ((xh hL g1 Nc (by omega)).trans (h.trans (xh hR hd' hd (by omega))))
  ·have hb':=(UF hlt).2 hb;rw[if_pos (by simpa using hb)];simp only[aa];rw[aN,show((P.length+(i+j)/2:Nat):Int)+1=((P.length+((i+j)/2+1):Nat):Int)by omega];refine QL uQ hL hR hv hx hl hN k ((i+j)/2+1) j (by omega) (by omega) h2 hh hNb (by omega) (fun c Nc hd' hlo hci=> ?_) h5
   by_cases wi:c=(i+j)/2
   ·subst wi;exact hb'
   ·obtain⟨f1,f2,f3,f4⟩:=hN c hlo (by omega);exact(xh hL Nc g1 (by omega)).trans (hb'.trans (xh hR hd hd' (by omega)))
theorem anr{K A:List Int}{y:Int}(hs:Ia K A)(h:∀x,A.getLast? =some x→wg K x y):∀x∈A,wg K x y:=by
 intro x hx;have hne:A≠[]:=by intro h0;rw[h0]at hx;cases hx
 obtain⟨B,z,rfl⟩:∃B z,A=B++[z]:=⟨_,_,(bQ hne).symm⟩;have hz:=h z (by simp);rcases List.mem_append.1 hx with hx |hx
 ·exact((qo.1 hs).2.2 x hx z (by simp)).trans hz
 ·have:x=z:=by simpa using hx
  rw[this];exact hz
theorem ans{K A:List Int}{x:Int}(hs:Ia K A)(h:∀y,A.head? =some y→wg K x y):∀y∈A,wg K x y:=by
 intro y hy
 match A,hs,h,hy with
 |a::A,hs,h,hy=>
  have ha:=h a rfl;rcases List.mem_cons.1 hy with rfl |hy
  ·exact ha
  ·exact ha.trans ((List.pairwise_cons.1 hs).1 y hy)
theorem aiD{X1 X2:List Int}{c:Nat}(h1:c<X1.length)(h2:c<(X1++X2).length):(X1++X2)[c]=X1[c]:=List.getElem_append_left h1
theorem UG{n V:Nat}(uQ:V≤1000000)(hn:2000000000≤n){K:List Int}:∀(k:Nat) (L R P S:List Int),L.length+R.length<k→0<L.length→0<R.length→Ia K L→Ia K R→Val K (L++R)→(∀x∈L,∀y∈R,x<y)→(P++(L++(R++S))).length=V→
  ∃M,ay n k (some (0,0,V),(P.length:Int),((P.length+L.length:Nat):Int),((P.length+L.length+R.length:Nat):Int),(K,())) ([some (P++(L++(R++S)))],()) ()=some ((),[some (P++(M++S))],())∧M.Perm (L++R)∧Ia K M
 |0,L,R,P,S,h,_,_,_,_,_,_,_=>by omega
 |k+1,L,R,P,S,hk,h1,h2,hL,hR,hv,hx,hl=>by
  have hV:P.length+(L.length+(R.length+S.length))=V:=by rw[←hl];simp
  rw[lI];rw[aN (x:=((P.length+L.length:Nat):Int) -(P.length:Int)),af]
  by_cases cL:L.length=1
  ·rw[if_pos (by rw[beq_iff_eq];omega)]
   match L,cL,hL,hv,hx,hl,hV with
   |[x],_,hL,hv,hx,hl,hV=>
    obtain⟨p,p1,p2,p3,p4⟩:=Ib (n:=n) uQ (Rf:=ay n k) (S:=S) (P:=P) hR hv (fun y hy=>hx x (by simp) y hy) hl n 0 R.length (by omega) (aA _) (by omega) (fun c _ hc=>by omega) (fun c hc Nf=>by omega);have e1:((P.length+[x].length:Nat):Int)=((P.length+1+0:Nat):Int):=rfl;have e2:((P.length+[x].length+R.length:Nat):Int)=((P.length+1+R.length:Nat):Int):=rfl;rw[e1,e2,show P++([x]++(R++S))=P++(x::(R++S))from rfl,p2];simp only[aa];obtain⟨R1,R2,rfl,hR1⟩:∃R1 R2,R=R1++R2∧R1.length=p:=⟨R.take p,R.drop p,(cH _ _).symm,by rw[aC];omega⟩;have e3:P++(x::((R1++R2)++S))=P++(x::(R1++(R2++S))):=by simp
    have hl':(P++(x::(R1++(R2++S)))).length=V:=by rw[←e3];exact hl
    have hm:=afx (n:=n) uQ (Rf:=ay n k) (x:=x) (i:=P.length+1+p) R1 P (R2++S) n (by omega) (by rw[ag]at hV;omega) hl';rw[e3,hm];refine⟨R1++x::R2,by simp,?_,?_⟩
    ·exact List.perm_middle
    ·have hs:=qo.1 hR;refine qo.2 ⟨hs.1,List.pairwise_cons.2 ⟨fun y hy=> ?_,hs.2.1⟩,fun y hy z hz=> ?_⟩
     ·obtain⟨c,hc,rfl⟩:=aL hy;have:=p4 (R1.length+c) (by rw[ag];omega) (by omega);rw[List.getElem_append_right (by omega)]at this;simp only[eZ]at this;have hlt:=hx x (by simp) R2[c] (by simp);exact arO hlt this
     ·rcases List.mem_cons.1 hz with rfl |hz
      ·obtain⟨c,hc,rfl⟩:=aL hy;have:=p3 c (by rw[ag];omega) (by omega);rw[aiD hc]at this;exact this
      ·exact hs.2.2 y hy z hz
  rw[if_neg (by rw[beq_iff_eq];omega),aN (x:=((P.length+L.length+R.length:Nat):Int) -((P.length+L.length:Nat):Int)),af]
  by_cases cR:R.length=1
  ·rw[if_pos (by rw[beq_iff_eq];omega)]
   match R,cR,hR,hv,hx,hl,hV with
   |[y],_,hR,hv,hx,hl,hV=>
    obtain⟨p,p1,p2,p3,p4⟩:=Mz (n:=n) uQ (Rf:=ay n k) (S:=S) (P:=P) (y:=y) hL (fun z hz=>by rcases List.mem_cons.1 hz with rfl |hz;exact hv _ (by simp);exact hv _ (aR _ hz)) (fun x hx'=>hx x hx' y (by simp)) hl n 0 L.length (by omega) (aA _) (by omega) (fun c _ hc=>by omega) (fun c hc Nf=>by omega);rw[show(P.length+0:Nat)=P.length from rfl]at p2;rw[show P++(L++([y]++S))=P++(L++(y::S))from rfl,p2];simp only[aa];obtain⟨L1,L2,rfl,hL1⟩:∃L1 L2,L=L1++L2∧L1.length=p:=⟨L.take p,L.drop p,(cH _ _).symm,by rw[aC];omega⟩;have e3:P++((L1++L2)++(y::S))=(P++L1)++(L2++(y::S)):=by simp
    have hl':((P++L1)++(L2++(y::S))).length=V:=by rw[←e3];exact hl
    have hm:=aiC (n:=n) uQ (Rf:=ay n k) (y:=y) (P:=P++L1) L2.length L2 S n rfl (by rw[ag]at hV;omega) hl';rw[ag,hL1]at hm;have e4:P.length+(L1++L2).length=P.length+p+L2.length:=by rw[ag];omega
    rw[e3,e4,hm];refine⟨L1++y::L2,by simp,?_,?_⟩
    ·show(L1++y::L2).Perm ((L1++L2)++[y]);rw[bn];exact List.Perm.append_left L1 (List.perm_append_singleton y L2).symm
    ·have hs:=qo.1 hL;refine qo.2 ⟨hs.1,List.pairwise_cons.2 ⟨fun z hz=> ?_,hs.2.1⟩,fun x hx' z hz=> ?_⟩
     ·obtain⟨c,hc,rfl⟩:=aL hz;have:=p4 (L1.length+c) (by rw[ag];omega) (by omega);rw[List.getElem_append_right (by omega)]at this;simp only[eZ]at this;have hlt:=hx L2[c] (by simp) y (by simp);apply Decidable.byContradiction;intro Nf;apply this;unfold wg at Nf ⊢;omega
     ·rcases List.mem_cons.1 hz with rfl |hz
      ·obtain⟨c,hc,rfl⟩:=aL hx';have:=p3 c (by rw[ag];omega) (by omega);rw[aiD hc]at this;exact this
      ·exact hs.2.2 x hx' z hz
  rw[if_neg (by rw[beq_iff_eq];omega)];rw[half (i:=P.length) (j:=P.length+L.length+R.length) (by omega)];simp only[aa];obtain⟨mid,hmid⟩:∃mid,mid=(P.length+(P.length+L.length+R.length))/2:=⟨_,rfl⟩;rw[←hmid,aN (x:=(mid:Int)),aN (x:=(mid:Int)+((P.length+L.length:Nat):Int))];obtain⟨N,hN⟩:∃N,N=mid+(P.length+L.length):=⟨_,rfl⟩;rw[show(mid:Int)+((P.length+L.length:Nat):Int)=(N:Int)by omega];rw[aN (x:=(N:Int) -((P.length+L.length+R.length:Nat):Int)),aN (x:=(N:Int) -1)];obtain⟨lo,hi,hb,hlh,hw⟩:∃lo hi,(av (decide (((P.length+L.length:Nat):Int)>(mid:Int))) (some ((N:Int) -((P.length+L.length+R.length:Nat):Int),(mid:Int))) (some ((P.length:Int),((P.length+L.length:Nat):Int))))=some (((P.length+lo:Nat):Int),((P.length+hi:Nat):Int))∧lo≤hi∧
    ((mid<P.length+L.length∧P.length+lo=N -(P.length+L.length+R.length)∧P.length+hi=mid)∨(P.length+L.length≤mid∧lo=0∧hi=L.length)):=by
   rw[af]
   by_cases c:mid<P.length+L.length
   ·rw[if_pos (by rw[bF];omega)];exact⟨N -(P.length+L.length+R.length) -P.length,mid -P.length,by congr 1;apply Prod.ext<;>(show _=(_:Int))<;>simp only<;>omega,by omega,.inl ⟨c,by omega,by omega⟩⟩
   ·rw[if_neg (by rw[bF];omega)];exact⟨0,L.length,rfl,by omega,.inr ⟨by omega,rfl,rfl⟩⟩
  rw[hb];simp only[aa];have hNc:∀c,lo≤c→c<hi→c<L.length∧P.length+L.length≤N -1 -(P.length+c)∧N -1 -(P.length+c)<P.length+L.length+R.length∧P.length+c<N:=by
   intro c YZ Nf;rcases hw with hw |hw<;>omega
  have hhi:hi≤L.length:=by rcases hw with hw |hw<;>omega
  obtain⟨p,p0,p1,p2,p3,p4⟩:=QL (n:=n) uQ (Rf:=ay n k) (z1:=(P.length:Int)) (z2:=((P.length+L.length:Nat):Int)) (z3:=((P.length+L.length+R.length:Nat):Int)) (z4:=(mid:Int)) (N:=N) (lo:=lo) (hi:=hi) hL hR hv hx hl hNc n lo hi (aA _) hlh (aA _) (by omega) (by omega) (by omega) (fun c _ _ hc Nf=>by omega) (fun c _ _ hc Nf=>by omega);rw[p2];simp only[aa];rw[aN (x:=(N:Int) -((P.length+p:Nat):Int))];obtain⟨en,hen⟩:∃en,en=N -(P.length+p):=⟨_,rfl⟩;have aIH:P.length+L.length≤en∧en≤P.length+L.length+R.length∧P.length+p+en=N:=by rcases hw with hw |hw<;>omega
  rw[show(N:Int) -((P.length+p:Nat):Int)=(en:Int)by omega,fM];simp only[aa];obtain⟨L1,L2,hLe,hL1⟩:∃L1 L2,L=L1++L2∧L1.length=p:=⟨L.take p,L.drop p,(cH _ _).symm,by rw[aC];omega⟩;obtain⟨R1,R2,hRe,hR1⟩:∃R1 R2,R=R1++R2∧R1.length=en -(P.length+L.length):=⟨R.take (en -(P.length+L.length)),R.drop (en -(P.length+L.length)),(cH _ _).symm,by rw[aC];omega⟩;have hlL:L.length=L1.length+L2.length:=by rw[hLe,ag]
  have hlR:R.length=R1.length+R2.length:=by rw[hRe,ag]
  have sL:=qo.1 (by rw[hLe]at hL;exact hL);have sR:=qo.1 (by rw[hRe]at hR;exact hR);have x1:∀x∈L1,∀y∈R2,wg K x y:=by
   intro x hxm;refine ans sR.2.1 fun y hy=> ?_;refine anr sL.1 (fun z hz=> ?_) x hxm;have hp0:0<L1.length:=List.length_pos_of_mem hxm;have hR2:0<R2.length:=by
    match R2,hy with
    |a::R2,_=>simp
   have hlp:lo<p:=by
    rcases hw with hw |hw
    ·apply Decidable.byContradiction;intro hc;have:p=lo:=by omega
     omega
    ·omega
   have YZ:p -1<L.length:=by omega
   obtain⟨f1,f2,f3,f4⟩:=hNc (p -1) (by omega) (by omega);have hidx:N -1 -(P.length+(p -1)) -(P.length+L.length)=R1.length:=by omega
   have hd1:N -1 -(P.length+(p -1)) -(P.length+L.length)<R.length:=by omega
   have h9:=p3 (p -1) YZ hd1 (by omega) (by omega);have e1:L[p -1]=z:=by
    have:L[p -1]? =some z:=by
     rw[hLe,aQ (by omega),←hz,List.getLast?_eq_getElem?,hL1]
    rw[ah YZ]at this;exact Option.some.inj this
   have e2:R[N -1 -(P.length+(p -1)) -(P.length+L.length)]=y:=by
    have:R[N -1 -(P.length+(p -1)) -(P.length+L.length)]? =some y:=by
     rw[hidx,hRe,bh (aA _),Nat.sub_self,←hy,List.head?_eq_getElem?]
    rw[ah hd1]at this;exact Option.some.inj this
   rw[e1,e2]at h9;exact h9
  have x2:∀x∈R1,∀y∈L2,wg K x y:=by
   intro x hxm;refine ans sL.2.1 fun y hy=> ?_;refine anr sR.1 (fun z hz=> ?_) x hxm;have hp0:0<R1.length:=List.length_pos_of_mem hxm;have hL2:0<L2.length:=by
    match L2,hy with
    |a::L2,_=>simp
   have hlp:p<hi:=by
    rcases hw with hw |hw
    ·apply Decidable.byContradiction;intro hc;have:p=hi:=by omega
     omega
    ·omega
   have YZ:p<L.length:=by omega
   obtain⟨f1,f2,f3,f4⟩:=hNc p p0 hlp;have hidx:N -1 -(P.length+p) -(P.length+L.length)=R1.length -1:=by omega
   have hd1:N -1 -(P.length+p) -(P.length+L.length)<R.length:=by omega
   have h9:=p4 p YZ hd1 (aA _) hlp;have e1:L[p]=y:=by
    have:L[p]? =some y:=by
     rw[hLe,bh (by omega),hL1,Nat.sub_self,←hy,List.head?_eq_getElem?]
    rw[ah YZ]at this;exact Option.some.inj this
   have e2:R[N -1 -(P.length+p) -(P.length+L.length)]=z:=by
    have:R[N -1 -(P.length+p) -(P.length+L.length)]? =some z:=by
     rw[hidx,hRe,aQ (by omega),←hz,List.getLast?_eq_getElem?]
    rw[ah hd1]at this;exact Option.some.inj this
   rw[e1,e2]at h9;have hym:y∈L:=by rw[←e1];exact ak YZ
   have hzm:z∈R:=by rw[←e2];exact ak hd1
   have hlt:=hx y hym z hzm;apply Decidable.byContradiction;intro Nf;apply h9;unfold wg at Nf ⊢;omega
  have aqE:P++(L++(R++S))=(P++L1)++(L2++(R1++(R2++S))):=by rw[hLe,hRe];simp
  have aEj:(av (decide (((P.length+p:Nat):Int)<((P.length+L.length:Nat):Int))&&decide (((P.length+L.length:Nat):Int)<(en:Int)))
      (((ct n (some (0,0,V),((P.length+p:Nat):Int),((P.length+L.length:Nat):Int),(en:Int),(K,())) ([some (P++(L++(R++S)))],()) ())).bind fun v10=>
      some (some (0,0,V),(P.length:Int),((P.length+L.length+R.length:Nat):Int),(K,()),(mid:Int),((P.length+p:Nat):Int),(en:Int),v10.2))
      (some (some (0,0,V),(P.length:Int),((P.length+L.length+R.length:Nat):Int),(K,()),(mid:Int),((P.length+p:Nat):Int),(en:Int),[some (P++(L++(R++S)))],())))=
     some (some (0,0,V),(P.length:Int),((P.length+L.length+R.length:Nat):Int),(K,()),(mid:Int),((P.length+p:Nat):Int),(en:Int),[some ((P++L1)++(R1++(L2++(R2++S))))],()):=by
   rw[af]
   by_cases c:0<L2.length∧0<R1.length
   ·rw[if_pos (by rw[aj,bF,bF];omega),aqE];rw[rotate (P:=P++L1) (U:=L2) (W:=R1) (S:=R2++S) uQ hn (by rw[ag,hL1]) (by rw[ag];omega) (by rw[ag];omega) c.1 c.2 (by rw[←aqE];exact hl)];rfl
   ·rw[if_neg (by rw[aj,bF,bF];omega),aqE];have:L2++(R1++(R2++S))=R1++(L2++(R2++S)):=by
     by_cases c1:L2.length=0
     ·have:L2=[]:=List.length_eq_zero_iff.1 c1;subst this;simp
     ·have:R1=[]:=List.length_eq_zero_iff.1 (by omega);subst this;simp
    rw[this]
  rw[aEj];simp only[aa];rw[fM];simp only[aa];have hl3:((P++L1)++(R1++(L2++(R2++S)))).length=V:=by rw[←hl,aqE];simp only[ag];omega
  have hm1:∃M1,(av (decide ((P.length:Int)<((P.length+p:Nat):Int))&&decide (((P.length+p:Nat):Int)<(mid:Int)))
      (((ay n k (some (0,0,V),(P.length:Int),((P.length+p:Nat):Int),(mid:Int),(K,())) ([some ((P++L1)++(R1++(L2++(R2++S))))],()) ())).bind fun EL=>
      some (some (0,0,V),((P.length+L.length+R.length:Nat):Int),(K,()),(mid:Int),(en:Int),EL.2))
      (some (some (0,0,V),((P.length+L.length+R.length:Nat):Int),(K,()),(mid:Int),(en:Int),[some ((P++L1)++(R1++(L2++(R2++S))))],())))=
     some (some (0,0,V),((P.length+L.length+R.length:Nat):Int),(K,()),(mid:Int),(en:Int),[some (P++(M1++(L2++(R2++S))))],())∧M1.Perm (L1++R1)∧Ia K M1:=by
   rw[af];have e5:(P++L1)++(R1++(L2++(R2++S)))=P++(L1++(R1++(L2++(R2++S)))):=by simp
   by_cases c:0<L1.length∧0<R1.length
   ·rw[if_pos (by rw[aj,bF,bF];omega),e5];obtain⟨M1,a1,a2,a3⟩:=UG uQ hn k L1 R1 P (L2++(R2++S)) (by omega) c.1 c.2 sL.1 sR.1 (fun z hz=>by
     rcases List.mem_append.1 hz with hz |hz
     ·exact hv z (by rw[hLe];simp[hz])
     ·exact hv z (by rw[hRe];simp[hz])) (fun a ha b hb=>hx a (by rw[hLe];exact aR _ ha) b (by rw[hRe];exact aR _ hb)) (by rw[←e5];exact hl3)
    rw[hL1,show P.length+p+R1.length=mid by omega]at a1;rw[a1];exact⟨M1,rfl,a2,a3⟩
   ·rw[if_neg (by rw[aj,bF,bF];omega)];refine⟨L1++R1,by simp,List.Perm.refl _,?_⟩
    by_cases c1:L1.length=0
    ·have:L1=[]:=List.length_eq_zero_iff.1 c1;subst this;simpa using sR.1
    ·have:R1=[]:=List.length_eq_zero_iff.1 (by omega);subst this;simpa using sL.1
  obtain⟨M1,m1,m2,m3⟩:=hm1;rw[m1];simp only[aa];rw[fM];simp only[aa];have hM1:M1.length=L1.length+R1.length:=by rw[m2.length_eq,ag]
  have hPM:(P++M1).length=mid:=by rw[ag];omega
  have e6:P++(M1++(L2++(R2++S)))=(P++M1)++(L2++(R2++S)):=by simp
  have hl4:((P++M1)++(L2++(R2++S))).length=V:=by rw[ag,hPM];simp only[ag]at hl3 ⊢;omega
  have hm2:∃M2,(av (decide ((mid:Int)<(en:Int))&&decide ((en:Int)<((P.length+L.length+R.length:Nat):Int)))
      (((ay n k (some (0,0,V),(mid:Int),(en:Int),((P.length+L.length+R.length:Nat):Int),(K,())) ([some (P++(M1++(L2++(R2++S))))],()) ())).bind fun v16=>some v16.2)
      (some ([some (P++(M1++(L2++(R2++S))))],())))=some ([some (P++((M1++M2)++S))],())∧M2.Perm (L2++R2)∧Ia K M2:=by
   rw[af]
   by_cases c:0<L2.length∧0<R2.length
   ·rw[if_pos (by rw[aj,bF,bF];omega),e6];obtain⟨M2,a1,a2,a3⟩:=UG uQ hn k L2 R2 (P++M1) S (by omega) c.1 c.2 sL.2.1 sR.2.1 (fun z hz=>by
     rcases List.mem_append.1 hz with hz |hz
     ·exact hv z (by rw[hLe];simp[hz])
     ·exact hv z (by rw[hRe];simp[hz])) (fun a ha b hb=>hx a (by rw[hLe];exact bo _ ha) b (by rw[hRe];exact bo _ hb)) hl4
    rw[hPM,show mid+L2.length=en by omega,show en+R2.length=P.length+L.length+R.length by omega]at a1;rw[a1];exact⟨M2,by simp,a2,a3⟩
   ·rw[if_neg (by rw[aj,bF,bF];omega)];refine⟨L2++R2,by simp,List.Perm.refl _,?_⟩
    by_cases c1:L2.length=0
    ·have:L2=[]:=List.length_eq_zero_iff.1 c1;subst this;simpa using sR.2.1
    ·have:R2=[]:=List.length_eq_zero_iff.1 (by omega);subst this;simpa using sL.2.1
  obtain⟨M2,n1,n2,n3⟩:=hm2;rw[n1];simp only[aa];have Q3:=arP (l:=K) (L1:=L1) (L2:=L2) (R1:=R1) (R2:=R2) (by rw[←hLe];exact hL) (by rw[←hRe];exact hR) x1 x2 m2 n2 m3 n3;exact⟨M1++M2,rfl,by rw[hLe,hRe];exact Q3.1,Q3.2⟩
end Go.Am.Pu
