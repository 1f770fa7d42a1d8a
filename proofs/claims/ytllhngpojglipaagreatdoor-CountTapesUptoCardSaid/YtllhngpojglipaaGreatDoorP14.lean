import Derived.Test.YtllhngpojglipaaGreatDoorP1
import Derived.Test.YtllhngpojglipaaGreatDoorP13
import Derived.Test.YtllhngpojglipaaGreatDoorP7
set_option linter.unusedVariables false
set_option linter.unusedSimpArgs false
open List renaming append_assoc→bn,dropLast_concat_getLast→bQ,getElem?_eq_none→bx,length_append→ag,length_cons→aZ,length_drop→dI,length_nil→dz,length_set→aP,length_take→aC,mem_append_left→aR,mem_append_right→bo,mem_cons_of_mem→aF,mem_cons_self→aH,nil_append→bE,take_append_drop→cH
open Nat renaming zero_add→dN
open Option renaming bind_some→aa
namespace Go.Am.Pu
open Go Go.Am
def wg(l:List Int)(a b:Int):Prop:=l.getD b.toNat 0<l.getD a.toNat 0∨(l.getD a.toNat 0=l.getD b.toNat 0∧a<b)
instance (l:List Int) (a b:Int):Decidable (wg l a b):=by unfold wg;exact inferInstance
theorem wg.trans{l:List Int}{a b c:Int}(h1:wg l a b)(h2:wg l b c):wg l a c:=by unfold wg at*;omega
theorem wg.asymm{l:List Int}{a b:Int}(h1:wg l a b):¬ wg l b a:=by unfold wg at*;omega
theorem wg.irr{l:List Int}{a:Int}:¬ wg l a a:=by unfold wg;omega
theorem arO{l:List Int}{a b:Int}(h:a<b):¬ wg l b a→wg l a b:=by unfold wg;omega
theorem azc{l:List Int}{a b:Int}(h:a<b):wg l b a↔l.getD a.toNat 0<l.getD b.toNat 0:=by unfold wg;omega
def Ia(l:List Int)(o:List Int):Prop:=o.Pairwise (wg l)
theorem qo{l X Y:List Int}:Ia l (X++Y)↔Ia l X∧Ia l Y∧∀x∈X,∀y∈Y,wg l x y:=List.pairwise_append
theorem afu{l:List Int}:∀{o p:List Int},Ia l o→Ia l p→o.Perm p→o=p
 |[],p,_,_,h=>(List.perm_nil.1 h.symm).symm
 |a::o,[],_,_,h=>(List.perm_nil.1 h)
 |a::o,b::p,ho,hp,h=>by
  have h1:=List.pairwise_cons.1 ho;have h2:=List.pairwise_cons.1 hp;have hab:a=b:=by
   have ha:a∈b::p:=h.subset aH;have hb:b∈a::o:=h.symm.subset aH;rcases List.mem_cons.1 ha with ha |ha
   ·exact ha
   ·rcases List.mem_cons.1 hb with hb |hb
    ·exact hb.symm
    ·exact absurd (h1.1 b hb) (h2.1 a ha).asymm
  subst hab;rw[afu h1.2 h2.2 (List.Perm.cons_inv h)]
def places(n:Nat):List Int:=(List.range n).map Int.ofNat
def Cd(l:List Int)(o:List Int):Prop:=o.Perm (places l.length)∧Ia l o
theorem apB{l o p:List Int}(h1:Cd l o)(h2:Cd l p):o=p:=afu h1.2 h2.2 (h1.1.trans h2.1.symm)
theorem Ce{n:Nat}{x:Int}:x∈places n↔0≤x∧x<n:=by
 unfold places;rw[List.mem_map];constructor
 ·rintro⟨a,h,rfl⟩;have:=List.mem_range.1 h;exact⟨by simp,by simpa using this⟩
 ·intro h;exact⟨x.toNat,List.mem_range.2 (by omega),by simp;omega⟩
theorem n9{n:Nat}:(places n).length=n:=by simp[places]
theorem apC{n:Nat}:(places n).Pairwise (·<·):=by
 unfold places;rw[List.pairwise_map];exact List.Pairwise.imp (fun h=>by simpa using h) List.pairwise_lt_range
theorem Cd.len{l o:List Int}(h:Cd l o):o.length=l.length:=by rw[h.1.length_eq,n9]
theorem Cd.mem{l o:List Int}(h:Cd l o){x:Int}(hx:x∈o):0≤x∧x<l.length:=Ce.1 (h.1.subset hx)
theorem arP{l L1 L2 R1 R2:List Int}(hL:Ia l (L1++L2))(hR:Ia l (R1++R2))
  (h1:∀x∈L1,∀y∈R2,wg l x y) (h2:∀x∈R1,∀y∈L2,wg l x y) {X Y:List Int}
  (hX:X.Perm (L1++R1)) (hY:Y.Perm (L2++R2)) (sX:Ia l X) (sY:Ia l Y):(X++Y).Perm ((L1++L2)++(R1++R2))∧Ia l (X++Y):=by
 have a:=qo.1 hL;have b:=qo.1 hR;constructor
 ·refine(hX.append hY).trans ?_;rw[bn,bn];refine List.Perm.append_left _ ?_;rw[←bn,←bn];exact List.Perm.append_right _ List.perm_append_comm
 ·refine qo.2 ⟨sX,sY,fun x hx y hy=> ?_⟩;have hx:=List.mem_append.1 (hX.subset hx);have hy:=List.mem_append.1 (hY.subset hy);rcases hx with hx |hx<;>rcases hy with hy |hy
  ·exact a.2.2 x hx y hy
  ·exact h1 x hx y hy
  ·exact h2 x hx y hy
  ·exact b.2.2 x hx y hy
theorem M9{β:Type}{l:List Int}{V:Nat}{I:Int}{i:Nat}{x:Int}(hV:l.length=V)(hI:I=(i:Int))(hx:l[i]? =some x)(f:Nat→List Int→Int→Option β):
  ((ck I V).bind fun v2=>(fP [some l] 0).bind fun v3=>(nth v3 (0+v2)).bind fun v4=>f v2 v3 v4)=f i l x:=by
 have hi:i<l.length:=by
  apply Decidable.byContradiction;intro h;rw[bx (by omega)]at hx
  cases hx
 rw[hI,ej];simp only[aa];rw[show fP [some l] 0=some l from rfl];simp only[aa,dN];rw[show nth l i=some x from hx];rfl
theorem wrL{β:Type}{l:List Int}{i:Nat}{v:Int}(f:List (Option (List Int))→Option β):((vn [some l] 0 (l.set (0+i) v)).bind fun v3=>f v3)=f [some (l.set i v)]:=by
 rw[dN];rfl
theorem pZ{α:Type}{P T:List α}{x:α}{i:Nat}(hi:i=P.length):(P++x::T)[i]? =some x:=by subst hi;simp
theorem sm{α:Type}{P T:List α}{x y:α}{i:Nat}(hi:i=P.length):(P++x::T).set i y=P++y::T:=by subst hi;simp
theorem Mw{n V:Nat}(uQ:V≤1000000){a b c:Nat}:∀(X Y P M S:List Int) (i k:Nat),X.length=Y.length→i+X.length=c→P.length=a+i→P.length+X.length+M.length=b+i→X.length<k→(P++(X++(M++(Y++S)))).length=V→
  cN n k (some (0,0,V),(a:Int),(b:Int),(c:Int),(i:Int),[some (P++(X++(M++(Y++S))))],())=some ([some (P++(Y++(M++(X++S))))],())
 |[],Y,P,M,S,i,k,h1,h2,h3,h4,h5,h6=>by
  obtain⟨k,rfl⟩:=iY k;have:Y=[]:=List.length_eq_zero_iff.1 (by simpa using h1.symm);subst this;rw[fx,af,if_neg (by rw[bF];simp at h2;omega)]
 |x::X,[],P,M,S,i,k,h1,_,_,_,_,_=>by simp at h1
 |x::X,y::Y,P,M,S,i,k,h1,h2,h3,h4,h5,h6=>by
  obtain⟨k,rfl⟩:=iY k;have hlx:(x::X).length=X.length+1:=rfl;have hly:(y::Y).length=Y.length+1:=rfl;rw[hlx]at h1 h2 h4 h5;rw[hly]at h1;have hV:P.length+(X.length+1)+M.length+(Y.length+1)+S.length=V:=by
   rw[←h6];simp only[ag,aZ];omega
  rw[fx,jK];simp only[aa];have e1:(P++((x::X)++(M++((y::Y)++S))))=(P++(x::X)++M)++y::(Y++S):=by simp
  have e2:(P++((x::X)++(M++((y::Y)++S))))=P++x::(X++(M++((y::Y)++S))):=by simp
  have a1:(P++((x::X)++(M++((y::Y)++S))))[b+i]? =some y:=by rw[e1];exact pZ (by simp;omega)
  have a2:(P++((x::X)++(M++((y::Y)++S))))[a+i]? =some x:=by rw[e2];exact pZ (by omega)
  have w1:(P++((x::X)++(M++((y::Y)++S)))).set (a+i) y=P++y::(X++(M++((y::Y)++S))):=by rw[e2];exact sm (by omega)
  have e3:P++y::(X++(M++((y::Y)++S)))=(P++y::X++M)++y::(Y++S):=by simp
  have a3:(P++y::(X++(M++((y::Y)++S))))[b+i]? =some y:=by rw[e3];exact pZ (by simp;omega)
  have w2:(P++y::(X++(M++((y::Y)++S)))).set (b+i) x=(P++y::X++M)++x::(Y++S):=by rw[e3];exact sm (by simp;omega)
  rw[M9 (i:=b+i) h6 (by rw[aN];omega) a1,M9 (i:=a+i) h6 (by rw[aN];omega) a2];rw[M9 (i:=a+i) h6 (by rw[aN];omega) a2,wrL,w1];have h7:(P++y::(X++(M++((y::Y)++S)))).length=V:=by rw[←w1,aP];exact h6
  rw[M9 (i:=b+i) h7 (by rw[aN];omega) a3,wrL,w2];rw[aN,show(i:Int)+1=((i+1:Nat):Int)by omega];have e4:(P++y::X++M)++x::(Y++S)=(P++[y])++(X++((M++[x])++(Y++S))):=by simp
  rw[e4];have hr:=Mw (n:=n) uQ (a:=a) (b:=b) (c:=c) X Y (P++[y]) (M++[x]) S (i+1) k (by omega) (by omega) (by simp;omega) (by simp;omega) (by omega) (by rw[←e4];simp only[ag,aZ];omega);rw[hr];simp
theorem Xj{n V:Nat}(uQ:V≤1000000)(hn:2000000000≤n){X Y P M S K:List Int}{A B C:Int}(h1:X.length=Y.length)(hA:A=(P.length:Int))(hB:B=((P.length+X.length+M.length:Nat):Int))(hC:C=(X.length:Int))(h6:(P++(X++(M++(Y++S)))).length=V):
  bL n (some (0,0,V),A,B,C,(K,())) ([some (P++(X++(M++(Y++S))))],()) ()=some ((),[some (P++(Y++(M++(X++S))))],()):=by
 subst hA hB hC;rw[lH];have:=Mw (n:=n) uQ (a:=P.length) (b:=P.length+X.length+M.length) (c:=X.length) X Y P M S 0 n h1 (by omega) (by omega) (by omega) (by simp only[ag]at h6;omega) h6;rw[show((0:Nat):Int)=0 from rfl]at this;rw[this];rfl
theorem Mx{n V:Nat}(uQ:V≤1000000)(hn:2000000000≤n){K:List Int}{m:Nat}:∀(k:Nat) (P U W S:List Int),P.length+U.length=m→0<U.length→0<W.length→U.length+W.length<k→(P++(U++(W++S))).length=V→
  ∃P' U' W' S',dj n k (some (0,0,V),(m:Int),(K,()),(U.length:Int),(W.length:Int),[some (P++(U++(W++S)))],())=some (some (0,0,V),(m:Int),(K,()),(U'.length:Int),[some (P'++(U'++(W'++S')))],())∧
   U'.length=W'.length∧P'.length+U'.length=m∧P'++(W'++(U'++S'))=P++(W++(U++S))∧(P'++(U'++(W'++S'))).length=V
 |0,P,U,W,S,_,_,_,h,_=>by omega
 |k+1,P,U,W,S,h1,h2,h3,h4,h5=>by
  have hV:P.length+U.length+W.length+S.length=V:=by rw[←h5];simp only[ag];omega
  rw[mc,af]
  by_cases c:U.length=W.length
  ·rw[if_neg (by simp[c])];exact⟨P,U,W,S,rfl,c,h1,rfl,h5⟩
  rw[if_pos (by simp;omega),af]
  by_cases d:U.length>W.length
  ·rw[if_pos (by rw[bF];omega)];obtain⟨U1,U2,rfl,hU1⟩:∃U1 U2,U=U1++U2∧U1.length=W.length:=⟨U.take W.length,U.drop W.length,(cH _ _).symm,by rw[aC];omega⟩;rw[ag]at h1 h2 h4 d c hV;have e1:P++((U1++U2)++(W++S))=P++(U1++(U2++(W++S))):=by simp
   rw[e1]at h5 ⊢;rw[Xj (X:=U1) (Y:=W) (P:=P) (M:=U2) (S:=S) uQ hn hU1 (by rw[ag,aN];omega) (by omega) (by omega) h5];simp only[aa];rw[ag,aN,show(((U1.length+U2.length:Nat):Int) -(W.length:Int))=(U2.length:Int)by omega,show(W.length:Int)=(U1.length:Int)by omega];have e2:P++(W++(U2++(U1++S)))=(P++W)++(U2++(U1++S)):=by simp
   rw[e2];obtain⟨P',U',W',S',r1,r2,r3,r4,r5⟩:=Mx uQ hn (K:=K) (m:=m) k (P++W) U2 U1 S (by rw[ag];omega) (by omega) (by omega) (by omega) (by simp only[ag];omega);exact⟨P',U',W',S',r1,r2,r3,by rw[r4];simp,r5⟩
  ·rw[if_neg (by rw[bF];omega)];obtain⟨W1,W2,rfl,hW2⟩:∃W1 W2,W=W1++W2∧W2.length=U.length:=⟨W.take (W.length -U.length),W.drop (W.length -U.length),(cH _ _).symm,by rw[dI];omega⟩;rw[ag]at h3 h4 d c hV;have e1:P++(U++((W1++W2)++S))=P++(U++(W1++(W2++S))):=by simp
   rw[e1]at h5 ⊢;rw[Xj (X:=U) (Y:=W2) (P:=P) (M:=W1) (S:=S) uQ hn hW2.symm (by rw[aN];omega) (by rw[ag,aN (x:=(m:Int)+((W1.length+W2.length:Nat):Int)),aN];omega) rfl h5];simp only[aa];rw[ag,aN,show(((W1.length+W2.length:Nat):Int) -(U.length:Int))=(W1.length:Int)by omega,show(U.length:Int)=(W2.length:Int)by omega];obtain⟨P',U',W',S',r1,r2,r3,r4,r5⟩:=Mx uQ hn (K:=K) (m:=m) k P W2 W1 (U++S) (by omega) (by omega) (by omega) (by omega) (by simp only[ag];omega);exact⟨P',U',W',S',r1,r2,r3,by rw[r4];simp,r5⟩
theorem rotate{n V:Nat}(uQ:V≤1000000)(hn:2000000000≤n){K P U W S:List Int}{A M B:Int}(hA:A=(P.length:Int))(hM:M=((P.length+U.length:Nat):Int))(hB:B=((P.length+U.length+W.length:Nat):Int))(h2:0<U.length)(h3:0<W.length)(h5:(P++(U++(W++S))).length=V):
  ct n (some (0,0,V),A,M,B,(K,())) ([some (P++(U++(W++S)))],()) ()=some ((),[some (P++(W++(U++S)))],()):=by
 have hV:P.length+U.length+W.length+S.length=V:=by rw[←h5];simp only[ag];omega
 subst hA hM hB;rw[nd,aN,aN,show((P.length+U.length:Nat):Int) -(P.length:Int)=(U.length:Int)by omega,show((P.length+U.length+W.length:Nat):Int) -((P.length+U.length:Nat):Int)=(W.length:Int)by omega];obtain⟨P',U',W',S',r1,r2,r3,r4,r5⟩:=Mx (n:=n) uQ hn (K:=K) (m:=P.length+U.length) n P U W S rfl h2 h3 (by omega) h5;rw[r1];simp only[aa];have hV':P'.length+U'.length+W'.length+S'.length=V:=by rw[←r5];simp only[ag];omega
 have e:P'++(U'++(W'++S'))=P'++(U'++([]++(W'++S'))):=by simp
 rw[e]at r5 ⊢;rw[Xj (X:=U') (Y:=W') (P:=P') (M:=[]) (S:=S') uQ hn r2 (by rw[aN];omega) (by simp;omega) rfl r5];simp only[aa];rw[←r4];simp
def Val(K l:List Int):Prop:=∀x∈l,0≤x∧x<(K.length:Int)
theorem Val.perm{K l m:List Int}(h:Val K l)(p:m.Perm l):Val K m:=fun x hx=>h x (p.subset hx)
theorem Val.left{K l m:List Int}(h:Val K (l++m)):Val K l:=fun x hx=>h x (aR _ hx)
theorem Val.right{K l m:List Int}(h:Val K (l++m)):Val K m:=fun x hx=>h x (bo _ hx)
def ky(K:List Int)(x:Int):Int:=K.getD x.toNat 0
theorem UE{n:Nat}{K:List Int}{a b:Int}(ha:0≤a∧a<(K.length:Int))(hb:0≤b∧b<(K.length:Int)):∃c,kx n (a,b,K)=some c∧decide (c<0)=decide (ky K b<ky K a):=by
 rw[Tp];have e1:idx K b=some (ky K b):=by
  have:=qC (l:=K) (i:=b.toNat) (by omega) 0;rw[show(b.toNat:Int)=b by omega]at this;exact this
 have e2:idx K a=some (ky K a):=by
  have:=qC (l:=K) (i:=a.toNat) (by omega) 0;rw[show(a.toNat:Int)=a by omega]at this;exact this
 rw[e1,e2];simp only[aa];rw[HO,xK,xK];simp only[aa,bne_self_eq_false,cg];rw[af]
 by_cases c:ky K b<ky K a
 ·rw[if_pos (by simpa using c)];exact⟨_,rfl,by rw[decide_eq_true c];rfl⟩
 ·rw[if_neg (by simpa using c),af]
  split
  ·exact⟨_,rfl,by rw[decide_eq_false c];rfl⟩
  ·exact⟨_,rfl,by rw[decide_eq_false c];rfl⟩
theorem apD{K:List Int}{a b:Int}(h:a<b):wg K b a↔ky K a<ky K b:=azc h
theorem UF{K:List Int}{a b:Int}(h:a<b):wg K a b↔¬ ky K a<ky K b:=by unfold wg ky;omega
theorem afv{n V:Nat}(uQ:V≤1000000){K:List Int}{a z1:Nat}{z2:Int}{P S:List Int}{x:Int}(hP:P.length=a)(hx:0≤x∧x<(K.length:Int)):∀(m k:Nat) (D1 D2:List Int),D1.length=m→m<k→Val K D1→(P++(D1++(x::(D2++S)))).length=V→
  ∃Da Db,cn n k (some (0,0,V),(a:Int),z2,(K,()),(z1:Int),((a+D1.length:Nat):Int),[some (P++(D1++(x::(D2++S))))],())=some (some (0,0,V),(a:Int),z2,(K,()),(z1:Int),[some (P++(Da++(x::(Db++(D2++S)))))],())∧
   D1=Da++Db∧(∀d∈Db,ky K d<ky K x)∧(∀d,Da.getLast? =some d→¬ ky K d<ky K x)
 |0,k,D1,D2,h1,h2,h3,h4=>by
  obtain⟨k,rfl⟩:=iY k;have:D1=[]:=List.length_eq_zero_iff.1 h1;subst this;rw[eL,af,if_neg (by rw[bF];simp)];exact⟨[],[],by simp[av],rfl,fun d hd=>(by cases hd),fun d hd=>(by cases hd)⟩
 |m+1,k,D1,D2,h1,h2,h3,h4=>by
  obtain⟨k,rfl⟩:=iY k;obtain⟨D,d,rfl⟩:∃D d,D1=D++[d]:=by
   have:D1≠[]:=by intro h;rw[h]at h1;simp at h1
   exact⟨_,_,(bQ this).symm⟩
  have hD:D.length=m:=by simpa using h1
  have hd:=h3 d (by simp);have hV:P.length+D.length+1+1+D2.length+S.length=V:=by rw[←h4];simp only[ag,aZ,dz];omega
  rw[eL,af,if_pos (by rw[bF];simp;omega)];simp only[aa];have e0:P++((D++[d])++(x::(D2++S)))=(P++D)++d::(x::(D2++S)):=by simp
  have e1:P++((D++[d])++(x::(D2++S)))=(P++(D++[d]))++x::(D2++S):=by simp
  have i1:(P++((D++[d])++(x::(D2++S))))[a+(D++[d]).length]? =some x:=by rw[e1];exact pZ (by simp;omega)
  have i2:(P++((D++[d])++(x::(D2++S))))[a+D.length]? =some d:=by rw[e0];exact pZ (by rw[ag];omega)
  have hl1:(D++[d]).length=D.length+1:=by simp
  rw[M9 (i:=a+(D++[d]).length) h4 rfl i1,M9 (i:=a+D.length) h4 (by rw[aN];omega) i2];obtain⟨c,c1,c2⟩:=UE (n:=n) hx hd;rw[c1];simp only[aa];rw[c2,af]
  by_cases hc:ky K d<ky K x
  ·rw[if_pos (by simpa using hc)];have w1:(P++((D++[d])++(x::(D2++S)))).set (a+(D++[d]).length) d=(P++D)++d::(d::(D2++S)):=by rw[e1,sm (by simp;omega)];simp
   have sQ:((P++D)++d::(d::(D2++S))).length=V:=by rw[←w1,aP];exact h4
   have i3:((P++D)++d::(d::(D2++S)))[a+D.length]? =some d:=pZ (by rw[ag];omega)
   have w2:((P++D)++d::(d::(D2++S))).set (a+D.length) x=(P++D)++x::(d::(D2++S)):=sm (by rw[ag];omega);rw[M9 (i:=a+D.length) h4 (by rw[aN];omega) i2,M9 (i:=a+(D++[d]).length) h4 rfl i1,M9 (i:=a+(D++[d]).length) h4 rfl i1,wrL,w1];rw[M9 (i:=a+D.length) sQ (by rw[aN];omega) i3,wrL,w2];rw[aN,show((a+(D++[d]).length:Nat):Int) -1=((a+D.length:Nat):Int)by omega];have e5:(P++D)++x::(d::(D2++S))=P++(D++(x::((d::D2)++S))):=by simp
   rw[e5];obtain⟨Da,Db,r1,r2,r3,r4⟩:=afv (n:=n) uQ (z1:=z1) (z2:=z2) hP hx m k D (d::D2) hD (by omega) (fun y hy=>h3 y (aR _ hy)) (by rw[←e5,←w2,aP];exact sQ);refine⟨Da,Db++[d],?_,?_,?_,r4⟩
   ·rw[r1];simp
   ·rw[r2];simp
   ·intro y hy;rcases List.mem_append.1 hy with hy |hy
    ·exact r3 y hy
    ·have:y=d:=by simpa using hy
     rw[this];exact hc
  ·rw[if_neg (by simpa using hc)];refine⟨D++[d],[],by simp,by simp,fun y hy=>(by cases hy),fun y hy=> ?_⟩;have:y=d:=by simpa using hy.symm
   rw[this];exact hc
theorem afw{K Da Db:List Int}{x:Int}(hs:Ia K (Da++Db))(hlt:∀y∈Da++Db,y<x)(hb:∀d∈Db,ky K d<ky K x)(ha:∀d,Da.getLast? =some d→¬ ky K d<ky K x):Ia K (Da++x::Db):=by
 have h:=qo.1 hs;have hax:∀d∈Da,wg K d x:=by
  intro d hd;have hne:Da≠[]:=by intro h0;rw[h0]at hd;cases hd
  obtain⟨A,z,rfl⟩:∃A z,Da=A++[z]:=⟨_,_,(bQ hne).symm⟩;have hz:wg K z x:=(UF (hlt z (by simp))).2 (ha z (by simp));rcases List.mem_append.1 hd with hd |hd
  ·exact((qo.1 h.1).2.2 d hd z (by simp)).trans hz
  ·have:d=z:=by simpa using hd
   rw[this];exact hz
 refine qo.2 ⟨h.1,List.pairwise_cons.2 ⟨fun d hd=>(apD (hlt d (bo _ hd))).2 (hb d hd),h.2.1⟩,fun d hd y hy=> ?_⟩;rcases List.mem_cons.1 hy with rfl |hy
 ·exact hax d hd
 ·exact h.2.2 d hd y hy
theorem My{n V:Nat}(uQ:V≤1000000)(hn:2000000000≤n){K:List Int}{a b:Nat}{P S:List Int}(hP:P.length=a):∀(T:List Int) (k:Nat) (D:List Int),T.length<k→a+D.length+T.length=b→Ia K D→Val K (D++T)→(D++T).Pairwise (·<·)∨(T.Pairwise (·<·)∧∀x∈D,∀y∈T,x<y)→(P++(D++(T++S))).length=V→
  ∃D',bM n k (some (0,0,V),(a:Int),(b:Int),(K,()),((a+D.length:Nat):Int),[some (P++(D++(T++S)))],())=some ([some (P++(D'++S))],())∧D'.Perm (D++T)∧Ia K D'
 |[],k,D,h1,h2,h3,h4,h5,h6=>by
  obtain⟨k,rfl⟩:=iY k;simp only[dz]at h2;rw[dp,sS];exact⟨D,by simp,by simp,h3⟩
 |x::T,k,D,h1,h2,h3,h4,h5,h6=>by
  obtain⟨k,rfl⟩:=iY k;have hlT:(x::T).length=T.length+1:=rfl;rw[hlT]at h1 h2;have aEf:T.Pairwise (·<·)∧(∀d∈D,d<x)∧(∀y∈T,x<y)∧∀d∈D,∀y∈T,d<y:=by
   have h:(x::T).Pairwise (·<·)∧∀d∈D,∀y∈x::T,d<y:=by
    rcases h5 with h |h
    ·have:=List.pairwise_append.1 h;exact⟨this.2.1,this.2.2⟩
    ·exact h
   have h7:=List.pairwise_cons.1 h.1;exact⟨h7.2,fun d hd=>h.2 d hd x aH,h7.1,fun d hd y hy=>h.2 d hd y (aF _ hy)⟩
  obtain⟨o1,o2,o3,o4⟩:=aEf;have hV:P.length+D.length+(T.length+1)+S.length=V:=by rw[←h6];simp only[ag,aZ];omega
  rw[dp,jK];obtain⟨Da,Db,r1,r2,r3,r4⟩:=afv (n:=n) uQ (z1:=a+D.length) (z2:=(b:Int)) (S:=T++S) hP (h4 x (by simp)) D.length n D [] rfl (by omega) (fun y hy=>h4 y (aR _ hy)) (by simpa using h6);rw[bE]at r1;rw[show P++(D++((x::T)++S))=P++(D++(x::(T++S)))from rfl,r1];simp only[aa];rw[aN];have hs:=afw (x:=x) (by rw[←r2];exact h3) (by rw[←r2];exact o2) r3 r4;have abs:(Da++x::Db).Perm (x::D):=by rw[r2];exact List.perm_middle
  have hlen:(Da++x::Db).length=D.length+1:=by rw[abs.length_eq];rfl
  have e:P++(Da++(x::(Db++(T++S))))=P++((Da++x::Db)++(T++S)):=by simp
  rw[e,show((a+D.length:Nat):Int)+1=((a+(Da++x::Db).length:Nat):Int)by omega];obtain⟨D',q1,q2,q3⟩:=My (n:=n) (V:=V) (a:=a) (b:=b) (S:=S) uQ hn hP T k (Da++x::Db) (by omega) (by omega) hs (fun y hy=>by
    rcases List.mem_append.1 hy with hy |hy
    ·rcases List.mem_cons.1 (abs.subset hy)with rfl |hy
     ·exact h4 _ (by simp)
     ·exact h4 _ (aR _ hy)
    ·exact h4 _ (by simp[hy])) (.inr ⟨o1,fun y hy z hz=>by
    rcases List.mem_cons.1 (abs.subset hy)with rfl |hy
    ·exact o3 z hz
    ·exact o4 y hy z hz⟩) (by rw[ag,ag,hlen,ag];omega)
  refine⟨D',q1,q2.trans ?_,q3⟩;refine(List.Perm.append_right T abs).trans ?_;show(x::(D++T)).Perm (D++x::T);exact List.perm_middle.symm
theorem insertionSort{n V:Nat}(uQ:V≤1000000)(hn:2000000000≤n){K P L S:List Int}{A B:Int}(hA:A=(P.length:Int))(hB:B=((P.length+L.length:Nat):Int))(hv:Val K L)(ho:L.Pairwise (·<·))(h6:(P++(L++S)).length=V):
  ∃M,bR n (some (0,0,V),A,B,(K,())) ([some (P++(L++S))],()) ()=some ((),[some (P++(M++S))],())∧M.Perm L∧Ia K M:=by
 have hV:P.length+L.length+S.length=V:=by rw[←h6];simp only[ag];omega
 subst hA hB;rw[ko,aN]
 match L,hv,ho,h6,hV with
 |[],hv,ho,h6,hV=>
  obtain⟨n',hn'⟩:∃j,n=j+1:=⟨n -1,by omega⟩;have e:bM n n (some (0,0,V),(P.length:Int),((P.length+([]:List Int).length:Nat):Int),(K,()),(P.length:Int)+1,[some (P++([]++S))],())=some ([some (P++([]++S))],()):=by
   conv=>lhs;arg 2;rw[hn']
   rw[dp,af,if_neg (by rw[bF];simp;omega)]
  rw[e];exact⟨[],rfl,List.Perm.refl _,List.Pairwise.nil⟩
 |x::L,hv,ho,h6,hV=>
  have hlL:(x::L).length=L.length+1:=rfl;rw[hlL]at hV;have h7:=List.pairwise_cons.1 ho;obtain⟨D',q1,q2,q3⟩:=My (n:=n) uQ hn (K:=K) (a:=P.length) (b:=P.length+(x::L).length) (P:=P) (S:=S) rfl L n [x] (by omega) (by simp;omega) (List.pairwise_singleton _ _) hv (.inl ho) (by simpa using h6);have e:((P.length+[x].length:Nat):Int)=(P.length:Int)+1:=by simp
  rw[e]at q1;have e2:P++([x]++(L++S))=P++((x::L)++S):=by simp
  rw[e2]at q1;rw[q1];exact⟨D',rfl,q2,q3⟩
end Go.Am.Pu
