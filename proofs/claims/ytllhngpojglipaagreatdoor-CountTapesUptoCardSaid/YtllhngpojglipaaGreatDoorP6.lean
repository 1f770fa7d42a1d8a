import Derived.Test.YtllhngpojglipaaGreatDoorP1
import Derived.Test.YtllhngpojglipaaGreatDoorP5
import Derived.Test.YtllhngpojglipaaGreatDoorP4
set_option linter.unusedVariables false
set_option linter.unusedSimpArgs false
open Bool renaming and_eq_true→ak,or_eq_true→aD
open Int renaming emod_lt_of_pos→dz,emod_nonneg→e9,mul_ediv_add_emod→dN,mul_le_mul_of_nonneg_right→bP,mul_le_mul→dA,mul_nonneg→cp,toNat_natCast→ax
open Go.IntKind renaming wrap→ae
open List renaming append_assoc→bo,append_nil→cG,dropLast_concat_getLast→bL,drop_eq_getElem_cons→bi,drop_of_length_le→bA,drop_zero→dy,flatten_cons→ea,getElem?_append_left→aP,getElem?_append_right→bc,getElem?_eq_getElem→ai,getElem?_eq_none→bd,getElem?_set_ne→dq,getElem_mem→am,getElem_of_mem→aM,length_append→ah,length_cons→bg,length_drop→dE,length_map→dc,length_nil→dr,length_replicate→aU,length_set→aO,length_singleton→bZ,length_take→aC,length→af,map_append→eu,map_cons→cb,mem_append_left→aS,mem_append_right→bp,mem_cons_of_mem→aG,mem_cons_self→aH,mem_of_mem_take→cS,mem_or_eq_of_mem_set→ee,nil_append→bC,replicate_succ→cH,replicate→ao,sum_cons→cO,take_add_one→dK,take_append_drop→bM,take_length→ch,take_of_length_le→aR,take_zero→eW
open Nat renaming add_sub_cancel_left→eL,le_refl→az,zero_add→dJ
open Option renaming bind_some→aa
namespace Go.Am.Pu
open Go Go.Am
def vl(l:List Int)(a b:Int):Prop:=l.getD b.toNat 0<l.getD a.toNat 0∨(l.getD a.toNat 0=l.getD b.toNat 0∧a<b)
instance (l:List Int) (a b:Int):Decidable (vl l a b):=by unfold vl;exact inferInstance
theorem vl.trans{l:List Int}{a b c:Int}(i:vl l a b)(j:vl l b c):vl l a c:=by unfold vl at*;omega
theorem vl.asymm{l:List Int}{a b:Int}(i:vl l a b):¬ vl l b a:=by unfold vl at*;omega
theorem vl.irr{l:List Int}{a:Int}:¬ vl l a a:=by unfold vl;omega
theorem apW{l:List Int}{a b:Int}(h:a<b):¬ vl l b a→vl l a b:=by unfold vl;omega
theorem awv{l:List Int}{a b:Int}(h:a<b):vl l b a↔l.getD a.toNat 0<l.getD b.toNat 0:=by unfold vl;omega
def Hm(l:List Int)(o:List Int):Prop:=o.Pairwise (vl l)
theorem pM{l X Y:List Int}:Hm l (X++Y)↔Hm l X∧Hm l Y∧∀x∈X,∀y∈Y,vl l x y:=List.pairwise_append
theorem aez{l:List Int}:∀{o p:List Int},Hm l o→Hm l p→o.Perm p→o=p
 |[],p,_,_,h=>(List.perm_nil.1 h.symm).symm
 |a::o,[],_,_,h=>(List.perm_nil.1 h)
 |a::o,b::p,j,k,h=>by
  have g:=List.pairwise_cons.1 j;have i:=List.pairwise_cons.1 k;have e:a=b:=by
   have c:a∈b::p:=h.subset aH;have d:b∈a::o:=h.symm.subset aH;rcases List.mem_cons.1 c with c |c
   ·exact c
   ·rcases List.mem_cons.1 d with d |d
    ·exact d.symm
    ·exact absurd (g.1 b d) (i.1 a c).asymm
  subst e;rw[aez g.2 i.2 (List.Perm.cons_inv h)]
def places(n:Nat):List Int:=(List.range n).map Int.ofNat
def Bq(l:List Int)(o:List Int):Prop:=o.Perm (places l.length)∧Hm l o
theorem anY{l o p:List Int}(a:Bq l o)(b:Bq l p):o=p:=aez a.2 b.2 (a.1.trans b.1.symm)
theorem Br{n:Nat}{x:Int}:x∈places n↔0≤x∧x<n:=by
 unfold places;rw[List.mem_map];constructor
 ·rintro⟨a,h,rfl⟩;have:=List.mem_range.1 h;exact⟨by simp,by simpa using this⟩
 ·intro h;exact⟨x.toNat,List.mem_range.2 (by omega),by simp;omega⟩
theorem nz{n:Nat}:(places n).length=n:=by simp[places]
theorem anZ{n:Nat}:(places n).Pairwise (·<·):=by
 unfold places;rw[List.pairwise_map];exact List.Pairwise.imp (fun h=>by simpa using h) List.pairwise_lt_range
theorem Bq.len{l o:List Int}(h:Bq l o):o.length=l.length:=by rw[h.1.length_eq,nz]
theorem Bq.mem{l o:List Int}(h:Bq l o){x:Int}(hx:x∈o):0≤x∧x<l.length:=Br.1 (h.1.subset hx)
theorem apX{l L1 L2 R1 R2:List Int}(j:Hm l (L1++L2))(k:Hm l (R1++R2))
  (h:∀x∈L1,∀y∈R2,vl l x y) (i:∀x∈R1,∀y∈L2,vl l x y) {X Y:List Int}
  (e:X.Perm (L1++R1)) (g:Y.Perm (L2++R2)) (n:Hm l X) (o:Hm l Y):(X++Y).Perm ((L1++L2)++(R1++R2))∧Hm l (X++Y):=by
 have a:=pM.1 j;have b:=pM.1 k;constructor
 ·refine(e.append g).trans ?_;rw[bo,bo];refine List.Perm.append_left _ ?_;rw[←bo,←bo];exact List.Perm.append_right _ List.perm_append_comm
 ·refine pM.2 ⟨n,o,fun x c y d=> ?_⟩;have c:=List.mem_append.1 (e.subset c);have d:=List.mem_append.1 (g.subset d);rcases c with c |c<;>rcases d with d |d
  ·exact a.2.2 x c y d
  ·exact h x c y d
  ·exact i x c y d
  ·exact b.2.2 x c y d
theorem rdL{β:Type}{l:List Int}{V:Nat}{I:Int}{i:Nat}{x:Int}(e:l.length=V)(c:I=(i:Int))(hx:l[i]? =some x)(f:Nat→List Int→Int→Option β):
  ((ck I V).bind fun a=>(fA [some l] 0).bind fun b=>(nth b (0+a)).bind fun d=>f a b d)=f i l x:=by
 have g:i<l.length:=by
  apply Decidable.byContradiction;intro h;rw[bd (by omega)]at hx
  cases hx
 rw[c,dO];simp only[aa];rw[show fA [some l] 0=some l from rfl];simp only[aa,dJ];rw[show nth l i=some x from hx];rfl
theorem wrL{β:Type}{l:List Int}{i:Nat}{v:Int}(f:List (Option (List Int))→Option β):((uG [some l] 0 (l.set (0+i) v)).bind fun a=>f a)=f [some (l.set i v)]:=by
 rw[dJ];rfl
theorem p9{α:Type}{P T:List α}{x:α}{i:Nat}(hi:i=P.length):(P++x::T)[i]? =some x:=by subst hi;simp
theorem rE{α:Type}{P T:List α}{x y:α}{i:Nat}(hi:i=P.length):(P++x::T).set i y=P++y::T:=by subst hi;simp
theorem LJ{n V:Nat}(h:V≤1000000){a b c:Nat}:∀(X Y P M S:List Int) (i k:Nat),X.length=Y.length→i+X.length=c→P.length=a+i→P.length+X.length+M.length=b+i→X.length<k→(P++(X++(M++(Y++S)))).length=V→
  cJ n k (some (0,0,V),(a:Int),(b:Int),(c:Int),(i:Int),[some (P++(X++(M++(Y++S))))],())=some ([some (P++(Y++(M++(X++S))))],())
 |[],Y,P,M,S,i,k,d,g,E,t,u,e=>by
  obtain⟨k,rfl⟩:=gU k;have:Y=[]:=List.length_eq_zero_iff.1 (by simpa using d.symm);subst this;rw[fa,ag,if_neg (by rw[bx];simp at g;omega)]
 |x::X,[],P,M,S,i,k,d,_,_,_,_,_=>by simp at d
 |x::X,y::Y,P,M,S,i,k,d,g,E,t,u,e=>by
  obtain⟨k,rfl⟩:=gU k;have j:(x::X).length=X.length+1:=rfl;have l:(y::Y).length=Y.length+1:=rfl;rw[j]at d g t u;rw[l]at d;have J:P.length+(X.length+1)+M.length+(Y.length+1)+S.length=V:=by
   rw[←e];simp only[ah,bg];omega
  rw[fa,bP0];simp only[aa];have D:(P++((x::X)++(M++((y::Y)++S))))=(P++(x::X)++M)++y::(Y++S):=by simp
  have p:(P++((x::X)++(M++((y::Y)++S))))=P++x::(X++(M++((y::Y)++S))):=by simp
  have z:(P++((x::X)++(M++((y::Y)++S))))[b+i]? =some y:=by rw[D];exact p9 (by simp;omega)
  have o:(P++((x::X)++(M++((y::Y)++S))))[a+i]? =some x:=by rw[p];exact p9 (by omega)
  have w:(P++((x::X)++(M++((y::Y)++S)))).set (a+i) y=P++y::(X++(M++((y::Y)++S))):=by rw[p];exact rE (by omega)
  have q:P++y::(X++(M++((y::Y)++S)))=(P++y::X++M)++y::(Y++S):=by simp
  have B:(P++y::(X++(M++((y::Y)++S))))[b+i]? =some y:=by rw[q];exact p9 (by simp;omega)
  have I:(P++y::(X++(M++((y::Y)++S)))).set (b+i) x=(P++y::X++M)++x::(Y++S):=by rw[q];exact rE (by simp;omega)
  rw[rdL (i:=b+i) e (by rw[aN];omega) z,rdL (i:=a+i) e (by rw[aN];omega) o];rw[rdL (i:=a+i) e (by rw[aN];omega) o,wrL,w];have F:(P++y::(X++(M++((y::Y)++S)))).length=V:=by rw[←w,aO];exact e
  rw[rdL (i:=b+i) F (by rw[aN];omega) B,wrL,I];rw[aN,show(i:Int)+1=((i+1:Nat):Int)by omega];have r:(P++y::X++M)++x::(Y++S)=(P++[y])++(X++((M++[x])++(Y++S))):=by simp
  rw[r];have H:=LJ (n:=n) h (a:=a) (b:=b) (c:=c) X Y (P++[y]) (M++[x]) S (i+1) k (by omega) (by omega) (by simp;omega) (by simp;omega) (by omega) (by rw[←r];simp only[ah,bg];omega);rw[H];simp
theorem Wy{n V:Nat}(d:V≤1000000)(k:Hn0 n){X Y P M S K:List Int}{A B C:Int}(g:X.length=Y.length)(h:A=(P.length:Int))(i:B=((P.length+X.length+M.length:Nat):Int))(j:C=(X.length:Int))(e:(P++(X++(M++(Y++S)))).length=V):
  bI n (some (0,0,V),A,B,C,(K,())) ([some (P++(X++(M++(Y++S))))],()) ()=some ((),[some (P++(Y++(M++(X++S))))],()):=by
 subst h i j;rw[la];have:=LJ (n:=n) d (a:=P.length) (b:=P.length+X.length+M.length) (c:=X.length) X Y P M S 0 n g (by omega) (by omega) (by omega) (by simp only[ah]at e;omega) e;rw[show((0:Nat):Int)=0 from rfl]at this;rw[this];rfl
theorem LK{n V:Nat}(g:V≤1000000)(p:Hn0 n){K:List Int}{m:Nat}:∀(k:Nat) (P U W S:List Int),P.length+U.length=m→0<U.length→0<W.length→U.length+W.length<k→(P++(U++(W++S))).length=V→
  ∃i a j l,dg n k (some (0,0,V),(m:Int),(K,()),(U.length:Int),(W.length:Int),[some (P++(U++(W++S)))],())=some (some (0,0,V),(m:Int),(K,()),(a.length:Int),[some (i++(a++(j++l)))],())∧
   a.length=j.length∧i.length+a.length=m∧i++(j++(a++l))=P++(W++(U++S))∧(i++(a++(j++l))).length=V
 |0,P,U,W,S,_,_,_,h,_=>by omega
 |k+1,P,U,W,S,B,H,I,D,o=>by
  have E:P.length+U.length+W.length+S.length=V:=by rw[←o];simp only[ah];omega
  rw[lF,ag]
  by_cases c:U.length=W.length
  ·rw[if_neg (by simp[c])];exact⟨P,U,W,S,rfl,c,B,rfl,o⟩
  rw[if_pos (by simp;omega),ag]
  by_cases d:U.length>W.length
  ·rw[if_pos (by rw[bx];omega)];obtain⟨U1,U2,rfl,r⟩:∃U1 U2,U=U1++U2∧U1.length=W.length:=⟨U.take W.length,U.drop W.length,(bM _ _).symm,by rw[aC];omega⟩;rw[ah]at B H D d c E;have q:P++((U1++U2)++(W++S))=P++(U1++(U2++(W++S))):=by simp
   rw[q]at o ⊢;rw[Wy (X:=U1) (Y:=W) (P:=P) (M:=U2) (S:=S) g p r (by rw[ah,aN];omega) (by omega) (by omega) o];simp only[aa];rw[ah,aN,show(((U1.length+U2.length:Nat):Int) -(W.length:Int))=(U2.length:Int)by omega,show(W.length:Int)=(U1.length:Int)by omega];have F:P++(W++(U2++(U1++S)))=(P++W)++(U2++(U1++S)):=by simp
   rw[F];obtain⟨i,a,j,l,r1,u,w,y,z⟩:=LK g p (K:=K) (m:=m) k (P++W) U2 U1 S (by rw[ah];omega) (by omega) (by omega) (by omega) (by simp only[ah];omega);exact⟨i,a,j,l,r1,u,w,by rw[y];simp,z⟩
  ·rw[if_neg (by rw[bx];omega)];obtain⟨e,b,rfl,t⟩:∃e b,W=e++b∧b.length=U.length:=⟨W.take (W.length -U.length),W.drop (W.length -U.length),(bM _ _).symm,by rw[dE];omega⟩;rw[ah]at I D d c E;have q:P++(U++((e++b)++S))=P++(U++(e++(b++S))):=by simp
   rw[q]at o ⊢;rw[Wy (X:=U) (Y:=b) (P:=P) (M:=e) (S:=S) g p t.symm (by rw[aN];omega) (by rw[ah,aN (x:=(m:Int)+((e.length+b.length:Nat):Int)),aN];omega) rfl o];simp only[aa];rw[ah,aN,show(((e.length+b.length:Nat):Int) -(U.length:Int))=(e.length:Int)by omega,show(U.length:Int)=(b.length:Int)by omega];obtain⟨i,a,j,l,r1,u,w,y,z⟩:=LK g p (K:=K) (m:=m) k P b e (U++S) (by omega) (by omega) (by omega) (by omega) (by simp only[ah];omega);exact⟨i,a,j,l,r1,u,w,by rw[y];simp,z⟩
theorem rotate{n V:Nat}(a:V≤1000000)(j:Hn0 n){K P U W S:List Int}{A M B:Int}(o:A=(P.length:Int))(q:M=((P.length+U.length:Nat):Int))(p:B=((P.length+U.length+W.length:Nat):Int))(k:0<U.length)(l:0<W.length)(i:(P++(U++(W++S))).length=V):
  ct n (some (0,0,V),A,M,B,(K,())) ([some (P++(U++(W++S)))],()) ()=some ((),[some (P++(W++(U++S)))],()):=by
 have w:P.length+U.length+W.length+S.length=V:=by rw[←i];simp only[ah];omega
 subst o q p;rw[mD,aN,aN,show((P.length+U.length:Nat):Int) -(P.length:Int)=(U.length:Int)by omega,show((P.length+U.length+W.length:Nat):Int) -((P.length+U.length:Nat):Int)=(W.length:Int)by omega];obtain⟨b,d,g,c,r1,t,x,u,h⟩:=LK (n:=n) a j (K:=K) (m:=P.length+U.length) n P U W S rfl k l (by omega) i;rw[r1];simp only[aa];have r:b.length+d.length+g.length+c.length=V:=by rw[←h];simp only[ah];omega
 have e:b++(d++(g++c))=b++(d++([]++(g++c))):=by simp
 rw[e]at h ⊢;rw[Wy (X:=d) (Y:=g) (P:=b) (M:=[]) (S:=c) a j t (by rw[aN];omega) (by simp;omega) rfl h];simp only[aa];rw[←u];simp
def Val(K l:List Int):Prop:=∀x∈l,0≤x∧x<(K.length:Int)
theorem Val.perm{K l m:List Int}(h:Val K l)(p:m.Perm l):Val K m:=fun x i=>h x (p.subset i)
theorem Val.left{K l m:List Int}(h:Val K (l++m)):Val K l:=fun x i=>h x (aS _ i)
theorem Val.right{K l m:List Int}(h:Val K (l++m)):Val K m:=fun x i=>h x (bp _ i)
def ky(K:List Int)(x:Int):Int:=K.getD x.toNat 0
theorem TH{n:Nat}{K:List Int}{a b:Int}(g:0≤a∧a<(K.length:Int))(h:0≤b∧b<(K.length:Int)):∃c,j6 n (a,b,K)=some c∧decide (c<0)=decide (ky K b<ky K a):=by
 rw[Ss];have d:idx K b=some (ky K b):=by
  have:=p6 (l:=K) (i:=b.toNat) (by omega) 0;rw[show(b.toNat:Int)=b by omega]at this;exact this
 have e:idx K a=some (ky K a):=by
  have:=p6 (l:=K) (i:=a.toNat) (by omega) 0;rw[show(a.toNat:Int)=a by omega]at this;exact this
 rw[d,e];simp only[aa];rw[GZ,w9,w9];simp only[aa,bne_self_eq_false,bU];rw[ag]
 by_cases c:ky K b<ky K a
 ·rw[if_pos (by simpa using c)];exact⟨_,rfl,by rw[decide_eq_true c];rfl⟩
 ·rw[if_neg (by simpa using c),ag]
  split
  ·exact⟨_,rfl,by rw[decide_eq_false c];rfl⟩
  ·exact⟨_,rfl,by rw[decide_eq_false c];rfl⟩
theorem an0{K:List Int}{a b:Int}(h:a<b):vl K b a↔ky K a<ky K b:=awv h
theorem TI{K:List Int}{a b:Int}(h:a<b):vl K a b↔¬ ky K a<ky K b:=by unfold vl ky;omega
theorem aeA{n V:Nat}(u:V≤1000000){K:List Int}{a z1:Nat}{z2:Int}{P S:List Int}{x:Int}(O:P.length=a)(hx:0≤x∧x<(K.length:Int)):∀(m k:Nat) (D1 b:List Int),D1.length=m→m<k→Val K D1→(P++(D1++(x::(b++S)))).length=V→
  ∃j l,cj n k (some (0,0,V),(a:Int),z2,(K,()),(z1:Int),((a+D1.length:Nat):Int),[some (P++(D1++(x::(b++S))))],())=some (some (0,0,V),(a:Int),z2,(K,()),(z1:Int),[some (P++(j++(x::(l++(b++S)))))],())∧
   D1=j++l∧(∀d∈l,ky K d<ky K x)∧(∀d,j.getLast? =some d→¬ ky K d<ky K x)
 |0,k,D1,b,o,M,t,g=>by
  obtain⟨k,rfl⟩:=gU k;have:D1=[]:=List.length_eq_zero_iff.1 o;subst this;rw[ey,ag,if_neg (by rw[bx];simp)];exact⟨[],[],by simp[av],rfl,fun d p=>(by cases p),fun d p=>(by cases p)⟩
 |m+1,k,D1,b,o,M,t,g=>by
  obtain⟨k,rfl⟩:=gU k;obtain⟨D,d,rfl⟩:∃D d,D1=D++[d]:=by
   have:D1≠[]:=by intro h;rw[h]at o;simp at o
   exact⟨_,_,(bL this).symm⟩
  have N:D.length=m:=by simpa using o
  have p:=t d (by simp);have X:P.length+D.length+1+1+b.length+S.length=V:=by rw[←g];simp only[ah,bg,dr];omega
  rw[ey,ag,if_pos (by rw[bx];simp;omega)];simp only[aa];have L:P++((D++[d])++(x::(b++S)))=(P++D)++d::(x::(b++S)):=by simp
  have z:P++((D++[d])++(x::(b++S)))=(P++(D++[d]))++x::(b++S):=by simp
  have w:(P++((D++[d])++(x::(b++S))))[a+(D++[d]).length]? =some x:=by rw[z];exact p9 (by simp;omega)
  have E:(P++((D++[d])++(x::(b++S))))[a+D.length]? =some d:=by rw[L];exact p9 (by rw[ah];omega)
  have Q:(D++[d]).length=D.length+1:=by simp
  rw[rdL (i:=a+(D++[d]).length) g rfl w,rdL (i:=a+D.length) g (by rw[aN];omega) E];obtain⟨c,I,J⟩:=TH (n:=n) hx p;rw[I];simp only[aa];rw[J,ag]
  by_cases r:ky K d<ky K x
  ·rw[if_pos (by simpa using r)];have F:(P++((D++[d])++(x::(b++S)))).set (a+(D++[d]).length) d=(P++D)++d::(d::(b++S)):=by rw[z,rE (by simp;omega)];simp
   have q:((P++D)++d::(d::(b++S))).length=V:=by rw[←F,aO];exact g
   have R:((P++D)++d::(d::(b++S)))[a+D.length]? =some d:=p9 (by rw[ah];omega)
   have H:((P++D)++d::(d::(b++S))).set (a+D.length) x=(P++D)++x::(d::(b++S)):=rE (by rw[ah];omega);rw[rdL (i:=a+D.length) g (by rw[aN];omega) E,rdL (i:=a+(D++[d]).length) g rfl w,rdL (i:=a+(D++[d]).length) g rfl w,wrL,F];rw[rdL (i:=a+D.length) q (by rw[aN];omega) R,wrL,H];rw[aN,show((a+(D++[d]).length:Nat):Int) -1=((a+D.length:Nat):Int)by omega];have B:(P++D)++x::(d::(b++S))=P++(D++(x::((d::b)++S))):=by simp
   rw[B];obtain⟨j,l,r1,T,U,W⟩:=aeA (n:=n) u (z1:=z1) (z2:=z2) O hx m k D (d::b) N (by omega) (fun y e=>t y (aS _ e)) (by rw[←B,←H,aO];exact q);refine⟨j,l++[d],?_,?_,?_,W⟩
   ·rw[r1];simp
   ·rw[T];simp
   ·intro y e;rcases List.mem_append.1 e with e |e
    ·exact U y e
    ·have:y=d:=by simpa using e
     rw[this];exact r
  ·rw[if_neg (by simpa using r)];refine⟨D++[d],[],by simp,by simp,fun y e=>(by cases e),fun y e=> ?_⟩;have:y=d:=by simpa using e.symm
   rw[this];exact r
theorem aeB{K b e:List Int}{x:Int}(p:Hm K (b++e))(c:∀y∈b++e,y<x)(o:∀d∈e,ky K d<ky K x)(n:∀d,b.getLast? =some d→¬ ky K d<ky K x):Hm K (b++x::e):=by
 have h:=pM.1 p;have g:∀d∈b,vl K d x:=by
  intro d a;have i:b≠[]:=by intro l;rw[l]at a;cases a
  obtain⟨A,z,rfl⟩:∃A z,b=A++[z]:=⟨_,_,(bL i).symm⟩;have k:vl K z x:=(TI (c z (by simp))).2 (n z (by simp));rcases List.mem_append.1 a with a |a
  ·exact((pM.1 h.1).2.2 d a z (by simp)).trans k
  ·have:d=z:=by simpa using a
   rw[this];exact k
 refine pM.2 ⟨h.1,List.pairwise_cons.2 ⟨fun d a=>(an0 (c d (bp _ a))).2 (o d a),h.2.1⟩,fun d a y j=> ?_⟩;rcases List.mem_cons.1 j with rfl |j
 ·exact g d a
 ·exact h.2.2 d a y j
theorem LL{n V:Nat}(p:V≤1000000)(N:Hn0 n){K:List Int}{a b:Nat}{P S:List Int}(L:P.length=a):∀(T:List Int) (k:Nat) (D:List Int),T.length<k→a+D.length+T.length=b→Hm K D→Val K (D++T)→(D++T).Pairwise (·<·)∨(T.Pairwise (·<·)∧∀x∈D,∀y∈T,x<y)→(P++(D++(T++S))).length=V→
  ∃o,bJ n k (some (0,0,V),(a:Int),(b:Int),(K,()),((a+D.length:Nat):Int),[some (P++(D++(T++S)))],())=some ([some (P++(o++S))],())∧o.Perm (D++T)∧Hm K o
 |[],k,D,H,t,u,l,I,w=>by
  obtain⟨k,rfl⟩:=gU k;simp only[dr]at t;rw[dl,bN0];exact⟨D,by simp,by simp,u⟩
 |x::T,k,D,H,t,u,l,I,w=>by
  obtain⟨k,rfl⟩:=gU k;have E:(x::T).length=T.length+1:=rfl;rw[E]at H t;have r:T.Pairwise (·<·)∧(∀d∈D,d<x)∧(∀y∈T,x<y)∧∀d∈D,∀y∈T,d<y:=by
   have h:(x::T).Pairwise (·<·)∧∀d∈D,∀y∈x::T,d<y:=by
    rcases I with h |h
    ·have:=List.pairwise_append.1 h;exact⟨this.2.1,this.2.2⟩
    ·exact h
   have J:=List.pairwise_cons.1 h.1;exact⟨J.2,fun d B=>h.2 d B x aH,J.1,fun d B y c=>h.2 d B y (aG _ c)⟩
  obtain⟨Q,R,U,W⟩:=r;have hV:P.length+D.length+(T.length+1)+S.length=V:=by rw[←w];simp only[ah,bg];omega
  rw[dl,bP0];obtain⟨i,j,r1,F,r3,r4⟩:=aeA (n:=n) p (z1:=a+D.length) (z2:=(b:Int)) (S:=T++S) L (l x (by simp)) D.length n D [] rfl (by omega) (fun y c=>l y (aS _ c)) (by simpa using w);rw[bC]at r1;rw[show P++(D++((x::T)++S))=P++(D++(x::(T++S)))from rfl,r1];simp only[aa];rw[aN];have O:=aeB (x:=x) (by rw[←F];exact u) (by rw[←F];exact R) r3 r4;have g:(i++x::j).Perm (x::D):=by rw[F];exact List.perm_middle
  have q:(i++x::j).length=D.length+1:=by rw[g.length_eq];rfl
  have e:P++(i++(x::(j++(T++S))))=P++((i++x::j)++(T++S)):=by simp
  rw[e,show((a+D.length:Nat):Int)+1=((a+(i++x::j).length:Nat):Int)by omega];obtain⟨o,X,Y,Z⟩:=LL (n:=n) (V:=V) (a:=a) (b:=b) (S:=S) p N L T k (i++x::j) (by omega) (by omega) O (fun y c=>by
    rcases List.mem_append.1 c with c |c
    ·rcases List.mem_cons.1 (g.subset c)with rfl |c
     ·exact l _ (by simp)
     ·exact l _ (aS _ c)
    ·exact l _ (by simp[c])) (.inr ⟨Q,fun y c z M=>by
    rcases List.mem_cons.1 (g.subset c)with rfl |c
    ·exact U z M
    ·exact W y c z M⟩) (by rw[ah,ah,q,ah];omega)
  refine⟨o,X,Y.trans ?_,Z⟩;refine(List.Perm.append_right T g).trans ?_;show(x::(D++T)).Perm (D++x::T);exact List.perm_middle.symm
theorem insertionSort{n V:Nat}(i:V≤1000000)(u:Hn0 n){K P L S:List Int}{A B:Int}(r:A=(P.length:Int))(t:B=((P.length+L.length:Nat):Int))(h:Val K L)(d:L.Pairwise (·<·))(c:(P++(L++S)).length=V):
  ∃M,bQ n (some (0,0,V),A,B,(K,())) ([some (P++(L++S))],()) ()=some ((),[some (P++(M++S))],())∧M.Perm L∧Hm K M:=by
 have g:P.length+L.length+S.length=V:=by rw[←c];simp only[ah];omega
 subst r t;rw[jX,aN]
 match L,h,d,c,g with
 |[],h,d,c,g=>
  obtain⟨D,l⟩:∃j,n=j+1:=⟨n -1,by omega⟩;have e:bJ n n (some (0,0,V),(P.length:Int),((P.length+([]:List Int).length:Nat):Int),(K,()),(P.length:Int)+1,[some (P++([]++S))],())=some ([some (P++([]++S))],()):=by
   conv=>lhs;arg 2;rw[l]
   rw[dl,ag,if_neg (by rw[bx];simp;omega)]
  rw[e];exact⟨[],rfl,List.Perm.refl _,List.Pairwise.nil⟩
 |x::L,h,d,c,g=>
  have k:(x::L).length=L.length+1:=rfl;rw[k]at g;have z:=List.pairwise_cons.1 d;obtain⟨p,o,w,y⟩:=LL (n:=n) i u (K:=K) (a:=P.length) (b:=P.length+(x::L).length) (P:=P) (S:=S) rfl L n [x] (by omega) (by simp;omega) (List.pairwise_singleton _ _) h (.inl d) (by simpa using c);have e:((P.length+[x].length:Nat):Int)=(P.length:Int)+1:=by simp
  rw[e]at o;have q:P++([x]++(L++S))=P++((x::L)++S):=by simp
  rw[q]at o;rw[o];exact⟨p,rfl,w,y⟩
abbrev ar8:=(Option (Nat×Nat×Nat)×Int×Int×Int×(List Int×Unit))→(List (Option (List Int))×Unit)→Unit→Option (Unit×List (Option (List Int))×Unit)
theorem half{i j:Nat}(h:i+j≤1000000000):ui .u64 (ae .u64 (ae .i64 ((i:Int)+(j:Int)))) 1=some (((i+j)/2:Nat):Int):=by
 rw[aN,Eb];have:=Tp (k:=.u64) (a:=(i:Int)+(j:Int)) (s:=1) (by decide);rw[show((1:Nat):Int)=1 from rfl]at this;rw[this];congr 1
theorem wz{K l:List Int}(h:Hm K l){i j:Nat}(hi:i<l.length)(b:j<l.length)(a:i<j):vl K l[i] l[j]:=List.pairwise_iff_getElem.1 h i j hi b a
theorem abf{P X T:List Int}{c:Nat}(a:c<X.length){i:Nat}(hi:i=P.length+c):(P++(X++T))[i]? =some X[c]:=by
 subst hi;rw[bc (by omega),eL,aP a,ai a]
theorem Hn{n V:Nat}(l:V≤1000000){Rf:ar8}{K P R S:List Int}{x:Int}(t:Hm K R)(u:Val K (x::R))(hx:∀y∈R,x<y)(o:(P++(x::(R++S))).length=V):∀(k i j:Nat),i≤j→j≤R.length→j -i<k→
  (∀c (b:c<R.length),c<i→vl K R[c] x)→(∀c (b:c<R.length),j≤c→¬ vl K R[c] x)→
  ∃p,p≤R.length∧cU n Rf k (some (0,0,V),(P.length:Int),(K,()),((P.length+1+i:Nat):Int),((P.length+1+j:Nat):Int),[some (P++(x::(R++S)))],())=some (some (0,0,V),(P.length:Int),((P.length+1+p:Nat):Int),[some (P++(x::(R++S)))],())∧
   (∀c (b:c<R.length),c<p→vl K R[c] x)∧(∀c (b:c<R.length),p≤c→¬ vl K R[c] x)
 |0,i,j,F,w,H,z,B=>by omega
 |k+1,i,j,F,w,H,z,B=>by
  have N:P.length+(R.length+S.length+1)=V:=by rw[←o];simp
  rw[ku,ag]
  by_cases c:i=j
  ·subst c;rw[if_neg (by rw[bx];omega)];exact⟨i,w,rfl,z,B⟩
  rw[if_pos (by rw[bx];omega),half (by omega)];simp only[aa];have b:(i+j)/2<R.length:=by omega
  have e:(P.length+1+i+(P.length+1+j))/2=P.length+1+(i+j)/2:=by omega
  rw[e,aN (x:=((P.length+1+(i+j)/2:Nat):Int))];have I:(P++(x::(R++S)))[P.length+1+(i+j)/2]? =some R[(i+j)/2]:=by
   have:=abf (P:=P++[x]) (X:=R) (T:=S) b (i:=P.length+1+(i+j)/2) (by simp);simpa using this
  have J:(P++(x::(R++S)))[P.length]? =some x:=p9 rfl
  rw[rdL (i:=P.length+1+(i+j)/2) o rfl I,rdL (i:=P.length) o rfl J];have E:=am b;obtain⟨q,L,M⟩:=TH (n:=n) (u _ (aG _ E)) (u x aH);rw[L];simp only[aa];rw[M,ag]
  by_cases r:ky K x<ky K R[(i+j)/2]
  ·have a:=(an0 (hx _ E)).2 r;rw[if_pos (by simpa using r)];simp only[aa];rw[aN,show((P.length+1+(i+j)/2:Nat):Int)+1=((P.length+1+((i+j)/2+1):Nat):Int)by omega];refine Hn l t u hx o k ((i+j)/2+1) j (by omega) w (by omega) (fun c d D=> ?_) B
   by_cases g:c=(i+j)/2
   ·subst g;exact a
   ·exact(wz t d b (by omega)).trans a
  ·have a:¬ vl K R[(i+j)/2] x:=fun h=>r ((an0 (hx _ E)).1 h);rw[if_neg (by simpa using r)];simp only[aa];refine Hn l t u hx o k i ((i+j)/2) (by omega) (by omega) (by omega) z (fun c d D=> ?_)
   by_cases g:c=(i+j)/2
   ·subst g;exact a
   ·exact fun h=>a ((wz t b d (by omega)).trans h)
theorem aeC{n V:Nat}(d:V≤1000000){Rf:ar8}{x:Int}{i:Nat}:∀(R1 P T:List Int) (k:Nat),P.length+1+R1.length=i→R1.length<k→(P++(x::(R1++T))).length=V→
  cV n Rf k (some (0,0,V),(i:Int),(P.length:Int),[some (P++(x::(R1++T)))],())=some ([some (P++(R1++(x::T)))],())
 |[],P,T,k,c,g,a=>by
  obtain⟨k,rfl⟩:=gU k;have p:P.length≤V:=by rw[←a];simp
  simp only[dr]at c;rw[agk,ag,if_neg (by rw[bx,aN];omega)];simp
 |r::R1,P,T,k,c,g,a=>by
  obtain⟨k,rfl⟩:=gU k;have e:(r::R1).length=R1.length+1:=rfl;rw[e]at c g;have p:P.length+(R1.length+1+T.length+1)=V:=by rw[←a];simp only[ah,bg]
  rw[agk,ag,if_pos (by rw[bx,aN];omega)];simp only[aa];have o:P++(x::((r::R1)++T))=(P++[x])++r::(R1++T):=by simp
  have t:(P++(x::((r::R1)++T)))[P.length+1]? =some r:=by rw[o];exact p9 (by simp)
  have h:(P++(x::((r::R1)++T)))[P.length]? =some x:=p9 rfl
  have j:(P++(x::((r::R1)++T))).set P.length r=(P++[r])++r::(R1++T):=by rw[rE rfl];simp
  have b:((P++[r])++r::(R1++T)).length=V:=by rw[←j,aO];exact a
  have u:((P++[r])++r::(R1++T))[P.length+1]? =some r:=p9 (by simp)
  have l:((P++[r])++r::(R1++T)).set (P.length+1) x=(P++[r])++(x::(R1++T)):=rE (by simp);rw[rdL (i:=P.length+1) a (by rw[aN];omega) t,rdL (i:=P.length) a rfl h,rdL (i:=P.length) a rfl h,wrL,j];rw[rdL (i:=P.length+1) b (by rw[aN];omega) u,wrL,l];have q:=aeC (n:=n) d (Rf:=Rf) (x:=x) (i:=i) R1 (P++[r]) T k (by simp;omega) (by omega) (by rw[←l,aO];exact b);rw[aN,show(P.length:Int)+1=((P++[r]).length:Int)by simp,q];simp
theorem LM{n V:Nat}(l:V≤1000000){Rf:ar8}{K P L S:List Int}{y:Int}(t:Hm K L)(u:Val K (y::L))(w:∀x∈L,x<y)(o:(P++(L++(y::S))).length=V):∀(k i j:Nat),i≤j→j≤L.length→j -i<k→
  (∀c (b:c<L.length),c<i→vl K L[c] y)→(∀c (b:c<L.length),j≤c→¬ vl K L[c] y)→
  ∃p,p≤L.length∧cK n Rf k (some (0,0,V),((P.length+L.length:Nat):Int),(K,()),((P.length+i:Nat):Int),((P.length+j:Nat):Int),[some (P++(L++(y::S)))],())=some (some (0,0,V),((P.length+L.length:Nat):Int),((P.length+p:Nat):Int),[some (P++(L++(y::S)))],())∧
   (∀c (b:c<L.length),c<p→vl K L[c] y)∧(∀c (b:c<L.length),p≤c→¬ vl K L[c] y)
 |0,i,j,H,z,I,B,D=>by omega
 |k+1,i,j,H,z,I,B,D=>by
  have Q:P.length+(L.length+(S.length+1))=V:=by rw[←o];simp
  rw[kh,ag]
  by_cases c:i=j
  ·subst c;rw[if_neg (by rw[bx];omega)];exact⟨i,z,rfl,B,D⟩
  rw[if_pos (by rw[bx];omega),half (by omega)];simp only[aa];have b:(i+j)/2<L.length:=by omega
  have e:(P.length+i+(P.length+j))/2=P.length+(i+j)/2:=by omega
  rw[e,aN (x:=((P.length+(i+j)/2:Nat):Int))];have J:(P++(L++(y::S)))[P.length+(i+j)/2]? =some L[(i+j)/2]:=abf b rfl
  have M:(P++(L++(y::S)))[P.length+L.length]? =some y:=by
   simp
  rw[rdL (i:=P.length+L.length) o rfl M,rdL (i:=P.length+(i+j)/2) o rfl J];have F:=am b;obtain⟨q,N,O⟩:=TH (n:=n) (u y aH) (u _ (aG _ F));rw[N];simp only[aa];rw[O,ag]
  by_cases r:ky K L[(i+j)/2]<ky K y
  ·have a:¬ vl K L[(i+j)/2] y:=fun h=>(TI (w _ F)).1 h r;rw[if_neg (by simpa using r)];simp only[aa];refine LM l t u w o k i ((i+j)/2) (by omega) (by omega) (by omega) B (fun c d E=> ?_)
   by_cases g:c=(i+j)/2
   ·subst g;exact a
   ·exact fun h=>a ((wz t b d (by omega)).trans h)
  ·have a:=(TI (w _ F)).2 r;rw[if_pos (by simpa using r)];simp only[aa];rw[aN,show((P.length+(i+j)/2:Nat):Int)+1=((P.length+((i+j)/2+1):Nat):Int)by omega];refine LM l t u w o k ((i+j)/2+1) j (by omega) z (by omega) (fun c d E=> ?_) D
   by_cases g:c=(i+j)/2
   ·subst g;exact a
   ·exact(wz t d b (by omega)).trans a
theorem ahu{n V:Nat}(e:V≤1000000){Rf:ar8}{y:Int}{P:List Int}:∀(m:Nat) (L2 T:List Int) (k:Nat),L2.length=m→m<k→(P++(L2++(y::T))).length=V→
  cM n Rf k (some (0,0,V),(P.length:Int),((P.length+L2.length:Nat):Int),[some (P++(L2++(y::T)))],())=some ([some (P++(y::(L2++T)))],())
 |0,L2,T,k,b,r,a=>by
  obtain⟨k,rfl⟩:=gU k;have:L2=[]:=List.length_eq_zero_iff.1 b;subst this;rw[fb,ag,if_neg (by rw[bx];simp)];simp
 |m+1,L2,T,k,b,r,a=>by
  obtain⟨k,rfl⟩:=gU k;obtain⟨D,d,rfl⟩:∃D d,L2=D++[d]:=by
   have:L2≠[]:=by intro h;rw[h]at b;simp at b
   exact⟨_,_,(bL this).symm⟩
  have t:D.length=m:=by simpa using b
  have g:(D++[d]).length=D.length+1:=by simp
  have z:P.length+(D.length+1+(T.length+1))=V:=by rw[←a,ah,ah,g];rfl
  rw[fb,bP0];simp only[aa];have q:P++((D++[d])++(y::T))=(P++D)++d::(y::T):=by simp
  have j:P++((D++[d])++(y::T))=(P++(D++[d]))++y::T:=by simp
  have l:(P++((D++[d])++(y::T)))[P.length+(D++[d]).length]? =some y:=by rw[j];exact p9 (by simp)
  have w:(P++((D++[d])++(y::T)))[P.length+D.length]? =some d:=by rw[q];exact p9 (by simp)
  have o:(P++((D++[d])++(y::T))).set (P.length+(D++[d]).length) d=(P++D)++d::(d::T):=by rw[j,rE (by simp)];simp
  have c:((P++D)++d::(d::T)).length=V:=by rw[←o,aO];exact a
  have x:((P++D)++d::(d::T))[P.length+D.length]? =some d:=p9 (by simp)
  have p:((P++D)++d::(d::T)).set (P.length+D.length) y=P++(D++(y::(d::T))):=by rw[rE (by simp)];simp
  rw[rdL (i:=P.length+D.length) a (by rw[aN];omega) w,rdL (i:=P.length+(D++[d]).length) a rfl l,rdL (i:=P.length+(D++[d]).length) a rfl l,wrL,o];rw[rdL (i:=P.length+D.length) c (by rw[aN];omega) x,wrL,p];have u:=ahu (n:=n) e (Rf:=Rf) (y:=y) (P:=P) m D (d::T) k t (by omega) (by rw[←p,aO];exact c);rw[aN,show((P.length+(D++[d]).length:Nat):Int) -1=((P.length+D.length:Nat):Int)by omega,u];simp
theorem PY{n V:Nat}(t:V≤1000000){Rf:ar8}{K P L R S:List Int}{z1 z2 z3 z4:Int}{N lo hi:Nat}(D:Hm K L)(E:Hm K R)(H:Val K (L++R))(hx:∀x∈L,∀y∈R,x<y)(u:(P++(L++(R++S))).length=V)
  (r:∀c,lo≤c→c<hi→c<L.length∧P.length+L.length≤N -1 -(P.length+c)∧N -1 -(P.length+c)<P.length+L.length+R.length∧P.length+c<N):∀(k i j:Nat),lo≤i→i≤j→j≤hi→hi≤1000000→N≤10000000→j -i<k→
  (∀c (Q:c<L.length) (b:N -1 -(P.length+c) -(P.length+L.length)<R.length),lo≤c→c<i→vl K L[c] R[N -1 -(P.length+c) -(P.length+L.length)])→
  (∀c (Q:c<L.length) (b:N -1 -(P.length+c) -(P.length+L.length)<R.length),j≤c→c<hi→¬ vl K L[c] R[N -1 -(P.length+c) -(P.length+L.length)])→
  ∃p,lo≤p∧p≤hi∧cN n Rf k (some (0,0,V),z1,z2,z3,(K,()),z4,(N:Int),((P.length+i:Nat):Int),((P.length+j:Nat):Int),(N:Int) -1,[some (P++(L++(R++S)))],())=some (some (0,0,V),z1,z2,z3,(K,()),z4,(N:Int),((P.length+p:Nat):Int),[some (P++(L++(R++S)))],())∧
   (∀c (Q:c<L.length) (b:N -1 -(P.length+c) -(P.length+L.length)<R.length),lo≤c→c<p→vl K L[c] R[N -1 -(P.length+c) -(P.length+L.length)])∧
   (∀c (Q:c<L.length) (b:N -1 -(P.length+c) -(P.length+L.length)<R.length),p≤c→c<hi→¬ vl K L[c] R[N -1 -(P.length+c) -(P.length+L.length)])
 |0,i,j,I,h1,J,Y,d,h3,M,O=>by omega
 |k+1,i,j,I,h1,J,Y,d,h3,M,O=>by
  have hV:P.length+(L.length+(R.length+S.length))=V:=by rw[←u];simp
  rw[ki,ag]
  by_cases c:i=j
  ·subst c;rw[if_neg (by rw[bx];omega)];exact⟨i,I,J,rfl,M,O⟩
  rw[if_pos (by rw[bx];omega),half (by omega)];simp only[aa];obtain⟨g1,g2,g3,g4⟩:=r ((i+j)/2) (by omega) (by omega);have e:(P.length+i+(P.length+j))/2=P.length+(i+j)/2:=by omega
  have b:N -1 -(P.length+(i+j)/2) -(P.length+L.length)<R.length:=by omega
  rw[e,aN (x:=((P.length+(i+j)/2:Nat):Int))];have i1:(P++(L++(R++S)))[P.length+(i+j)/2]? =some L[(i+j)/2]:=abf g1 rfl
  have i2:(P++(L++(R++S)))[N -1 -(P.length+(i+j)/2)]? =some R[N -1 -(P.length+(i+j)/2) -(P.length+L.length)]:=by
   have:=abf (P:=P++L) (X:=R) (T:=S) b (i:=N -1 -(P.length+(i+j)/2)) (by rw[ah];omega);simpa using this
  rw[rdL (i:=N -1 -(P.length+(i+j)/2)) u (by rw[aN];omega) i2,rdL (i:=P.length+(i+j)/2) u rfl i1];have z:=am g1;have B:=am b;obtain⟨q,q1,q2⟩:=TH (n:=n) (H _ (bp _ B)) (H _ (aS _ z));rw[q1];simp only[aa];rw[q2,ag];have w:=hx _ z _ B
  by_cases F:ky K L[(i+j)/2]<ky K R[N -1 -(P.length+(i+j)/2) -(P.length+L.length)]
  ·have a:=fun h=>(TI w).1 h F;rw[if_neg (by simpa using F)];simp only[aa];refine PY t D E H hx u r k i ((i+j)/2) I (by omega) (by omega) Y d (by omega) M (fun c g o W U=> ?_)
   by_cases l:c=(i+j)/2
   ·subst l;exact a
   ·intro h;obtain⟨f1,f2,f3,f4⟩:=r c (by omega) U;exact a ((wz D g1 g (by omega)).trans (h.trans (wz E o b (by omega))))
  ·have a:=(TI w).2 F;rw[if_pos (by simpa using F)];simp only[aa];rw[aN,show((P.length+(i+j)/2:Nat):Int)+1=((P.length+((i+j)/2+1):Nat):Int)by omega];refine PY t D E H hx u r k ((i+j)/2+1) j (by omega) (by omega) J Y d (by omega) (fun c g o Z W=> ?_) O
   by_cases l:c=(i+j)/2
   ·subst l;exact a
   ·obtain⟨f1,f2,f3,f4⟩:=r c Z (by omega);exact(wz D g g1 (by omega)).trans (a.trans (wz E b o (by omega)))
theorem alY{K A:List Int}{y:Int}(e:Hm K A)(h:∀x,A.getLast? =some x→vl K x y):∀x∈A,vl K x y:=by
 intro x a;have b:A≠[]:=by intro d;rw[d]at a;cases a
 obtain⟨B,z,rfl⟩:∃B z,A=B++[z]:=⟨_,_,(bL b).symm⟩;have c:=h z (by simp);rcases List.mem_append.1 a with a |a
 ·exact((pM.1 e).2.2 x a z (by simp)).trans c
 ·have:x=z:=by simpa using a
  rw[this];exact c
theorem alZ{K A:List Int}{x:Int}(c:Hm K A)(h:∀y,A.head? =some y→vl K x y):∀y∈A,vl K x y:=by
 intro y b
 match A,c,h,b with
 |a::A,c,h,b=>
  have d:=h a rfl;rcases List.mem_cons.1 b with rfl |b
  ·exact d
  ·exact d.trans ((List.pairwise_cons.1 c).1 y b)
theorem ahv{a b:List Int}{c:Nat}(d:c<a.length)(e:c<(a++b).length):(a++b)[c]=a[c]:=List.getElem_append_left d
theorem TJ{n V:Nat}(r:V≤1000000)(hn:Hn0 n){K:List Int}:∀(k:Nat) (L R P S:List Int),L.length+R.length<k→0<L.length→0<R.length→Hm K L→Hm K R→Val K (L++R)→(∀x∈L,∀y∈R,x<y)→(P++(L++(R++S))).length=V→
  ∃M,ay n k (some (0,0,V),(P.length:Int),((P.length+L.length:Nat):Int),((P.length+L.length+R.length:Nat):Int),(K,())) ([some (P++(L++(R++S)))],()) ()=some ((),[some (P++(M++S))],())∧M.Perm (L++R)∧Hm K M
 |0,L,R,P,S,h,_,_,_,_,_,_,_=>by omega
 |k+1,L,R,P,S,hk,h1,h2,Y,Z,I,J,H=>by
  have hV:P.length+(L.length+(R.length+S.length))=V:=by rw[←H];simp
  rw[lc];rw[aN (x:=((P.length+L.length:Nat):Int) -(P.length:Int)),ag]
  by_cases cL:L.length=1
  ·rw[if_pos (by rw[beq_iff_eq];omega)]
   match L,cL,Y,I,J,H,hV with
   |[x],_,Y,I,J,H,hV=>
    obtain⟨p,p1,p2,p3,p4⟩:=Hn (n:=n) r (Rf:=ay n k) (S:=S) (P:=P) Z I (fun y O=>J x (by simp) y O) H n 0 R.length (by omega) (az _) (by omega) (fun c _ E=>by omega) (fun c E t=>by omega);have e1:((P.length+[x].length:Nat):Int)=((P.length+1+0:Nat):Int):=rfl;have e2:((P.length+[x].length+R.length:Nat):Int)=((P.length+1+R.length:Nat):Int):=rfl;rw[e1,e2,show P++([x]++(R++S))=P++(x::(R++S))from rfl,p2];simp only[aa];obtain⟨R1,R2,rfl,hR1⟩:∃R1 R2,R=R1++R2∧R1.length=p:=⟨R.take p,R.drop p,(bM _ _).symm,by rw[aC];omega⟩;have e3:P++(x::((R1++R2)++S))=P++(x::(R1++(R2++S))):=by simp
    have hl':(P++(x::(R1++(R2++S)))).length=V:=by rw[←e3];exact H
    have hm:=aeC (n:=n) r (Rf:=ay n k) (x:=x) (i:=P.length+1+p) R1 P (R2++S) n (by omega) (by rw[ah]at hV;omega) hl';rw[e3,hm];refine⟨R1++x::R2,by simp,?_,?_⟩
    ·exact List.perm_middle
    ·have hs:=pM.1 Z;refine pM.2 ⟨hs.1,List.pairwise_cons.2 ⟨fun y O=> ?_,hs.2.1⟩,fun y O z hz=> ?_⟩
     ·obtain⟨c,E,rfl⟩:=aM O;have:=p4 (R1.length+c) (by rw[ah];omega) (by omega);rw[List.getElem_append_right (by omega)]at this;simp only[eL]at this;have hlt:=J x (by simp) R2[c] (by simp);exact apW hlt this
     ·rcases List.mem_cons.1 hz with rfl |hz
      ·obtain⟨c,E,rfl⟩:=aM O;have:=p3 c (by rw[ah];omega) (by omega);rw[ahv E]at this;exact this
      ·exact hs.2.2 y O z hz
  rw[if_neg (by rw[beq_iff_eq];omega),aN (x:=((P.length+L.length+R.length:Nat):Int) -((P.length+L.length:Nat):Int)),ag]
  by_cases cR:R.length=1
  ·rw[if_pos (by rw[beq_iff_eq];omega)]
   match R,cR,Z,I,J,H,hV with
   |[y],_,Z,I,J,H,hV=>
    obtain⟨p,p1,p2,p3,p4⟩:=LM (n:=n) r (Rf:=ay n k) (S:=S) (P:=P) (y:=y) Y (fun z hz=>by rcases List.mem_cons.1 hz with rfl |hz;exact I _ (by simp);exact I _ (aS _ hz)) (fun x X=>J x X y (by simp)) H n 0 L.length (by omega) (az _) (by omega) (fun c _ E=>by omega) (fun c E t=>by omega);rw[show(P.length+0:Nat)=P.length from rfl]at p2;rw[show P++(L++([y]++S))=P++(L++(y::S))from rfl,p2];simp only[aa];obtain⟨L1,L2,rfl,D⟩:∃L1 L2,L=L1++L2∧L1.length=p:=⟨L.take p,L.drop p,(bM _ _).symm,by rw[aC];omega⟩;have e3:P++((L1++L2)++(y::S))=(P++L1)++(L2++(y::S)):=by simp
    have hl':((P++L1)++(L2++(y::S))).length=V:=by rw[←e3];exact H
    have hm:=ahu (n:=n) r (Rf:=ay n k) (y:=y) (P:=P++L1) L2.length L2 S n rfl (by rw[ah]at hV;omega) hl';rw[ah,D]at hm;have e4:P.length+(L1++L2).length=P.length+p+L2.length:=by rw[ah];omega
    rw[e3,e4,hm];refine⟨L1++y::L2,by simp,?_,?_⟩
    ·show(L1++y::L2).Perm ((L1++L2)++[y]);rw[bo];exact List.Perm.append_left L1 (List.perm_append_singleton y L2).symm
    ·have hs:=pM.1 Y;refine pM.2 ⟨hs.1,List.pairwise_cons.2 ⟨fun z hz=> ?_,hs.2.1⟩,fun x X z hz=> ?_⟩
     ·obtain⟨c,E,rfl⟩:=aM hz;have:=p4 (L1.length+c) (by rw[ah];omega) (by omega);rw[List.getElem_append_right (by omega)]at this;simp only[eL]at this;have hlt:=J L2[c] (by simp) y (by simp);apply Decidable.byContradiction;intro t;apply this;unfold vl at t ⊢;omega
     ·rcases List.mem_cons.1 hz with rfl |hz
      ·obtain⟨c,E,rfl⟩:=aM X;have:=p3 c (by rw[ah];omega) (by omega);rw[ahv E]at this;exact this
      ·exact hs.2.2 x X z hz
  rw[if_neg (by rw[beq_iff_eq];omega)];rw[half (i:=P.length) (j:=P.length+L.length+R.length) (by omega)];simp only[aa];obtain⟨d,hmid⟩:∃d,d=(P.length+(P.length+L.length+R.length))/2:=⟨_,rfl⟩;rw[←hmid,aN (x:=(d:Int)),aN (x:=(d:Int)+((P.length+L.length:Nat):Int))];obtain⟨N,hN⟩:∃N,N=d+(P.length+L.length):=⟨_,rfl⟩;rw[show(d:Int)+((P.length+L.length:Nat):Int)=(N:Int)by omega];rw[aN (x:=(N:Int) -((P.length+L.length+R.length:Nat):Int)),aN (x:=(N:Int) -1)];obtain⟨lo,hi,hb,hlh,B⟩:∃lo hi,(av (decide (((P.length+L.length:Nat):Int)>(d:Int))) (some ((N:Int) -((P.length+L.length+R.length:Nat):Int),(d:Int))) (some ((P.length:Int),((P.length+L.length:Nat):Int))))=some (((P.length+lo:Nat):Int),((P.length+hi:Nat):Int))∧lo≤hi∧
    ((d<P.length+L.length∧P.length+lo=N -(P.length+L.length+R.length)∧P.length+hi=d)∨(P.length+L.length≤d∧lo=0∧hi=L.length)):=by
   rw[ag]
   by_cases c:d<P.length+L.length
   ·rw[if_pos (by rw[bx];omega)];exact⟨N -(P.length+L.length+R.length) -P.length,d -P.length,by congr 1;apply Prod.ext<;>(show _=(_:Int))<;>simp only<;>omega,by omega,.inl ⟨c,by omega,by omega⟩⟩
   ·rw[if_neg (by rw[bx];omega)];exact⟨0,L.length,rfl,by omega,.inr ⟨by omega,rfl,rfl⟩⟩
  rw[hb];simp only[aa];have hNc:∀c,lo≤c→c<hi→c<L.length∧P.length+L.length≤N -1 -(P.length+c)∧N -1 -(P.length+c)<P.length+L.length+R.length∧P.length+c<N:=by
   intro c w t;rcases B with B |B<;>omega
  have hhi:hi≤L.length:=by rcases B with B |B<;>omega
  obtain⟨p,p0,p1,p2,p3,p4⟩:=PY (n:=n) r (Rf:=ay n k) (z1:=(P.length:Int)) (z2:=((P.length+L.length:Nat):Int)) (z3:=((P.length+L.length+R.length:Nat):Int)) (z4:=(d:Int)) (N:=N) (lo:=lo) (hi:=hi) Y Z I J H hNc n lo hi (az _) hlh (az _) (by omega) (by omega) (by omega) (fun c _ _ E t=>by omega) (fun c _ _ E t=>by omega);rw[p2];simp only[aa];rw[aN (x:=(N:Int) -((P.length+p:Nat):Int))];obtain⟨o,hen⟩:∃o,o=N -(P.length+p):=⟨_,rfl⟩;have aDX:P.length+L.length≤o∧o≤P.length+L.length+R.length∧P.length+p+o=N:=by rcases B with B |B<;>omega
  rw[show(N:Int) -((P.length+p:Nat):Int)=(o:Int)by omega,fw];simp only[aa];obtain⟨L1,L2,e,D⟩:∃L1 L2,L=L1++L2∧L1.length=p:=⟨L.take p,L.drop p,(bM _ _).symm,by rw[aC];omega⟩;obtain⟨R1,R2,g,hR1⟩:∃R1 R2,R=R1++R2∧R1.length=o -(P.length+L.length):=⟨R.take (o -(P.length+L.length)),R.drop (o -(P.length+L.length)),(bM _ _).symm,by rw[aC];omega⟩;have hlL:L.length=L1.length+L2.length:=by rw[e,ah]
  have hlR:R.length=R1.length+R2.length:=by rw[g,ah]
  have sL:=pM.1 (by rw[e]at Y;exact Y);have sR:=pM.1 (by rw[g]at Z;exact Z);have x1:∀x∈L1,∀y∈R2,vl K x y:=by
   intro x T;refine alZ sR.2.1 fun y O=> ?_;refine alY sL.1 (fun z hz=> ?_) x T;have hp0:0<L1.length:=List.length_pos_of_mem T;have hR2:0<R2.length:=by
    match R2,O with
    |a::R2,_=>simp
   have hlp:lo<p:=by
    rcases B with B |B
    ·apply Decidable.byContradiction;intro E;have:p=lo:=by omega
     omega
    ·omega
   have w:p -1<L.length:=by omega
   obtain⟨f1,f2,f3,f4⟩:=hNc (p -1) (by omega) (by omega);have Q:N -1 -(P.length+(p -1)) -(P.length+L.length)=R1.length:=by omega
   have F:N -1 -(P.length+(p -1)) -(P.length+L.length)<R.length:=by omega
   have h9:=p3 (p -1) w F (by omega) (by omega);have e1:L[p -1]=z:=by
    have:L[p -1]? =some z:=by
     rw[e,aP (by omega),←hz,List.getLast?_eq_getElem?,D]
    rw[ai w]at this;exact Option.some.inj this
   have e2:R[N -1 -(P.length+(p -1)) -(P.length+L.length)]=y:=by
    have:R[N -1 -(P.length+(p -1)) -(P.length+L.length)]? =some y:=by
     rw[Q,g,bc (az _),Nat.sub_self,←O,List.head?_eq_getElem?]
    rw[ai F]at this;exact Option.some.inj this
   rw[e1,e2]at h9;exact h9
  have x2:∀x∈R1,∀y∈L2,vl K x y:=by
   intro x T;refine alZ sL.2.1 fun y O=> ?_;refine alY sR.1 (fun z hz=> ?_) x T;have hp0:0<R1.length:=List.length_pos_of_mem T;have hL2:0<L2.length:=by
    match L2,O with
    |a::L2,_=>simp
   have hlp:p<hi:=by
    rcases B with B |B
    ·apply Decidable.byContradiction;intro E;have:p=hi:=by omega
     omega
    ·omega
   have w:p<L.length:=by omega
   obtain⟨f1,f2,f3,f4⟩:=hNc p p0 hlp;have Q:N -1 -(P.length+p) -(P.length+L.length)=R1.length -1:=by omega
   have F:N -1 -(P.length+p) -(P.length+L.length)<R.length:=by omega
   have h9:=p4 p w F (az _) hlp;have e1:L[p]=y:=by
    have:L[p]? =some y:=by
     rw[e,bc (by omega),D,Nat.sub_self,←O,List.head?_eq_getElem?]
    rw[ai w]at this;exact Option.some.inj this
   have e2:R[N -1 -(P.length+p) -(P.length+L.length)]=z:=by
    have:R[N -1 -(P.length+p) -(P.length+L.length)]? =some z:=by
     rw[Q,g,aP (by omega),←hz,List.getLast?_eq_getElem?]
    rw[ai F]at this;exact Option.some.inj this
   rw[e1,e2]at h9;have hym:y∈L:=by rw[←e1];exact am w
   have hzm:z∈R:=by rw[←e2];exact am F
   have hlt:=J y hym z hzm;apply Decidable.byContradiction;intro t;apply h9;unfold vl at t ⊢;omega
  have q:P++(L++(R++S))=(P++L1)++(L2++(R1++(R2++S))):=by rw[e,g];simp
  have aAz:(av (decide (((P.length+p:Nat):Int)<((P.length+L.length:Nat):Int))&&decide (((P.length+L.length:Nat):Int)<(o:Int)))
      (((ct n (some (0,0,V),((P.length+p:Nat):Int),((P.length+L.length:Nat):Int),(o:Int),(K,())) ([some (P++(L++(R++S)))],()) ())).bind fun v10=>
      some (some (0,0,V),(P.length:Int),((P.length+L.length+R.length:Nat):Int),(K,()),(d:Int),((P.length+p:Nat):Int),(o:Int),v10.2))
      (some (some (0,0,V),(P.length:Int),((P.length+L.length+R.length:Nat):Int),(K,()),(d:Int),((P.length+p:Nat):Int),(o:Int),[some (P++(L++(R++S)))],())))=
     some (some (0,0,V),(P.length:Int),((P.length+L.length+R.length:Nat):Int),(K,()),(d:Int),((P.length+p:Nat):Int),(o:Int),[some ((P++L1)++(R1++(L2++(R2++S))))],()):=by
   rw[ag]
   by_cases c:0<L2.length∧0<R1.length
   ·rw[if_pos (by rw[ak,bx,bx];omega),q];rw[rotate (P:=P++L1) (U:=L2) (W:=R1) (S:=R2++S) r hn (by rw[ah,D]) (by rw[ah];omega) (by rw[ah];omega) c.1 c.2 (by rw[←q];exact H)];rfl
   ·rw[if_neg (by rw[ak,bx,bx];omega),q];have:L2++(R1++(R2++S))=R1++(L2++(R2++S)):=by
     by_cases c1:L2.length=0
     ·have:L2=[]:=List.length_eq_zero_iff.1 c1;subst this;simp
     ·have:R1=[]:=List.length_eq_zero_iff.1 (by omega);subst this;simp
    rw[this]
  rw[aAz];simp only[aa];rw[fw];simp only[aa];have hl3:((P++L1)++(R1++(L2++(R2++S)))).length=V:=by rw[←H,q];simp only[ah];omega
  have hm1:∃u,(av (decide ((P.length:Int)<((P.length+p:Nat):Int))&&decide (((P.length+p:Nat):Int)<(d:Int)))
      (((ay n k (some (0,0,V),(P.length:Int),((P.length+p:Nat):Int),(d:Int),(K,())) ([some ((P++L1)++(R1++(L2++(R2++S))))],()) ())).bind fun Cq=>
      some (some (0,0,V),((P.length+L.length+R.length:Nat):Int),(K,()),(d:Int),(o:Int),Cq.2))
      (some (some (0,0,V),((P.length+L.length+R.length:Nat):Int),(K,()),(d:Int),(o:Int),[some ((P++L1)++(R1++(L2++(R2++S))))],())))=
     some (some (0,0,V),((P.length+L.length+R.length:Nat):Int),(K,()),(d:Int),(o:Int),[some (P++(u++(L2++(R2++S))))],())∧u.Perm (L1++R1)∧Hm K u:=by
   rw[ag];have e5:(P++L1)++(R1++(L2++(R2++S)))=P++(L1++(R1++(L2++(R2++S)))):=by simp
   by_cases c:0<L1.length∧0<R1.length
   ·rw[if_pos (by rw[ak,bx,bx];omega),e5];obtain⟨u,a1,a2,a3⟩:=TJ r hn k L1 R1 P (L2++(R2++S)) (by omega) c.1 c.2 sL.1 sR.1 (fun z hz=>by
     rcases List.mem_append.1 hz with hz |hz
     ·exact I z (by rw[e];simp[hz])
     ·exact I z (by rw[g];simp[hz])) (fun a ha b hb=>J a (by rw[e];exact aS _ ha) b (by rw[g];exact aS _ hb)) (by rw[←e5];exact hl3)
    rw[D,show P.length+p+R1.length=d by omega]at a1;rw[a1];exact⟨u,rfl,a2,a3⟩
   ·rw[if_neg (by rw[ak,bx,bx];omega)];refine⟨L1++R1,by simp,List.Perm.refl _,?_⟩
    by_cases c1:L1.length=0
    ·have:L1=[]:=List.length_eq_zero_iff.1 c1;subst this;simpa using sR.1
    ·have:R1=[]:=List.length_eq_zero_iff.1 (by omega);subst this;simpa using sL.1
  obtain⟨u,m1,m2,m3⟩:=hm1;rw[m1];simp only[aa];rw[fw];simp only[aa];have hM1:u.length=L1.length+R1.length:=by rw[m2.length_eq,ah]
  have hPM:(P++u).length=d:=by rw[ah];omega
  have e6:P++(u++(L2++(R2++S)))=(P++u)++(L2++(R2++S)):=by simp
  have hl4:((P++u)++(L2++(R2++S))).length=V:=by rw[ah,hPM];simp only[ah]at hl3 ⊢;omega
  have hm2:∃M2,(av (decide ((d:Int)<(o:Int))&&decide ((o:Int)<((P.length+L.length+R.length:Nat):Int)))
      (((ay n k (some (0,0,V),(d:Int),(o:Int),((P.length+L.length+R.length:Nat):Int),(K,())) ([some (P++(u++(L2++(R2++S))))],()) ())).bind fun v16=>some v16.2)
      (some ([some (P++(u++(L2++(R2++S))))],())))=some ([some (P++((u++M2)++S))],())∧M2.Perm (L2++R2)∧Hm K M2:=by
   rw[ag]
   by_cases c:0<L2.length∧0<R2.length
   ·rw[if_pos (by rw[ak,bx,bx];omega),e6];obtain⟨M2,a1,a2,a3⟩:=TJ r hn k L2 R2 (P++u) S (by omega) c.1 c.2 sL.2.1 sR.2.1 (fun z hz=>by
     rcases List.mem_append.1 hz with hz |hz
     ·exact I z (by rw[e];simp[hz])
     ·exact I z (by rw[g];simp[hz])) (fun a ha b hb=>J a (by rw[e];exact bp _ ha) b (by rw[g];exact bp _ hb)) hl4
    rw[hPM,show d+L2.length=o by omega,show o+R2.length=P.length+L.length+R.length by omega]at a1;rw[a1];exact⟨M2,by simp,a2,a3⟩
   ·rw[if_neg (by rw[ak,bx,bx];omega)];refine⟨L2++R2,by simp,List.Perm.refl _,?_⟩
    by_cases c1:L2.length=0
    ·have:L2=[]:=List.length_eq_zero_iff.1 c1;subst this;simpa using sR.2.1
    ·have:R2=[]:=List.length_eq_zero_iff.1 (by omega);subst this;simpa using sL.2.1
  obtain⟨M2,n1,n2,n3⟩:=hm2;rw[n1];simp only[aa];have ah2:=apX (l:=K) (L1:=L1) (L2:=L2) (R1:=R1) (R2:=R2) (by rw[←e];exact Y) (by rw[←g];exact Z) x1 x2 m2 n2 m3 n3;exact⟨u++M2,rfl,by rw[e,g];exact ah2.1,ah2.2⟩
def aaM:List (List Int)→Prop
 |[]=>True
 |A::a=>(∀x∈A,∀y∈a.flatten,x<y)∧aaM a
theorem TL:∀{bs cs:List (List Int)},aaM (bs++cs)↔aaM bs∧aaM cs∧∀x∈bs.flatten,∀y∈cs.flatten,x<y
 |[],cs=>by simp[aaM]
 |A::bs,cs=>by
  have h:=TL (bs:=bs) (cs:=cs);show((∀x∈A,∀y∈(bs++cs).flatten,x<y)∧aaM (bs++cs))↔_;constructor
  ·rintro⟨c,e⟩;obtain⟨g,d,i⟩:=h.1 e;refine⟨⟨fun x a y b=>c x a y (by rw[List.flatten_append];exact aS _ b),g⟩,d,fun x a y b=> ?_⟩;rw[ea]at a;rcases List.mem_append.1 a with a |a
   ·exact c x a y (by rw[List.flatten_append];exact bp _ b)
   ·exact i x a y b
  ·rintro⟨⟨c,e⟩,g,d⟩;refine⟨fun x a y b=> ?_,h.2 ⟨e,g,fun x a y b=>d x (by rw[ea];exact bp _ a) y b⟩⟩;rw[List.flatten_append]at b;rcases List.mem_append.1 b with b |b
   ·exact c x a y b
   ·exact d x (by rw[ea];exact aS _ a) y b
def Full(s:Nat):List (List Int)→Prop
 |[]=>True
 |[A]=>0<A.length∧A.length≤s
 |A::B::r=>A.length=s∧Full s (B::r)
theorem aeD{s:Nat}(b:0<s):∀{bs:List (List Int)},(∀A∈bs,A.length=s)→Full s bs
 |[],_=>trivial
 |[A],h=>by have:=h A (by simp);exact⟨by omega,by omega⟩
 |A::B::r,h=>⟨h A (by simp),aeD b fun C a=>h C (aG _ a)⟩
theorem Ms{s:Nat}{M:List Int}(a:0<M.length)(b:M.length≤s):∀{bs:List (List Int)},(∀A∈bs,A.length=s)→Full s (bs++[M])
 |[],_=>⟨a,b⟩
 |[A],h=>⟨h A (by simp),a,b⟩
 |A::B::r,h=>⟨h A (by simp),Ms a b (bs:=B::r) fun C c=>h C (aG _ c)⟩
theorem Wz{s:Nat}{A:List Int}:∀{r:List (List Int)},Full s (A::r)→Full s r
 |[],_=>trivial
 |_::_,h=>h.2
theorem OE{n V:Nat}(e:V≤1000000)(o:Hn0 n){K:List Int}:∀(k:Nat) (T P:List Int),T.length<k→T.Pairwise (·<·)→Val K T→(P++T).length=V→
  ∃bs Q b,dh n k (some (0,0,V),(V:Int),(K,()),20,(P.length:Int),((P.length+20:Nat):Int),[some (P++T)],())=some (some (0,0,V),(V:Int),(K,()),20,((P++bs.flatten).length:Int),[some ((P++bs.flatten)++b)],())∧
   T=Q++b∧bs.flatten.Perm Q∧b.length<20∧(∀A∈bs,A.length=20∧Hm K A)∧aaM bs
 |0,T,P,h,_,_,_=>by omega
 |k+1,T,P,h,z,p,l=>by
  rw[ah]at l;rw[lG,ag]
  by_cases c:T.length<20
  ·rw[if_neg (by rw[bx];omega)];exact⟨[],[],T,by simp,rfl,by simp,c,fun A d=>(by cases d),trivial⟩
  rw[if_pos (by rw[bx];omega)];obtain⟨L,S,rfl,j⟩:∃L S,T=L++S∧L.length=20:=⟨T.take 20,T.drop 20,(bM _ _).symm,by rw[aC];omega⟩;rw[ah]at l h;have a:=List.pairwise_append.1 z;obtain⟨M,m1,i,F⟩:=insertionSort (n:=n) (V:=V) e o (K:=K) (P:=P) (L:=L) (S:=S) (A:=(P.length:Int)) (B:=((P.length+20:Nat):Int)) rfl (by rw[j]) p.left a.1 (by simp only[ah];omega);rw[m1];simp only[aa];have g:M.length=20:=by rw[i.length_eq,j]
  rw[aN];have t:P++(M++S)=(P++M)++S:=by simp
  obtain⟨bs,Q,b,r1,q,r,H,I,J⟩:=OE e o (K:=K) k S (P++M) (by omega) a.2.1 p.right (by simp only[ah];omega);have u:((P++M).length:Int)=((P.length+20:Nat):Int):=by rw[ah,g]
  have w:(((P++M).length+20:Nat):Int)=((P.length+20:Nat):Int)+20:=by rw[ah,g];omega
  rw[u,w]at r1;rw[t,r1];refine⟨M::bs,L++Q,b,by simp,by rw[q];simp,?_,H,fun A d=> ?_,fun x D y E=> ?_,J⟩
  ·rw[ea];exact i.append r
  ·rcases List.mem_cons.1 d with rfl |d
   ·exact⟨g,F⟩
   ·exact I A d
  ·exact a.2.2 x (i.subset D) y (by rw[q];exact aS _ (r.subset E))
theorem Yb{n V:Nat}(j:V≤1000000)(F:Hn0 n){K:List Int}{s:Nat}(N:0<s)(w:s≤10000000):∀(k:Nat) (bs:List (List Int)) (P:List Int),bs.length<k→Full s bs→(∀A∈bs,Hm K A)→aaM bs→Val K bs.flatten→(P++bs.flatten).length=V→
  ∃b1 a,dj n k (some (0,0,V),(V:Int),(K,()),(s:Int),(P.length:Int),((P.length+2*s:Nat):Int),[some (P++bs.flatten)],())=some (some (0,0,V),(V:Int),(K,()),(s:Int),((P++b1.flatten).length:Int),[some ((P++b1.flatten)++a.flatten)],())∧
   (∀A∈b1,A.length=2*s∧Hm K A)∧Full s a∧a.flatten.length<2*s∧(∀A∈a,Hm K A)∧aaM (b1++a)∧(b1.flatten++a.flatten).Perm bs.flatten
 |0,bs,P,h,_,_,_,_,_=>by omega
 |k+1,bs,P,h,hF,e,d,o,l=>by
  rw[ah]at l;rw[lI,ag]
  by_cases c:bs.flatten.length<2*s
  ·rw[if_neg (by rw[bx];omega)];exact⟨[],bs,by simp,fun A E=>(by cases E),hF,c,e,d,by simp⟩
  rw[if_pos (by rw[bx];omega)]
  match bs,h,hF,e,d,o,l,c with
  |[],_,_,_,_,_,_,c=>simp at c;omega
  |[A],_,hF,_,_,_,_,c=>simp at c;have:=hF.2;omega
  |A::B::r,h,hF,e,d,o,l,c=>
   have E:=hF.1;have W:B.length=s:=by
    match r,hF with
    |[],hF=>
     have:=hF.2.2;simp at c;omega
    |C::r,hF=>exact hF.2.1
   have t:(A::B::r).flatten=A++(B++r.flatten):=by simp
   rw[t]at l o ⊢;have u:P.length+(A.length+(B.length+r.flatten.length))=V:=by simpa using l
   have i:=d.1;have q:=d.2.1;obtain⟨M,m1,D,O⟩:=TJ (n:=n) (V:=V) j F (K:=K) n A B P r.flatten (by omega) (by omega) (by omega) (e A (by simp)) (e B (by simp)) (fun x hx=>o x (by rcases List.mem_append.1 hx with hx |hx<;>simp[hx])) (fun x hx y b=>i x hx y (by rw[ea];exact aS _ b)) (by rw[ah,ah,ah];exact u);have z:bK n (some (0,0,V),(P.length:Int),ae .i64 ((P.length:Int)+(s:Int)),((P.length+2*s:Nat):Int),(K,())) ([some (P++(A++(B++r.flatten)))],()) ()=some ((),[some (P++(M++r.flatten))],()):=by
    rw[aN,show(P.length:Int)+(s:Int)=((P.length+A.length:Nat):Int)by omega,show((P.length+2*s:Nat):Int)=((P.length+A.length+B.length:Nat):Int)by omega];exact m1
   rw[z];simp only[aa];have p:M.length=2*s:=by rw[D.length_eq,ah];omega
   rw[aN (x:=2*(s:Int)),aN];have I:P++(M++r.flatten)=(P++M)++r.flatten:=by simp
   obtain⟨b1,a,r1,Q,R,S,T,U,H⟩:=Yb j F (K:=K) N w k r (P++M) (by simp at h;omega) (Wz (Wz hF)) (fun C g=>e C (by simp[g])) d.2.2 (fun x hx=>o x (by simp[hx])) (by rw[ah,ah,p];omega);have J:((P++M).length:Int)=((P.length+2*s:Nat):Int):=by rw[ah,p]
   have L:(((P++M).length+2*s:Nat):Int)=((P.length+2*s:Nat):Int)+2*(s:Int):=by rw[ah,p];omega
   rw[J,L]at r1;rw[I,r1];refine⟨M::b1,a,by simp,fun C g=> ?_,R,S,T,⟨fun x hx y b=> ?_,U⟩,?_⟩
   ·rcases List.mem_cons.1 g with rfl |g
    ·exact⟨p,O⟩
    ·exact Q C g
   ·have b:y∈(b1++a).flatten:=b;rw[List.flatten_append]at b;have b:=H.subset b;rcases List.mem_append.1 (D.subset hx)with hx |hx
    ·exact i x hx y (by rw[ea];exact bp _ b)
    ·exact q x hx y b
   ·rw[ea,bo];refine(D.append H).trans ?_;simp
theorem OG{n V:Nat}(u:V≤1000000)(P:Hn0 n){K:List Int}:∀(k s:Nat) (bs:List (List Int)),0<s→s≤2000000→V+1 -s<k→Full s bs→(∀A∈bs,Hm K A)→aaM bs→Val K bs.flatten→bs.flatten.length=V→
  ∃o,di n k (some (0,0,V),(V:Int),(K,()),(s:Int),[some bs.flatten],())=some ([some o],())∧o.Perm bs.flatten∧Hm K o
 |0,s,bs,_,_,h,_,_,_,_,_=>by omega
 |k+1,s,bs,Z,hsb,h,hF,J,hI,Q,z=>by
  rw[lH,ag]
  by_cases c:s<V
  case neg=>
   rw[if_neg (by rw[bx];omega)];refine⟨bs.flatten,rfl,List.Perm.refl _,?_⟩
   match bs,hF,J,z with
   |[],_,_,_=>exact List.Pairwise.nil
   |[A],_,J,_=>simpa using J A (by simp)
   |A::B::r,hF,_,z=>
    have h1:=hF.1;have h2:0<B.length:=by
     match r,hF with
     |[],hF=>exact hF.2.1
     |C::r,hF=>have:=hF.2.1;omega
    simp at z;omega
  rw[if_pos (by rw[bx];omega)];obtain⟨b1,D,r1,L,i,p,q,r6,W⟩:=Yb (n:=n) u P (K:=K) Z (by omega) n bs [] (by
   have:∀(l:List (List Int)),Full s l→l.length≤l.flatten.length:=by
    intro l
    induction l with
    |nil=>intro _;simp
    |cons A l ih=>
     intro w;have d:0<A.length:=by
      match l,w with
      |[],w=>exact w.1
      |B::l,w=>have:=w.1;omega
     have:=ih (Wz w);simp only[bg,ea,ah];omega
   have:=this bs hF;omega) hF J hI Q (by simpa using z)
  rw[show(([]:List Int).length:Int)=0 from rfl,show((([]:List Int).length+2*s:Nat):Int)=2*(s:Int)by simp,bC]at r1;rw[aN (x:=2*(s:Int)),r1];simp only[aa,bC];have a:b1.flatten.length+D.flatten.length=V:=by rw[←z,←W.length_eq,ah]
  rw[aN (x:=(b1.flatten.length:Int)+(s:Int))];have b:=TL.1 r6;have S:∃g,(av (decide ((b1.flatten.length:Int)+(s:Int)<(V:Int))) (((bK n (some (0,0,V),(b1.flatten.length:Int),(b1.flatten.length:Int)+(s:Int),(V:Int),(K,())) ([some (b1.flatten++D.flatten)],()) ())).bind fun v3=>
     some (some (0,0,V),(V:Int),(K,()),(s:Int),v3.2))
     (some (some (0,0,V),(V:Int),(K,()),(s:Int),[some (b1.flatten++D.flatten)],())))=some (some (0,0,V),(V:Int),(K,()),(s:Int),[some (b1.flatten++g.flatten)],())∧
    Full (2*s) (b1++g)∧(∀A∈g,Hm K A)∧aaM g∧g.flatten.Perm D.flatten:=by
   match D,i,p,q,a,b with
   |[],i,p,q,a,b=>
    refine⟨[],?_,by rw[cG];exact aeD (by omega) fun A d=>(L A d).1,fun A d=>(by cases d),trivial,List.Perm.refl _⟩;rw[ag,if_neg (by rw[bx];have h00:([]:List (List Int)).flatten.length=0:=rfl;omega)]
   |[A],i,p,q,a,b=>
    have d:=i;have N:[A].flatten=A:=by simp
    rw[N]at a p;refine⟨[A],?_,Ms d.1 (by omega) fun A d=>(L A d).1,q,b.2.1,List.Perm.refl _⟩;rw[ag,if_neg (by rw[bx];have:=d.2;omega)]
   |[A,B],i,p,q,a,b=>
    have j:[A,B].flatten=A++B:=by simp
    rw[j,ah]at a p;have d:A.length=s:=i.1;have X:0<B.length∧B.length≤s:=i.2;have O:∀x∈A,∀y∈B,x<y:=fun x R y I=>b.2.1.1 x R y (by simpa using I);have H:Val K (A++B):=(Q.perm W).right |> fun h=>by rw[j]at h;exact h
    obtain⟨M,m1,U,m3⟩:=TJ (n:=n) (V:=V) u P (K:=K) n A B b1.flatten [] (by omega) (by omega) X.1 (q A (by simp)) (q B (by simp)) H O (by rw[ah,ah,cG];omega);have E:[M].flatten=M:=by simp
    refine⟨[M],?_,Ms (by rw[U.length_eq,ah];omega) (by rw[U.length_eq,ah];omega) fun A d=>(L A d).1,fun C t=> ?_,⟨fun x _ y I=>(by cases I),trivial⟩,by rw[E,j];exact U⟩
    ·rw[bP0,j,E];have T:bK n (some (0,0,V),(b1.flatten.length:Int),(b1.flatten.length:Int)+(s:Int),(V:Int),(K,())) ([some (b1.flatten++(A++B))],()) ()=some ((),[some (b1.flatten++M)],()):=by
      rw[cG,cG]at m1;rw[show(b1.flatten.length:Int)+(s:Int)=((b1.flatten.length+A.length:Nat):Int)by omega,show(V:Int)=((b1.flatten.length+A.length+B.length:Nat):Int)by omega];exact m1
     rw[T];rfl
    ·have:C=M:=by simpa using t
     rw[this];exact m3
   |A::B::C::r,i,p,q,a,b=>
    have d:A.length=s:=i.1;have X:B.length=s:=i.2.1;simp only[ea,ah]at p;omega
  obtain⟨g,k1,k2,k3,k4,Y⟩:=S;rw[k1];simp only[aa];rw[aN,show(s:Int)*2=((2*s:Nat):Int)by omega];have F:(b1++g).flatten=b1.flatten++g.flatten:=by simp
  have e:(b1++g).flatten.Perm bs.flatten:=by
   rw[F];exact(List.Perm.append_left _ Y).trans W
  rw[←F];obtain⟨o,o1,o2,o3⟩:=OG u P (K:=K) k (2*s) (b1++g) (by omega) (by omega) (by omega) k2 (fun C t=>by
    rcases List.mem_append.1 t with t |t
    ·exact(L C t).2
    ·exact k3 C t) (TL.2 ⟨b.1,k4,fun x R y I=>b.2.2 x R y (Y.subset I)⟩) (Q.perm e) (by rw[e.length_eq];exact z)
  exact⟨o,o1,o2.trans e,o3⟩
theorem an1{n:Nat}(q:Hn0 n){K T:List Int}(g:T.length≤1000000)(r:T.Pairwise (·<·))(t:Val K T):
  ∃o,dn n (some (0,0,T.length),(K,())) ([some T],()) ()=some ((),[some o],())∧o.Perm T∧Hm K o:=by
 rw[lT,mE];obtain⟨e,Q,k,r1,j,D,Z,E,Y⟩:=OE (n:=n) (V:=T.length) g q (K:=K) n T [] (by omega) r t (by simp);rw[show(([]:List Int).length:Int)=0 from rfl,show((([]:List Int).length+20:Nat):Int)=20 from rfl,bC,bC]at r1;rw[show gsN (some (0,0,T.length))=(T.length:Int)from rfl,r1];simp only[aa];have l:T.length=Q.length+k.length:=by rw[j,ah]
 have p:e.flatten.length=Q.length:=D.length_eq;have i:=List.pairwise_append.1 (by rw[j]at r;exact r);have u:Val K (Q++k):=by rw[←j];exact t
 obtain⟨M,m1,z,N⟩:=insertionSort (n:=n) (V:=T.length) g q (K:=K) (P:=e.flatten) (L:=k) (S:=[]) (A:=(e.flatten.length:Int)) (B:=(T.length:Int)) rfl (by rw[l,p]) u.right i.2.1 (by rw[cG,ah];omega);rw[cG,cG]at m1;rw[m1];simp only[aa];have I:=z.length_eq;obtain⟨d,H,U,W,X⟩:∃d,d.flatten=M∧Full 20 (e++d)∧(∀A∈d,Hm K A)∧aaM d:=by
  by_cases c:M=[]
  ·exact⟨[],by rw[c];rfl,by rw[cG];exact aeD (by omega) fun A a=>(E A a).1,fun A a=>(by cases a),trivial⟩
  ·refine⟨[M],by simp,Ms (by have:=List.length_pos_iff.2 c;omega) (by omega) fun A a=>(E A a).1,fun A a=> ?_,⟨fun x _ y w=>(by cases w),trivial⟩⟩;have:A=M:=by simpa using a
   rw[this];exact N
 have h:(e++d).flatten=e.flatten++M:=by rw[List.flatten_append,H]
 have b:(e++d).flatten.Perm T:=by rw[h,j];exact D.append z
 rw[←h];obtain⟨o,F,O,R⟩:=OG (n:=n) (V:=T.length) g q (K:=K) n 20 (e++d) (by omega) (by omega) (by omega) U (fun A a=>by
   rcases List.mem_append.1 a with a |a
   ·exact(E A a).2
   ·exact W A a) (TL.2 ⟨Y,X,fun x J y w=>i.2.2 x (D.subset J) y (z.subset (by rw[←H];exact w))⟩) (t.perm b) (by rw[b.length_eq])
 rw[show((20:Nat):Int)=20 from rfl]at F;rw[F];exact⟨o,rfl,O.trans b,R⟩
theorem Yc(n:Nat):places (n+1)=places n++[(n:Int)]:=by unfold places;rw[List.range_succ,eu];rfl
theorem ahw{n V:Nat}(a:V≤1000000){K:List Int}:∀(m k i:Nat),i+m=V→m<k→
  fh n k ((K,()),some (0,0,V),(V:Int),(i:Int),[some (places i++ao m 0)],())=some ((K,()),some (0,0,V),[some (places V)],())
 |0,k,i,b,c=>by
  obtain⟨k,rfl⟩:=gU k;rw[kp,bN0];have:i=V:=by omega
  subst this;simp
 |m+1,k,i,b,c=>by
  obtain⟨k,rfl⟩:=gU k;have d:(places i++ao (m+1) 0).length=V:=by rw[ah,nz,aU];omega
  rw[kp,bP0];simp only[aa];have g:(places i++ao (m+1) (0:Int))[i]? =some 0:=by rw[cH];exact p9 nz.symm
  rw[rdL (i:=i) d rfl g,wrL,aN,show(i:Int)+1=((i+1:Nat):Int)by omega];have e:(places i++ao (m+1) (0:Int)).set i (i:Int)=places (i+1)++ao m 0:=by
   rw[cH,rE nz.symm,Yc];simp
  rw[e];exact ahw a m k (i+1) (by omega) (by omega)
theorem an2{n:Nat}(i:Hn0 n){K:List Int}(a:K.length≤1000000):∃o,m5 n K=some o∧Bq K o:=by
 rw[Z1,un,fX (m:=K.length) rfl (by omega) (by omega)];simp only[aa];have d:=ahw (n:=n) (V:=K.length) a (K:=K) K.length n 0 (by omega) (by omega);rw[show places 0++ao K.length (0:Int)=ao K.length 0 from rfl,show((0:Nat):Int)=0 from rfl]at d;rw[show gsN (some (0,0,K.length))=(K.length:Int)from rfl,show eE [] (ao K.length (0:Int))=[some (ao K.length 0)]from rfl,d];simp only[aa];obtain⟨o,e,g,k⟩:=an1 (n:=n) i (K:=K) (T:=places K.length) (by rw[nz];exact a) anZ (fun x j=>Br.1 j);rw[nz]at e;rw[e];simp only[aa];have c:o.length=K.length:=by rw[g.length_eq,nz]
 have b:rX [some o] (some (0,0,K.length))=some o:=by
  rw[←c];unfold rX;simp only[show fA [some o] 0=some o from rfl];rw[lf];simp
 obtain⟨l,h⟩:=aey b;rw[h];exact⟨o,rfl,g,k⟩
theorem rdG{α β:Type}{H:List (Option (List α))}{x:Option (Nat×Nat×Nat)}{l:List α}{I:Int}{i:Nat}{v:α}(h:rX H x=some l)(c:I=(i:Int))(hx:l[i]? =some v)(f:α→Option β):
  (x.bind fun a=>(ck I a.2.2).bind fun k=>(fA H a.1).bind fun n=>(nth n (a.2.1+k)).bind fun o=>f o)=f v:=by
 have b:i<l.length:=by
  apply Decidable.byContradiction;intro q;rw[bd (by omega)]at hx
  cases hx
 obtain⟨p,w,d,e,g,j,-⟩:=ahr h b;rw[ai b]at hx;rw[d,c];simp only[aa];rw[e];simp only[aa];rw[g];simp only[aa];rw[j,hx];rfl
theorem wrG{α:Type}{H:List (Option (List α))}{x:Option (Nat×Nat×Nat)}{l:List α}{I:Int}{i:Nat}(v:α)(h:rX H x=some l)(e:I=(i:Int))(hi:i<l.length):
  ∃b,rX b x=some (l.set i v)∧∀{β:Type} (g:List (Option (List α))→Option β),(x.bind fun a=>(ck I a.2.2).bind fun c=>(fA H a.1).bind fun d=>(nth d (a.2.1+c)).bind fun _=>(uG H a.1 (d.set (a.2.1+c) v)).bind fun u=>g u)=g b:=by
 obtain⟨p,w,j,k,n,o,q⟩:=ahr h hi;obtain⟨b,r,t⟩:=q v;refine⟨b,t,fun g=> ?_⟩;rw[j,e];simp only[aa];rw[k];simp only[aa];rw[n];simp only[aa];rw[o];simp only[aa];rw[r];rfl
theorem aoS{K:List Int}{x:Int}(h:0≤x∧x<(K.length:Int)):idx K x=some (ky K x):=by
 have:=p6 (l:=K) (i:=x.toNat) (by omega) 0;rw[show(x.toNat:Int)=x by omega]at this;exact this
theorem al0{n:Nat}{K:List Int}{H:List (Option (List Int))}{s:Option (Nat×Nat×Nat)}{out:List Int}{i:Nat}(hi:i<K.length)(u:Val K out)(t:rX H s=some out)(q:out.length≤1000000):∀(m k:Nat) (a b:List Int),a.length=m→m<k→out=a++b→(∀d∈b,ky K d<ky K (i:Int))→
  ∃Dc r,rg n k (K,s,(i:Int),(a.length:Int),H,())=some (K,s,(i:Int),(Dc.length:Int),H,())∧out=Dc++r∧(∀d∈r,ky K d<ky K (i:Int))∧(∀d,Dc.getLast? =some d→¬ ky K d<ky K (i:Int))
 |0,k,a,b,g,w,e,l=>by
  obtain⟨k,rfl⟩:=gU k;have:a=[]:=List.length_eq_zero_iff.1 g;subst this;rw[A9,ag,if_neg (by rw[bx];simp)];exact⟨[],b,by simp[av],e,l,fun d B=>(by cases B)⟩
 |m+1,k,a,b,g,w,e,l=>by
  obtain⟨k,rfl⟩:=gU k;obtain⟨D,d,rfl⟩:∃D d,a=D++[d]:=by
   have:a≠[]:=by intro h;rw[h]at g;simp at g
   exact⟨_,_,(bL this).symm⟩
  have z:D.length=m:=by simpa using g
  have p:(D++[d]).length=D.length+1:=by simp
  have hout:out.length=D.length+1+b.length:=by rw[e,ah,p]
  have E:out[D.length]? =some d:=by rw[e,bo];exact p9 rfl
  have o:=u d (by rw[e];simp);rw[A9,bP0];rw[rdG (i:=D.length) t (by rw[aN];omega) E,aoS o,aoS (x:=(i:Int)) ⟨by omega,by omega⟩];simp only[aa];rw[ag]
  by_cases c:ky K d<ky K (i:Int)
  ·rw[if_pos (by simpa using c),aN,show((D++[d]).length:Int) -1=(D.length:Int)by omega];refine al0 hi u t q m k D (d::b) z (by omega) (by rw[e];simp) fun y j=> ?_;rcases List.mem_cons.1 j with rfl |j
   ·exact c
   ·exact l y j
  ·rw[if_neg (by simpa using c)];refine⟨D++[d],b,rfl,e,l,fun y j=> ?_⟩;have:y=d:=by simpa using j.symm
   rw[this];exact c
theorem ahx{n:Nat}{K:List Int}{s:Option (Nat×Nat×Nat)}{i:Nat}{Dc:List Int}:∀(m k:Nat) (b a:List Int) (y:Int) (H:List (Option (List Int))),b.length=m→m<k→rX H s=some (Dc++(b++y::a))→Dc.length+b.length+a.length≤1000000→
  ∃e j,pI n k (K,s,(i:Int),(Dc.length:Int),((Dc.length+b.length:Nat):Int),H,())=some (K,s,(i:Int),(Dc.length:Int),e,())∧rX e s=some (Dc++j::(b++a))
 |0,k,b,a,y,H,c,u,g,w=>by
  obtain⟨k,rfl⟩:=gU k;have:b=[]:=List.length_eq_zero_iff.1 c;subst this;rw[yq,ag,if_neg (by rw[bx];simp)];exact⟨H,y,rfl,g⟩
 |m+1,k,b,a,y,H,c,u,g,w=>by
  obtain⟨k,rfl⟩:=gU k;obtain⟨D,d,rfl⟩:∃D d,b=D++[d]:=by
   have:b≠[]:=by intro h;rw[h]at c;simp at c
   exact⟨_,_,(bL this).symm⟩
  have x:D.length=m:=by simpa using c
  have z:(D++[d]).length=D.length+1:=by simp
  rw[yq,bP0];have r:Dc++((D++[d])++y::a)=(Dc++D)++d::(y::a):=by simp
  have o:Dc++((D++[d])++y::a)=(Dc++(D++[d]))++y::a:=by simp
  have B:(Dc++((D++[d])++y::a))[Dc.length+D.length]? =some d:=by rw[r];exact p9 (by simp)
  rw[rdG (i:=Dc.length+D.length) g (by rw[aN];omega) B];obtain⟨e,l,p⟩:=wrG (i:=Dc.length+(D++[d]).length) (I:=((Dc.length+(D++[d]).length:Nat):Int)) d g rfl (by rw[o];simp);rw[p];have t:(Dc++((D++[d])++y::a)).set (Dc.length+(D++[d]).length) d=Dc++(D++d::(d::a)):=by rw[o,rE (by simp)];simp
  rw[t]at l;rw[aN,show((Dc.length+(D++[d]).length:Nat):Int) -1=((Dc.length+D.length:Nat):Int)by omega];obtain⟨H2,j,b1,q⟩:=ahx (n:=n) (K:=K) (i:=i) m k D (d::a) d e x (by omega) l (by simp;omega);exact⟨H2,j,b1,by rw[q];simp⟩
theorem LN{n:Nat}{K:List Int}(F:Hn0 n)(z:K.length≤1000000):∀(m k i:Nat) (H:List (Option (List Int))) (s:Option (Nat×Nat×Nat)) (out:List Int),i+m=K.length→m<k→rX H s=some out→out.Perm (places i)→Hm K out→
  ∃l q o,rf n k (K,s,(i:Int),H,())=some (q,l,())∧rX l q=some o∧Bq K o
 |0,k,i,H,s,out,u,w,e,a,g=>by
  obtain⟨k,rfl⟩:=gU k;have:i=K.length:=by omega
  subst this;rw[A8,ag,if_neg (by simp)];exact⟨H,s,out,rfl,e,a,g⟩
 |m+1,k,i,H,s,out,u,w,e,a,g=>by
  obtain⟨k,rfl⟩:=gU k;have E:i<K.length:=by omega
  have J:out.length=i:=by rw[a.length_eq,nz]
  have L:Val K out:=fun x j=>by have:=Br.1 (a.subset j);omega
  have h:∀x∈out,x<(i:Int):=fun x j=>(Br.1 (a.subset j)).2;rw[A8,bP0];rw[X6 e];obtain⟨Dc,c,f1,f2,f3,f4⟩:=al0 (n:=n) E L e (by omega) out.length n out [] rfl (by omega) (by simp) (fun d B=>by cases B);rw[f1];simp only[aa];obtain⟨H1,r,g1,p⟩:=Mr (b:=8) (m:=[(0:Int)]) e (by simp;omega) (by omega);rw[g1];simp only[aa];have D:out.length=Dc.length+c.length:=by rw[f2,ah]
  have y:=X6 p;rw[y,ah,bZ];rw[aN,show(((out.length+1:Nat):Int) -1)=((Dc.length+c.length:Nat):Int)by omega];obtain⟨H2,P,M,N⟩:=ahx (n:=n) (K:=K) (s:=r) (i:=i) (Dc:=Dc) c.length n c [] 0 H1 rfl (by omega) (by rw[p,f2];simp) (by simp;omega);rw[M];simp only[aa];obtain⟨H3,t,O⟩:=wrG (i:=Dc.length) (I:=(Dc.length:Int)) (i:Int) N rfl (by simp);rw[O];rw[rE rfl,cG]at t;rw[aN,show(i:Int)+1=((i+1:Nat):Int)by omega];refine LN F z m k (i+1) H3 r (Dc++(i:Int)::c) (by omega) (by omega) t ?_ (aeB (by rw[←f2];exact g) (by rw[←f2];exact h) f3 f4);rw[Yc];refine List.perm_middle.trans ?_;rw[←f2];exact(List.Perm.cons _ a).trans (List.perm_append_singleton _ _).symm
theorem al1{n:Nat}{K:List Int}(g:Hn0 n)(e:K.length≤1000000):∃o,lC n K=some o∧Bq K o:=by
 rw[V9];obtain⟨h,i,o,a,b,c⟩:=LN (n:=n) g e K.length n 0 (eE [] []) (some (0,0,0)) [] (by omega) (by omega) TG (List.Perm.refl _) List.Pairwise.nil;rw[show((0:Nat):Int)=0 from rfl]at a;rw[a];simp only[aa];obtain⟨H2,d⟩:=aey b;rw[d];exact⟨o,rfl,c⟩
theorem an3{n:Nat}{K:List Int}(c:Hn0 n)(b:K.length≤1000000):∃o,m5 n K=some o∧lC n K=some o∧Bq K o:=by
 obtain⟨o,d,a⟩:=an2 c b;obtain⟨p,b1,e⟩:=al1 c b;rw[anY e a]at b1;exact⟨o,d,b1,a⟩
theorem aAA{n:Nat}{K:List Int}{k:Int}(h:Hn0 n)(g:K.length≤1000000):∃o t,uW n (K,k)=some t∧rR n (K,k)=some t∧Bq K o∧t=(if 0<k∧k<(K.length:Int)then o.take k.toNat else o):=by
 obtain⟨o,d,e,b⟩:=an3 h g;have a:=b.len;rw[afy,adl,d,e];simp only[aa,fw];refine⟨o,if 0<k∧k<(K.length:Int)then o.take k.toNat else o,?_,?_,b,rfl⟩
 ·rw[ag]
  by_cases c:0<k∧k<(K.length:Int)
  ·rw[if_pos (by rw[ak,bx,bx,a];exact c),if_pos c];have:=vk (l:=o) (k:=k.toNat) (by omega);rw[show(k.toNat:Int)=k by omega]at this;rw[this];simp only[aa];rw[dU (by rw[aC];simp;omega) (by omega)];simp
  ·rw[if_neg (by rw[ak,bx,bx,a];exact c),if_neg c]
 ·rw[ag]
  by_cases c:0<k∧k<(K.length:Int)
  ·rw[if_pos (by rw[ak,bx,bx,a];exact c),if_pos c];have:=vk (l:=o) (k:=k.toNat) (by omega);rw[show(k.toNat:Int)=k by omega]at this;rw[this];rfl
  ·rw[if_neg (by rw[ak,bx,bx,a];exact c),if_neg c]
def kf(l:List Int):Nat→Int
 |0=>0
 |k+1=>kf l k+l.getD k 0
theorem rT{l:List Int}{b:Int}(h:∀x∈l,0≤x∧x≤b):∀k,k≤l.length→0≤kf l k∧kf l k≤k*b
 |0,_=>by simp[kf]
 |k+1,d=>by
  have a:=rT h k (by omega);have c:=h _ (am (show k<l.length by omega));show 0≤kf l k+l.getD k 0∧kf l k+l.getD k 0≤((k+1:Nat):Int)*b;rw[aV (show k<l.length by omega)];have:((k+1:Nat):Int)*b=k*b+b:=by grind
  omega
theorem zx{l:List Int}:∀k,k≤l.length→kf l k=(l.take k).sum
 |0,_=>by simp[kf]
 |k+1,a=>by
  show kf l k+l.getD k 0=_;have e:l.take (k+1)=l.take k++[l[k]'(by omega)]:=by rw[dK,ai (by omega)];rfl
  rw[zx k (by omega),aV (show k<l.length by omega),e,List.sum_append];simp
def WOk(l:List Int):Prop:=l.length≤4096∧(∀x∈l,0≤x∧x≤1073741824)∧0<l.sum
theorem WOk.an4{l:List Int}(h:WOk l):l.sum≤4398046511104:=by
 have:=(rT h.2.1 l.length (az _)).2;rw[zx _ (az _),ch]at this;have:=h.1;omega
theorem al3{n:Nat}{l:List Int}(h:WOk l)(d:Hn0 n):zS n l=some (l.sum,0):=by
 have c:=h.1;rw[afz,bN0];have b:=ba (L:=fun k j s=>m6 n k (s,l,(l.length:Int),j,())) (len:=l.length) (r:=.inr (l.sum,())) (fun i=>kf l i) (by
  intro k j a;have g:=h.2.1 _ (am a);have e:=rT h.2.1 j (by omega);show m6 n (k+1) _=m6 n k (kf l j+l.getD j 0,_);rw[IA,bP0,eU a];simp only[aa];rw[aV a,eC];simp only[aa];rw[ag,if_neg (by rw[aD,bx,bx];omega),aN,aN]) (by
  intro k;show m6 n (k+1) _=_;rw[IA,ag,if_neg (by simp),zx _ (az _),ch]) n (by omega)
 rw[show kf l 0=0 from rfl]at b;rw[b];simp only[aa,cI];rw[ag,if_neg (by rw[beq_iff_eq];have:=h.2.2;omega)]
theorem ahy{n:Nat}{l:List Int}(h:WOk l)(d:Hn0 n):wR n l=some (l.sum,0):=by
 have c:=h.1;rw[adm,bN0];have b:=ba (L:=fun k j s=>lD n k (l,s,j,())) (len:=l.length) (r:=.inr (l.sum,())) (fun i=>kf l i) (by
  intro k j a;have g:=h.2.1 _ (am a);have e:=rT h.2.1 j (by omega);show lD n (k+1) _=lD n k (l,kf l j+l.getD j 0,_);rw[Fr,bP0,eU a];simp only[aa];rw[aV a,eC];simp only[aa];rw[ag,if_neg (by rw[aD,bx,bx];omega),aN,aN]) (by
  intro k;show lD n (k+1) _=_;rw[Fr,ag,if_neg (by simp),zx _ (az _),ch]) n (by omega)
 rw[show kf l 0=0 from rfl]at b;rw[b];simp only[aa,cI];rw[ag,if_neg (by rw[beq_iff_eq];have:=h.2.2;omega)]
theorem an5{l:List Int}(h:∀x∈l,0≤x):0≤l.sum:=by
 induction l with
 |nil=>simp
 |cons x l b=>
  have c:=h x aH;have d:=b fun y a=>h y (aG _ a);rw[cO];omega
theorem aeE{l:List Int}(h:∀x∈l,0≤x){x:Int}(hx:x∈l):x≤l.sum:=by
 induction l with
 |nil=>cases hx
 |cons y l b=>
  have c:=h y aH;have d:=an5 fun z a=>h z (aG _ a);rw[cO];rcases List.mem_cons.1 hx with rfl |hx
  ·omega
  ·have:=b (fun z a=>h z (aG _ a)) hx;omega
theorem al4{l m:List Int}(h:l.Perm m):l.sum=m.sum:=by
 induction h with
 |nil=>rfl
 |cons x _ c=>simp only[cO,c]
 |swap x y l=>simp only[cO];omega
 |trans _ _ a b=>exact a.trans b
theorem ahz(K:List Int):(places K.length).map (ky K)=K:=by
 refine List.ext_getElem (by rw[dc,nz]) fun i b a=> ?_;unfold places ky;simp[a]
def some_(K o:List Int)(k:Nat):Int:=((o.take k).map (ky K)).sum
theorem auc{K o:List Int}(h:Bq K o):some_ K o o.length=K.sum:=by
 unfold some_;rw[ch,al4 (h.1.map (ky K)),ahz]
theorem ahA{K o:List Int}{k:Nat}(h:k<o.length):some_ K o (k+1)=some_ K o k+ky K o[k]:=by
 unfold some_;have e:o.take (k+1)=o.take k++[o[k]]:=by rw[dK,ai h];rfl
 rw[e,eu,List.sum_append];simp
theorem aeF{K:List Int}{x:Int}(h:0≤x∧x<(K.length:Int)):ky K x∈K:=by
 unfold ky;rw[aV (by omega)];exact am _
theorem aeG{K o:List Int}(a:WOk K)(h:Bq K o):∀{k:Nat},k≤o.length→0≤some_ K o k∧some_ K o k≤1073741824*k
 |0,_=>by simp[some_]
 |k+1,d=>by
  have b:=aeG a h (k:=k) (by omega);have c:=a.2.1 _ (aeF (K:=K) (h.mem (am (show k<o.length by omega))));rw[ahA (by omega)];omega
theorem aww{n:Nat}{K:List Int}{part:Int}(r:Hn0 n)(a:WOk K)(E:1≤part∧part≤65536):∃o j,Bq K o∧j≤o.length∧oT n (K,part)=some (o.take j,0)∧kP n (K,part)=some (o.take j,0)∧0<some_ K o j:=by
 have L:=a.1;have u:=a.an4;have g:=a.2.2;obtain⟨o,w,y,b⟩:=an3 (n:=n) (K:=K) r (by omega);have D:=b.len;have e:=auc b;have F:0<part*K.sum∧part*K.sum≤65536*K.sum:=⟨Int.mul_pos (by omega) g,bP E.2 (by omega)⟩;have step:∀(m k j:Nat),j+m=o.length→m<k→∃i,j≤i∧i≤o.length∧pA n k (K,part,K.sum,o,(j:Int),some_ K o j,())=some (o,(i:Int),())∧oy n k (K,part,K.sum,o,(j:Int),some_ K o j,())=some (o,(i:Int),())∧part*K.sum≤some_ K o i*65536:=by
  intro m
  induction m with
  |zero=>
   intro k j z B;obtain⟨k,rfl⟩:∃q,k=q+1:=⟨k -1,by omega⟩;have:j=o.length:=by omega
   subst this;rw[x9,xd,e];rw[aN (x:=K.sum*65536),aN (x:=part*K.sum),ag,bN0,if_neg (by rw[bx];omega)];refine⟨o.length,az _,az _,rfl,rfl,?_⟩;rw[e];omega
  |succ m I=>
   intro k j z B;obtain⟨k,rfl⟩:∃q,k=q+1:=⟨k -1,by omega⟩;have p:j<o.length:=by omega
   have M:=aeG a b (k:=j) (by omega);have H:=aeG a b (k:=j+1) (by omega);rw[x9,xd];rw[aN (x:=some_ K o j*65536),aN (x:=part*K.sum),ag,ag]
   by_cases c:some_ K o j*65536<part*K.sum
   ·rw[if_pos (by simpa using c),if_pos (by simpa using c),bj p];simp only[aa];rw[aoS (b.mem (am p))];simp only[aa];rw[←ahA p,aN (x:=(j:Int)+1),aN (x:=some_ K o (j+1)),show(j:Int)+1=((j+1:Nat):Int)by omega];obtain⟨i,J,d,h,l,t⟩:=I k (j+1) (by omega) (by omega);exact⟨i,by omega,d,h,l,t⟩
   ·rw[if_neg (by simpa using c),if_neg (by simpa using c)];exact⟨j,az _,by omega,rfl,rfl,by omega⟩
 obtain⟨i,-,d,h,l,t⟩:=step o.length n 0 (by omega) (by omega);rw[show((0:Nat):Int)=0 from rfl,show some_ K o 0=0 from rfl]at h l;refine⟨o,i,b,d,?_,?_,by omega⟩
 ·rw[Su,eC];simp only[aa];rw[ag,if_neg (by rw[aD,bx,bx];omega),al3 a r];simp only[aa];rw[show((0:Int)!=0)=false from rfl,bU,w];simp only[aa];rw[h];simp only[aa];rw[vk d];simp only[aa];rw[dU (by rw[aC];simp;omega) (by omega)];simp
 ·rw[PC,eC];simp only[aa];rw[ag,if_neg (by rw[aD,bx,bx];omega),ahy a r];simp only[aa];rw[show((0:Int)!=0)=false from rfl,bU,y];simp only[aa];rw[l];simp only[aa];rw[vk d];rfl
def qI(K:List Int)(t:Int):List Int:=K.map fun w=>w*t/K.sum
def rI(K:List Int)(t:Int):List Int:=K.map fun w=>w*t % K.sum
def ug(K:List Int)(t:Int):Int:=t -(qI K t).sum
theorem ar9{K:List Int}{t:Int}:K.sum*ug K t=(rI K t).sum:=by
 have a:∀(l:List Int) (S:Int),(l.map fun w=>w*t % S).sum=l.sum*t -S*(l.map fun w=>w*t/S).sum:=by
  intro l S
  induction l with
  |nil=>simp
  |cons x l b=>
   simp only[cb,cO,b];have:=dN (x*t) S
   grind
 unfold ug rI qI;rw[a K K.sum]
 grind
theorem aeH{l:List Int}{S:Int}(h:∀x∈l,0≤x∧x<S):0≤l.sum∧(l≠[]→l.sum<S*l.length):=by
 induction l with
 |nil=>simp
 |cons x l d=>
  have g:=h x aH;have b:=d fun y c=>h y (aG _ c);rw[cO];refine⟨by omega,fun _=> ?_⟩;have e:S*((x::l).length:Int)=S+S*l.length:=by simp only[bg];grind
  rw[e]
  by_cases a:l=[]
  ·subst a;simp;omega
  ·have:=b.2 a;omega
theorem aud{K:List Int}{t:Int}(a:0<K.sum):0≤ug K t∧ug K t≤K.length:=by
 have c:=ar9 (K:=K) (t:=t);have d:=aeH (l:=rI K t) (S:=K.sum) (fun x j=>by
  obtain⟨w,_,rfl⟩:=List.mem_map.1 j;exact⟨e9 _ (by omega),dz _ a⟩)
 have b:K≠[]:=by intro h;rw[h]at a;simp at a
 have e:=d.2 (by unfold rI;simpa using b);have g:(rI K t).length=K.length:=by unfold rI;simp
 rw[g,←c]at e;have i:=d.1;rw[←c]at i;have k:ug K t<K.length:=Int.lt_of_mul_lt_mul_left e (by omega);refine⟨?_,by omega⟩;apply Decidable.byContradiction;intro n;have:=Int.mul_neg_of_pos_of_neg a (show ug K t<0 by omega);omega
def bump:List Int→List Int→List Int
 |out,[]=>out
 |out,x::l=>bump (out.set x.toNat (ky out x+1)) l
theorem al5:∀{l out:List Int},(bump out l).length=out.length
 |[],_=>rfl
 |x::l,out=>by rw[bump,al5,aO]
theorem al6:∀{l out:List Int},(∀x∈l,0≤x∧x<(out.length:Int))→(bump out l).sum=out.sum+l.length
 |[],out,_=>by simp[bump]
 |x::l,out,h=>by
  have g:=h x aH;rw[bump,al6 (fun y d=>by rw[aO];exact h y (aG _ d))];have b:x.toNat<out.length:=by omega
  have c:∀(o:List Int) (k:Nat) (v:Int) (b:k<o.length),(o.set k v).sum=o.sum+(v -o[k]):=by
   intro o
   induction o with
   |nil=>intro k v b;simp at b
   |cons a o e=>
    intro k v b
    match k,b with
    |0,_=>simp only[List.set_cons_zero,cO,List.getElem_cons_zero];omega
    |k+1,b=>
     have:=e k v (by simpa using b);simp only[List.set_cons_succ,cO,List.getElem_cons_succ,this];omega
  rw[c _ _ _ b];have:ky out x=out[x.toNat]:=by unfold ky;rw[aV b]
  rw[this];simp only[bg];omega
theorem al7:∀{l out:List Int} {b:Int},l.Nodup→(∀x∈l,0≤x∧x<(out.length:Int))→(∀i (h:i<out.length),0≤out[i]∧out[i]≤b+(if(i:Int)∈l then -1 else 0))→∀y∈bump out l,0≤y∧y≤b
 |[],out,b,_,_,h,y,j=>by
  have j:y∈out:=j;obtain⟨i,k,rfl⟩:=aM j;have:=h i k;simpa using this
 |x::l,out,b,r,p,h,y,j=>by
  have u:=p x aH;have q:x.toNat<out.length:=by omega
  have g:=List.nodup_cons.1 r;have o:ky out x=out[x.toNat]:=by unfold ky;rw[aV q]
  refine al7 (l:=l) (out:=out.set x.toNat (ky out x+1)) (b:=b) g.2 (fun z t=>by rw[aO];exact p z (aG _ t)) (fun i k=> ?_) y j;have n:i<out.length:=by simpa using k
  have a:=h i n;rw[List.getElem_set]
  by_cases c:x.toNat=i
  ·subst c;rw[if_pos rfl,o];have e:(x.toNat:Int)=x:=by omega
   rw[e]at a ⊢;rw[if_pos aH]at a;rw[if_neg g.1];omega
  ·rw[if_neg c]
   by_cases d:(i:Int)∈l
   ·rw[if_pos (aG _ d)]at a;rw[if_pos d];exact a
   ·rw[if_neg d]
    by_cases e:(i:Int)∈x::l
    ·rw[if_pos e]at a;omega
    ·rw[if_neg e]at a;exact a
def Two{α:Type}(H:List (Option (List α)))(x y:Option (Nat×Nat×Nat))(c d:List α):Prop:=∃i a n j b m,x=some (i,a,n)∧y=some (j,b,m)∧i≠j∧rX H x=some c∧rX H y=some d
theorem Two.symm{α:Type}{H:List (Option (List α))}{x y:Option (Nat×Nat×Nat)}{D l2:List α}(h:Two H x y D l2):Two H y x l2 D:=by
 obtain⟨i,a,n,j,b,m,E,I,J,K,L⟩:=h;exact⟨j,b,m,i,a,n,I,E,fun h=>J h.symm,L,K⟩
theorem aue{α:Type}{H:List (Option α)}{i:Nat}{w:α}(h:fA H i=some w):i<H.length:=by
 rw[TE]at h;apply Decidable.byContradiction;intro a;rw[bd (by omega)]at h
 cases h
theorem asb{α:Type}{H a:List (Option (List α))}{j b m:Nat}{l:List α}(h:rX H (some (j,b,m))=some l)(c:a[j]? =H[j]?):rX a (some (j,b,m))=some l:=by
 unfold rX fA at h ⊢;simp only at h ⊢;rw[c];exact h
theorem Two.app{α:Type}{H:List (Option (List α))}{x y:Option (Nat×Nat×Nat)}{D l2 m:List α}{b:Nat}(h:Two H x y D l2)(Q:D.length+m.length≤10000000000)(O:b≤1000):∃E K,gsA b H x m=some (E,K)∧Two E K y (D++m) l2:=by
 obtain⟨i,a,n,j,L,S,rfl,rfl,M,N,I⟩:=h;obtain⟨w,R,-,-⟩:=El I;have P:=aue R;unfold gsA;simp only[N];rw[dU Q O];have J:=aem (H:=H.set i none) (l:=D++m);rw[aO]at J;refine⟨_,_,rfl,H.length,0,(D++m).length,j,L,S,rfl,rfl,by omega,J,asb I ?_⟩;unfold eE;rw[aP (by rw[aO];exact P),dq M]
theorem Two.free{α:Type}{H:List (Option (List α))}{x y:Option (Nat×Nat×Nat)}{E l2:List α}(h:Two H x y E l2):∃D,gsF H y=some (l2,D)∧rX D x=some E:=by
 obtain⟨i,a,n,j,L,M,rfl,rfl,I,J,K⟩:=h;unfold gsF;simp only[K];exact⟨_,rfl,asb J (dq (fun h=>I h.symm))⟩
theorem apY{K o:List Int}(h:Hm K o):o.Nodup:=List.Pairwise.imp (fun{a b} (h:vl K a b) e=>by subst e;exact vl.irr h) h
theorem Yd{K:List Int}{t:Int}(c:WOk K)(o:1≤t∧t≤4294967296){w:Int}(h:w∈K):0≤w*t∧w*t≤4611686018427387904∧0≤w*t/K.sum∧w*t/K.sum≤t∧(w*t % K.sum≠0→w*t/K.sum<t)∧0≤w*t % K.sum∧w*t % K.sum<K.sum:=by
 have d:=c.2.1 w h;have e:=c.2.2;have i:w≤K.sum:=aeE (fun x p=>(c.2.1 x p).1) h;have g:=cp d.1 (show 0≤t by omega);have q:=dA d.2 o.2 (by omega) (by omega);have a:=Hj e g;have j:w*t≤K.sum*t:=bP i (by omega);have k:w*t/K.sum≤t:=by
  have:=Int.ediv_le_ediv e j;rw[Int.mul_ediv_cancel_left _ (by omega)]at this;exact this
 refine⟨g,by omega,a.2.2.1,k,fun n=> ?_,a.1,a.2.1⟩;apply Decidable.byContradiction;intro r;have l:w*t/K.sum=t:=by omega
 have b:=a.2.2.2;rw[l]at b;omega
theorem al8{l:List Int}{f:Int→Int}{i:Nat}(hi:i<l.length)(m:Nat)(hm:i+(m+1)=l.length):
  ((l.map f).take i++ao (m+1) (0:Int)).set i (f l[i])=(l.map f).take (i+1)++ao m 0:=by
 rw[cH,rE (by rw[aC,dc];omega),dK,ai (by rw[dc];exact hi)];simp
theorem IU{n:Nat}{K:List Int}{t:Int}(c:WOk K)(d:1≤t∧t≤4294967296):∀(m k i:Nat),i+m=K.length→m<k→
  sU n k (t,K.sum,(),(),t -kf (qI K t) i,K,(K.length:Int),(i:Int),(qI K t).take i++ao m 0,(rI K t).take i++ao m 0,())=some ((),(),ug K t,qI K t,rI K t,())
 |0,k,i,h,E=>by
  obtain⟨k,rfl⟩:=gU k;have o:(qI K t).length=K.length:=by unfold qI;simp
  have p:(rI K t).length=K.length:=by unfold rI;simp
  have:i=K.length:=by omega
  subst this;rw[CC,ag,if_neg (by simp)];have y:(qI K t).take K.length=qI K t:=aR (by omega);have D:(rI K t).take K.length=rI K t:=aR (by omega);rw[y,D,zx _ (by omega),y];simp[ug]
 |m+1,k,i,h,E=>by
  obtain⟨k,rfl⟩:=gU k;have e:i<K.length:=by omega
  have F:=c.1;obtain⟨w,a⟩:∃w,w=K[i]:=⟨_,rfl⟩;have r:w∈K:=by rw[a];exact am e
  obtain⟨g,P,Q,R,-,S,T⟩:=Yd c d r;have M:=c.2.2;have H:=c.an4;have o:(qI K t).length=K.length:=by unfold qI;simp
  have p:(rI K t).length=K.length:=by unfold rI;simp
  have B:=rT (l:=qI K t) (b:=t) (fun x u=>by
   obtain⟨w,a,rfl⟩:=List.mem_map.1 u;have:=Yd c d a;exact⟨this.2.2.1,this.2.2.2.1⟩) (i+1) (by omega)
  have q:=rT (l:=qI K t) (b:=t) (fun x u=>by
   obtain⟨w,a,rfl⟩:=List.mem_map.1 u;have:=Yd c d a;exact⟨this.2.2.1,this.2.2.2.1⟩) i (by omega)
  have z:((i+1:Nat):Int)*t≤4096*4294967296:=dA (by omega) d.2 (by omega) (by omega);have j:(qI K t).getD i 0=w*t/K.sum:=by rw[aV (by omega),a];unfold qI;simp
  have I:kf (qI K t) (i+1)=kf (qI K t) i+w*t/K.sum:=by show kf (qI K t) i+(qI K t).getD i 0=_;rw[j]
  rw[CC,bP0,bj e,←a];simp only[aa];rw[aN (x:=w*t),zh (by omega) (by rw[bV g];omega) (by rw[bV g];omega),kT,bV g,pq g];simp only[aa];have N:((qI K t).take i++ao (m+1) (0:Int)).length=K.length:=by rw[ah,aC,aU];omega
  have O:((rI K t).take i++ao (m+1) (0:Int)).length=K.length:=by rw[ah,aC,aU];omega
  rw[dO];simp only[aa];rw[ai (by omega)];simp only[aa];rw[dO];simp only[aa];rw[ai (by omega)];simp only[aa];rw[dO (by rw[aO];omega)];simp only[aa];rw[ai (by rw[aO];omega)];simp only[aa];rw[List.getElem_set_self];have J:((qI K t).take i++ao (m+1) (0:Int)).set i (w*t/K.sum)=(qI K t).take (i+1)++ao m 0:=by rw[a];exact al8 (f:=fun w=>w*t/K.sum) e m h
  have L:((rI K t).take i++ao (m+1) (0:Int)).set i (w*t % K.sum)=(rI K t).take (i+1)++ao m 0:=by rw[a];exact al8 (f:=fun w=>w*t % K.sum) e m h
  rw[J,L,aN (x:=t -kf (qI K t) i -w*t/K.sum),aN,show(i:Int)+1=((i+1:Nat):Int)by omega,show t -kf (qI K t) i -w*t/K.sum=t -kf (qI K t) (i+1)by omega];exact IU c d m k (i+1) (by omega) (by omega)
theorem ahB{n:Nat}{pl:List Int}(l:pl.length≤1000000):∀(m k i:Nat) (out:List Int),i+m=pl.length→m<k→(∀x∈pl,0≤x∧x<(out.length:Int))→(∀y∈out,-1000000000≤y∧y+m≤1000000000000)→
  qT n k ((),pl,(pl.length:Int),(i:Int),out,())=some ((),bump out (pl.drop i),())
 |0,k,i,out,h,j,d,e=>by
  obtain⟨k,rfl⟩:=gU k;rw[AA,bN0,bA (by omega)];rfl
 |m+1,k,i,out,h,j,d,e=>by
  obtain⟨k,rfl⟩:=gU k;have g:i<pl.length:=by omega
  have o:=d _ (am g);obtain⟨x,c⟩:∃x:Nat,pl[i]=(x:Int):=⟨pl[i].toNat,by omega⟩;have a:x<out.length:=by omega
  have b:=e _ (am a);rw[AA,bP0,bj g,c];simp only[aa];rw[dO a];simp only[aa];rw[ai a];simp only[aa];rw[aN,aN,show(i:Int)+1=((i+1:Nat):Int)by omega];rw[ahB l m k (i+1) _ (by omega) (by omega) (fun y b=>by rw[aO];exact d y b) (fun y b=>by
   rcases ee b with b |rfl
   ·have:=e y b;omega
   ·omega),bi g,c]
  rw[bump,ax,show ky out (x:Int)=out[x]by unfold ky;rw[ax,aV a]]
theorem al9{n:Nat}{o:List Int}{s:Option (Nat×Nat×Nat)}{M:Nat}(z:M≤o.length)(B:o.length≤1000000):∀(m k i:Nat) (out:List Int) (H:List (Option (List Int))),i+m=M→m<k→rX H s=some out→(∀x∈o,0≤x∧x<(out.length:Int))→(∀y∈out,-1000000000≤y∧y+m≤1000000000000)→
  ∃l,pJ n k (s,(M:Int),o,(i:Int),H,())=some (s,l,())∧rX l s=some (bump out ((o.take M).drop i))
 |0,k,i,out,H,u,w,d,g,h=>by
  obtain⟨k,rfl⟩:=gU k;rw[yr,bN0,bA (by rw[aC];omega)];exact⟨H,rfl,d⟩
 |m+1,k,i,out,H,u,w,d,g,h=>by
  obtain⟨k,rfl⟩:=gU k;have p:i<o.length:=by omega
  have D:=g _ (am p);obtain⟨x,c⟩:∃x:Nat,o[i]=(x:Int):=⟨o[i].toNat,by omega⟩;have a:x<out.length:=by omega
  have b:=h _ (am a);rw[yr,bP0,bj p,c];simp only[aa];rw[rdG (i:=x) d rfl (ai a)];rw[aN (x:=out[x]+1)];obtain⟨H1,q,r⟩:=wrG (i:=x) (I:=(x:Int)) (out[x]+1) d rfl a;rw[r,aN,show(i:Int)+1=((i+1:Nat):Int)by omega];obtain⟨H2,b1,t⟩:=al9 (n:=n) z B m k (i+1) _ H1 (by omega) (by omega) q (fun y b=>by rw[aO];exact g y b) (fun y b=>by
   rcases ee b with b |rfl
   ·have:=h y b;omega
   ·omega)
  have j:i<(o.take M).length:=by rw[aC];omega
  refine⟨H2,b1,?_⟩;rw[t,bi j];have e:(o.take M)[i]=(x:Int):=by rw[List.getElem_take];exact c
  rw[e,bump,ax,show ky out (x:Int)=out[x]by unfold ky;rw[ax,aV a]]
theorem LO{n:Nat}{K:List Int}{t:Int}(c:WOk K)(g:1≤t∧t≤4294967296):∀(m k i:Nat) (H:List (Option (List Int))) (x y:Option (Nat×Nat×Nat)),i+m=K.length→m<k→Two H x y ((qI K t).take i) ((rI K t).take i)→
  ∃D M N,rh n k (K,t,K.sum,x,y,t -kf (qI K t) i,(i:Int),H,())=some (M,N,ug K t,D,())∧Two D M N (qI K t) (rI K t)
 |0,k,i,H,x,y,S,T,e=>by
  obtain⟨k,rfl⟩:=gU k;have p:(qI K t).length=K.length:=by unfold qI;simp
  have r:(rI K t).length=K.length:=by unfold rI;simp
  have:i=K.length:=by omega
  subst this;have E:(qI K t).take K.length=qI K t:=aR (by omega);have R:(rI K t).take K.length=rI K t:=aR (by omega);rw[E,R]at e;rw[Ba,ag,if_neg (by simp),zx _ (by omega),E];exact⟨H,x,y,rfl,e⟩
 |m+1,k,i,H,x,y,S,T,e=>by
  obtain⟨k,rfl⟩:=gU k;have I:i<K.length:=by omega
  have U:=c.1;obtain⟨w,d⟩:∃w,w=K[i]:=⟨_,rfl⟩;have z:w∈K:=by rw[d];exact am I
  obtain⟨h,q2,q3,q4,-,q6,q7⟩:=Yd c g z;have hs:=c.2.2;have V:=c.an4;have p:(qI K t).length=K.length:=by unfold qI;simp
  have r:(rI K t).length=K.length:=by unfold rI;simp
  have F:∀x∈qI K t,0≤x∧x≤t:=fun x X=>by
   obtain⟨w,d,rfl⟩:=List.mem_map.1 X;have:=Yd c g d;exact⟨this.2.2.1,this.2.2.2.1⟩
  have L:=rT (l:=qI K t) (b:=t) F (i+1) (by omega);have u:=rT (l:=qI K t) (b:=t) F i (by omega);have J:((i+1:Nat):Int)*t≤4096*4294967296:=dA (by omega) g.2 (by omega) (by omega);have a:(qI K t)[i]'(by omega)=w*t/K.sum:=by rw[d];unfold qI;simp
  have q:(rI K t)[i]'(by omega)=w*t % K.sum:=by rw[d];unfold rI;simp
  have o:(qI K t).getD i 0=w*t/K.sum:=by rw[aV (by omega),a]
  have W:kf (qI K t) (i+1)=kf (qI K t) i+w*t/K.sum:=by show kf (qI K t) i+(qI K t).getD i 0=_;rw[o]
  have t1:(qI K t).take i++[w*t/K.sum]=(qI K t).take (i+1):=by rw[dK,ai (by omega),a];rfl
  have t2:(rI K t).take i++[w*t % K.sum]=(rI K t).take (i+1):=by rw[dK,ai (by omega),q];rfl
  rw[Ba,bP0,bj I,←d];simp only[aa];rw[aN (x:=w*t),zh (by omega) (by rw[bV h];omega) (by rw[bV h];omega),kT,bV h,pq h];simp only[aa];obtain⟨H1,Y,O,P⟩:=e.app (b:=8) (m:=[w*t/K.sum]) (by rw[aC];simp;omega) (by omega);rw[O];simp only[aa];obtain⟨H2,Z,b1,Q⟩:=P.symm.app (b:=8) (m:=[w*t % K.sum]) (by rw[aC];simp;omega) (by omega);rw[b1];simp only[aa];have j:=Q.symm;rw[t1,t2]at j;obtain⟨_,_,_,_,_,_,-,-,-,g1,-⟩:=id j;have B:((qI K t).take (i+1))[i]? =some (w*t/K.sum):=by rw[List.getElem?_take_of_lt (by omega),ai (by omega),a]
  rw[rdG (i:=i) g1 rfl B,aN (x:=t -kf (qI K t) i -w*t/K.sum),aN,show(i:Int)+1=((i+1:Nat):Int)by omega,show t -kf (qI K t) i -w*t/K.sum=t -kf (qI K t) (i+1)by omega];exact LO c g m k (i+1) H2 Y Z (by omega) (by omega) j
theorem apZ{α:Type}:Two (eE (eE ([]:List (Option (List α))) []) []) (some (0,0,0)) (some (1,0,0)) [] []:=⟨0,0,0,1,0,0,rfl,rfl,by omega,rfl,rfl⟩
theorem shares{n:Nat}{K:List Int}{t:Int}(Y:Hn0 n)(d:WOk K)(P:1≤t∧t≤4294967296):∃w,sT n (K,t)=some (w,0)∧oh n (K,t)=some (w,0)∧w.length=K.length∧(∀x∈w,0≤x∧x≤t)∧w.sum=t:=by
 have hl:=d.1;have hs:=d.2.2;have hql:(qI K t).length=K.length:=by unfold qI;simp
 have hrl:(rI K t).length=K.length:=by unfold rI;simp
 have L:=aud (K:=K) (t:=t) hs;obtain⟨o,a1,a2,h⟩:=an3 (n:=n) (K:=rI K t) Y (by omega);have hol:o.length=K.length:=by rw[h.len,hrl]
 have hb:∀x∈qI K t,0≤x∧x≤t:=fun x g=>by
  obtain⟨w,R,rfl⟩:=List.mem_map.1 g;have:=Yd d P R;exact⟨this.2.2.1,this.2.2.2.1⟩
 have N:∀x∈o,0≤x∧x<((qI K t).length:Int):=fun x g=>by have:=h.mem g;omega
 have u:∀x∈o.take (ug K t).toNat,0≤x∧x<((qI K t).length:Int):=fun x g=>N x (cS g);refine⟨bump (qI K t) (o.take (ug K t).toNat),?_,?_,by rw[al5,hql],?_,?_⟩
 ·rw[Z2,eC];simp only[aa];rw[ag,if_neg (by rw[aD,bx,bx];omega),al3 d Y];simp only[aa];rw[show((0:Int)!=0)=false from rfl,bU,fX (m:=K.length) rfl (by omega) (by omega)];simp only[aa];have h1:=IU (n:=n) d P K.length n 0 (by omega) (by omega);rw[show((0:Nat):Int)=0 from rfl,eW,eW,bC,show kf (qI K t) 0=0 from rfl,Int.sub_zero]at h1;rw[h1];simp only[aa];rw[a1];simp only[aa];have h2:=vk (l:=o) (k:=(ug K t).toNat) (by omega);rw[show(((ug K t).toNat:Nat):Int)=ug K t by omega]at h2;rw[h2];simp only[aa];have htl:(o.take (ug K t).toNat).length=(ug K t).toNat:=by rw[aC];omega
  have h3:=ahB (n:=n) (pl:=o.take (ug K t).toNat) (by omega) (o.take (ug K t).toNat).length n 0 (qI K t) (by omega) (by omega) u (fun y D=>by have:=hb y D;omega);rw[show((0:Nat):Int)=0 from rfl,dy]at h3;rw[h3];rfl
 ·rw[Wa,eC];simp only[aa];rw[ag,if_neg (by rw[aD,bx,bx];omega),ahy d Y];simp only[aa];rw[show((0:Int)!=0)=false from rfl,bU];obtain⟨H,x,y,b1,b2⟩:=LO (n:=n) d P K.length n 0 (eE (eE [] []) []) (some (0,0,0)) (some (1,0,0)) (by omega) (by omega) (by rw[eW,eW];exact apZ);rw[show((0:Nat):Int)=0 from rfl,show kf (qI K t) 0=0 from rfl,Int.sub_zero]at b1;rw[show af (α:=(Option (List Int))) (eE [] [])=1 from rfl,b1];simp only[aa];obtain⟨H1,c1,c2⟩:=b2.free;rw[c1];simp only[aa];rw[a2];simp only[aa];obtain⟨H2,d1,d2⟩:=al9 (n:=n) (o:=o) (s:=x) (M:=(ug K t).toNat) (by omega) (by omega) (ug K t).toNat n 0 (qI K t) H1 (by omega) (by omega) c2 N (fun y D=>by have:=hb y D;omega);rw[show(((ug K t).toNat:Nat):Int)=ug K t by omega,show((0:Nat):Int)=0 from rfl]at d1;rw[d1];simp only[aa];rw[dy]at d2;obtain⟨H3,e1⟩:=aey d2;rw[e1];rfl
 ·
  have Z:=(apY h.2);have q:∀x∈o.take (ug K t).toNat,0<ky (rI K t) x:=by
   intro x g;apply Decidable.byContradiction;intro hc;obtain⟨i,hi,rfl⟩:=aM g;rw[aC]at hi;rw[List.getElem_take]at hc;have F:i<o.length:=by omega
   have r:∀z,0≤z∧z<((rI K t).length:Int)→0≤ky (rI K t) z∧ky (rI K t) z<K.sum:=by
    intro z T;obtain⟨w,R,B⟩:=List.mem_map.1 (aeF T);have:=Yd d P R;have B:w*t % K.sum=ky (rI K t) z:=B;rw[←B];exact⟨this.2.2.2.2.2.1,this.2.2.2.2.2.2⟩
   have h0:=r _ (h.mem (am F));have T:∀j (I:j<o.length),i≤j→ky (rI K t) o[j]=0:=by
    intro j I hij;have W:=r _ (h.mem (am I))
    by_cases e:j=i
    ·subst e;omega
    ·have:=wz h.2 F I (by omega);unfold vl at this;unfold ky at hc h0 W ⊢;omega
   have p:((o.map (ky (rI K t))).sum)=(rI K t).sum:=by rw[al4 (h.1.map (ky (rI K t))),ahz]
   have O:(o.map (ky (rI K t)))=(o.take i).map (ky (rI K t))++(o.drop i).map (ky (rI K t)):=by rw[←eu,bM]
   have U:((o.drop i).map (ky (rI K t))).sum=0:=by
    have:∀z∈(o.drop i).map (ky (rI K t)),z=0:=by
     intro z E;obtain⟨y,D,rfl⟩:=List.mem_map.1 E;obtain⟨j,I,rfl⟩:=aM D;rw[dE]at I;rw[List.getElem_drop];exact T _ (by omega) (by omega)
    generalize(o.drop i).map (ky (rI K t))=l at this
    induction l with
    |nil=>rfl
    |cons a l ih=>rw[cO,this a aH,ih fun z T=>this z (aG _ T)];rfl
   have Q:=aeH (l:=(o.take i).map (ky (rI K t))) (S:=K.sum) (fun z E=>by
    obtain⟨y,D,rfl⟩:=List.mem_map.1 E;exact r _ (h.mem (cS D)))
   rw[O,List.sum_append,U,Int.add_zero]at p;have X:=ar9 (K:=K) (t:=t);rw[←p]at X;have J:((o.take i).map (ky (rI K t))).length=i:=by rw[dc,aC];omega
   rw[J]at Q;have hle:((o.take i).map (ky (rI K t))).sum≤K.sum*i:=by
    by_cases e:(o.take i).map (ky (rI K t))=[]
    ·rw[e];simp;exact cp (by omega) (by omega)
    ·have:=Q.2 e;omega
   have hlt:K.sum*i<K.sum*ug K t:=Int.mul_lt_mul_of_pos_left (by omega) hs;omega
  intro x g;refine al7 (l:=o.take (ug K t).toNat) (out:=qI K t) (b:=t) (List.Nodup.sublist (List.take_sublist _ _) Z) u (fun i hi=> ?_) x g;have V:i<K.length:=by omega
  have R:=am V;have hq:=Yd d P R;have he:(qI K t)[i]=K[i]*t/K.sum:=List.getElem_map _;rw[he]
  by_cases c:(i:Int)∈o.take (ug K t).toNat
  ·rw[if_pos c];have:=q _ c;have hk:ky (rI K t) (i:Int)=K[i]*t % K.sum:=by unfold ky;rw[ax,aV (by omega)];unfold rI;simp
   rw[hk]at this;have:=hq.2.2.2.2.1 (by omega);omega
  ·rw[if_neg c];omega
 ·rw[al6 u];have:(o.take (ug K t).toNat).length=(ug K t).toNat:=by rw[aC];omega
  rw[this];unfold ug at L ⊢;omega
end Go.Am.Pu
