import Derived.Test.YtllhngpojglipaaGreatDoorP17
set_option linter.unusedVariables false
set_option linter.unusedSimpArgs false
open Bool renaming not_true→ba,or_eq_true→aB
open Int renaming mul_le_mul→dR,mul_nonneg→dq,toNat_natCast→ax
open List renaming drop_eq_getElem_cons→bz,drop_of_length_le→bB,drop_zero→dC,getD_eq_getElem?_getD→aG,getElem?_eq_getElem→ah,getElem?_set_ne→dw,getElem_mem→ak,getElem_of_mem→aL,length_append→ag,length_cons→aZ,length_replicate→aY,length_set→aP,length_take→aC,mem_cons_of_mem→aF,mem_cons_self→aH,mem_of_mem_take→dy,mem_or_eq_of_mem_set→ev,nil_append→bE,replicate_succ→cM,replicate→ao,sum_cons→dS
open Option renaming bind_some→aa
namespace Go.Am.Pu
open Go Go.Am
theorem akY{m:List Bool}{i:Nat}(h:i<m.length):idx m (i:Int)=some (m.getD i false):=qC h false
theorem anE{n:Nat}{m:List Bool}{i:Nat}(h:i<m.length):mI n ((i:Int),m)=some (m.getD i false):=by
 rw[Nn,af,if_neg (by rw[beq_iff_eq];omega),akY h];rfl
theorem Xl{n:Nat}{m:List Bool}{i:Nat}(h:i<m.length):sH n (m,(i:Int))=some (m.getD i false):=by
 rw[aed,af,if_neg (by rw[beq_iff_eq];omega),akY h];rfl
def akZ(l:List Int):List (Int×Int)→List Int
 |[]=>l
 |b::r=>akZ (l.set b.1.toNat (ky l b.1+b.2)) r
theorem anF:∀{r:List (Int×Int)} {l:List Int},(akZ l r).length=l.length
 |[],_=>rfl
 |b::r,l=>by rw[akZ,anF,aP]
theorem anG:∀{r:List (Int×Int)} {l:List Int} {c:Int},(∀b∈r,(0≤b.1∧b.1<(l.length:Int))∧(-1048576≤b.2∧b.2≤1048576))→(∀x∈l,-c≤x∧x≤c)→∀x∈akZ l r,-(c+1048576*r.length)≤x∧x≤c+1048576*r.length
 |[],l,c,_,h,x,hx=>by have:=h x hx;simp;omega
 |b::r,l,c,hb,h,x,hx=>by
  have h1:=hb b aH;have hm:=h (ky l b.1) (afA h1.1);have:=anG (r:=r) (l:=l.set b.1.toNat (ky l b.1+b.2)) (c:=c+1048576) (fun z hz=>by rw[aP];exact hb z (aF _ hz)) (fun z hz=>by
   rcases ev hz with hz |rfl
   ·have:=h z hz;omega
   ·omega) x hx
  simp only[aZ];omega
theorem aiK{n:Nat}{cl:List Bool×Unit}{s:Option (Nat×Nat×Nat)}{p:Par}{B:List (Int×Int)}(hB:B.length≤1000):∀(m k j:Nat) (H:List (Option (List Int))) (l:List Int),j+m=B.length→m<k→sP H s=some l→(∀b∈B,(0≤b.1∧b.1<(l.length:Int))∧(-1048576≤b.2∧b.2≤1048576))→(∀x∈l,-1000000000000≤x -1048576*m∧x+1048576*m≤1000000000000)→
  ∃H',fB n k (cl,(),s,B,(B.length:Int),(j:Int),H,p,())=some (cl,(),s,H',p,())∧sP H' s=some (akZ l (B.drop j))
 |0,k,j,H,l,h1,h2,h3,h4,h5=>by
  obtain⟨k,rfl⟩:=iY k;rw[kO,sS,bB (by omega)];exact⟨H,rfl,h3⟩
 |m+1,k,j,H,l,h1,h2,h3,h4,h5=>by
  obtain⟨k,rfl⟩:=iY k;have hj:j<B.length:=by omega
  have hb:=h4 _ (ak hj);obtain⟨t,ht⟩:∃t:Nat,B[j].1=(t:Int):=⟨B[j].1.toNat,by omega⟩;have E1:t<l.length:=by omega
  have hx:=h5 _ (ak E1);rw[kO,jK,bj hj];simp only[aa];rw[rdG (i:=t) h3 ht (ah E1)];rw[aN (x:=l[t]+B[j].2)];obtain⟨H1,a1,a2⟩:=wrG (i:=t) (I:=B[j].1) (l[t]+B[j].2) h3 ht E1;rw[a2,aN,show(j:Int)+1=((j+1:Nat):Int)by omega];obtain⟨H2,b1,b2⟩:=aiK (n:=n) (cl:=cl) (s:=s) (p:=p) hB m k (j+1) H1 _ (by omega) (by omega) a1 (fun b hb=>by rw[aP];exact h4 b hb) (fun x hx=>by
   rcases ev hx with hx |rfl
   ·have:=h5 x hx;omega
   ·omega)
  refine⟨H2,b1,?_⟩;rw[b2,bz hj,akZ,ht,ax,show ky l (t:Int)=l[t]by unfold ky;rw[ax,aT E1]]
theorem afD{n:Nat}{mk:List Bool}{s:Option (Nat×Nat×Nat)}{p:Par}{B:List (Int×Int)}(hB:B.length≤1000):∀(m k j:Nat) (H:List (Option (List Int))) (l:List Int),j+m=B.length→m<k→sP H s=some l→(∀b∈B,(0≤b.1∧b.1<(l.length:Int))∧(-1048576≤b.2∧b.2≤1048576))→(∀x∈l,-1000000000000≤x -1048576*m∧x+1048576*m≤1000000000000)→
  ∃H',pj n k (mk,(),s,B,(B.length:Int),(j:Int),H,p,())=some (mk,(),s,H',p,())∧sP H' s=some (akZ l (B.drop j))
 |0,k,j,H,l,h1,h2,h3,h4,h5=>by
  obtain⟨k,rfl⟩:=iY k;rw[xP,sS,bB (by omega)];exact⟨H,rfl,h3⟩
 |m+1,k,j,H,l,h1,h2,h3,h4,h5=>by
  obtain⟨k,rfl⟩:=iY k;have hj:j<B.length:=by omega
  have hb:=h4 _ (ak hj);obtain⟨t,ht⟩:∃t:Nat,B[j].1=(t:Int):=⟨B[j].1.toNat,by omega⟩;have E1:t<l.length:=by omega
  have hx:=h5 _ (ak E1);rw[xP,jK,bj hj];simp only[aa];rw[rdG (i:=t) h3 ht (ah E1)];rw[aN (x:=l[t]+B[j].2)];obtain⟨H1,a1,a2⟩:=wrG (i:=t) (I:=B[j].1) (l[t]+B[j].2) h3 ht E1;rw[a2,aN,show(j:Int)+1=((j+1:Nat):Int)by omega];obtain⟨H2,b1,b2⟩:=afD (n:=n) (mk:=mk) (s:=s) (p:=p) hB m k (j+1) H1 _ (by omega) (by omega) a1 (fun b hb=>by rw[aP];exact h4 b hb) (fun x hx=>by
   rcases ev hx with hx |rfl
   ·have:=h5 x hx;omega
   ·omega)
  refine⟨H2,b1,?_⟩;rw[b2,bz hj,akZ,ht,ax,show ky l (t:Int)=l[t]by unfold ky;rw[ax,aT E1]]
def UI(l:List Int)(m:List Bool):Nat→Option Int
 |0=>none
 |k+1=>if m.getD k false=true then(match UI l m k with |none=>some (l.getD k 0)|some q=>some (if l.getD k 0>q then l.getD k 0 else q))else UI l m k
theorem ak0{l:List Int}{m:List Bool}:∀{k:Nat},(∀q,UI l m k=some q→(∃i,i<k∧m.getD i false=true∧l.getD i 0=q)∧∀i,i<k→m.getD i false=true→l.getD i 0≤q)∧(UI l m k=none→∀i,i<k→m.getD i false=false)
 |0=>⟨fun q h=>(by cases h),fun _ i hi=>by omega⟩
 |k+1=>by
  have ih:=ak0 (l:=l) (m:=m) (k:=k);have e:UI l m (k+1)=if m.getD k false=true then(match UI l m k with |none=>some (l.getD k 0)|some q=>some (if l.getD k 0>q then l.getD k 0 else q))else UI l m k:=rfl;rw[e]
  by_cases c:m.getD k false=true
  ·rw[if_pos c]
   cases hq:UI l m k with
   |none=>
    refine⟨fun q h=> ?_,fun h=>(by cases h)⟩;have hq':l.getD k 0=q:=by simpa using h
    refine⟨⟨k,by omega,c,hq'⟩,fun i hi hm=> ?_⟩
    by_cases hik:i=k
    ·subst hik;omega
    ·have:=ih.2 hq i (by omega);rw[this]at hm;cases hm
   |some r=>
    obtain⟨⟨j,j1,j2,j3⟩,j4⟩:=ih.1 r hq;refine⟨fun q h=> ?_,fun h=>(by cases h)⟩;have hq':(if l.getD k 0>r then l.getD k 0 else r)=q:=by simpa using h
    subst hq'
    by_cases d:l.getD k 0>r
    ·rw[if_pos d];refine⟨⟨k,by omega,c,rfl⟩,fun i hi hm=> ?_⟩
     by_cases hik:i=k
     ·subst hik;omega
     ·have:=j4 i (by omega) hm;omega
    ·rw[if_neg d];refine⟨⟨j,by omega,j2,j3⟩,fun i hi hm=> ?_⟩
     by_cases hik:i=k
     ·subst hik;omega
     ·exact j4 i (by omega) hm
  ·rw[if_neg c];refine⟨fun q h=> ?_,fun h i hi=> ?_⟩
   ·obtain⟨⟨j,j1,j2,j3⟩,j4⟩:=ih.1 q h;refine⟨⟨j,by omega,j2,j3⟩,fun i hi hm=> ?_⟩
    by_cases hik:i=k
    ·subst hik;exact absurd hm c
    ·exact j4 i (by omega) hm
   ·by_cases hik:i=k
    ·subst hik;simpa using c
    ·exact ih.2 h i (by omega)
theorem anH{n:Nat}{mk:List Bool}{s:Option (Nat×Nat×Nat)}{p:Par}{H:List (Option (List Int))}{l:List Int}(hl:l.length≤1000000)(hm:mk.length=l.length)(hs:sP H s=some l):∀(m k i:Nat),i+m=l.length→m<k→
  fC n k ((mk,()),(),s,(UI l mk i).isNone,(UI l mk i).getD 0,s,(l.length:Int),(i:Int),H,p,())=some ((mk,()),(),s,(UI l mk l.length).getD 0,H,p,())
 |0,k,i,h1,h2=>by
  obtain⟨k,rfl⟩:=iY k;have:i=l.length:=by omega
  subst this;rw[kP,af,if_neg (by simp)]
 |m+1,k,i,h1,h2=>by
  obtain⟨k,rfl⟩:=iY k;have hi:i<l.length:=by omega
  rw[kP,jK];rw[rdG (i:=i) hs rfl (ah hi),anE (m:=mk) (i:=i) (by omega)];simp only[aa];rw[aN,show(i:Int)+1=((i+1:Nat):Int)by omega];have hg:l.getD i 0=l[i]:=aT hi 0;have e:UI l mk (i+1)=if mk.getD i false=true then(match UI l mk i with |none=>some (l.getD i 0)|some q=>some (if l.getD i 0>q then l.getD i 0 else q))else UI l mk i:=rfl;have ih:=anH (n:=n) (p:=p) hl hm hs m k (i+1) (by omega) (by omega);rw[e]at ih
  cases hc:mk.getD i false with
  |false=>
   rw[hc,if_neg (by simp)]at ih;exact ih
  |true=>
   rw[hc,if_pos rfl]at ih
   cases hq:UI l mk i with
   |none=>
    rw[hq]at ih;rw[hg]at ih;exact ih
   |some q=>
    rw[hq]at ih;simp only[Option.isNone_some,Option.getD_some,j9,cg]at ih ⊢;rw[hg]at ih;simp only[aa];rw[af]
    by_cases d:l[i]>q
    ·rw[if_pos d]at ih;rw[if_pos (by simpa using d)];exact ih
    ·rw[if_neg d]at ih;rw[if_neg (by simpa using d)];exact ih
theorem aiL{n:Nat}{mk:List Bool}{s:Option (Nat×Nat×Nat)}{p:Par}{H:List (Option (List Int))}{l:List Int}(hl:l.length≤1000000)(hm:mk.length=l.length)(hs:sP H s=some l):∀(m k i:Nat),i+m=l.length→m<k→
  nN n k (mk,(),s,(UI l mk i).getD 0,(UI l mk i).isSome,s,(l.length:Int),(i:Int),H,p,())=some (mk,(),s,(UI l mk l.length).getD 0,H,p,())
 |0,k,i,h1,h2=>by
  obtain⟨k,rfl⟩:=iY k;have:i=l.length:=by omega
  subst this;rw[vg,af,if_neg (by simp)]
 |m+1,k,i,h1,h2=>by
  obtain⟨k,rfl⟩:=iY k;have hi:i<l.length:=by omega
  rw[vg,jK];rw[rdG (i:=i) hs rfl (ah hi),Xl (by omega)];simp only[aa];rw[aN,show(i:Int)+1=((i+1:Nat):Int)by omega];have hg:l.getD i 0=l[i]:=aT hi 0;have e:UI l mk (i+1)=if mk.getD i false=true then(match UI l mk i with |none=>some (l.getD i 0)|some q=>some (if l.getD i 0>q then l.getD i 0 else q))else UI l mk i:=rfl;have ih:=aiL (n:=n) (p:=p) hl hm hs m k (i+1) (by omega) (by omega);rw[e]at ih
  cases hc:mk.getD i false with
  |false=>
   rw[hc,if_neg (by simp)]at ih;exact ih
  |true=>
   rw[hc,if_pos rfl]at ih
   cases hq:UI l mk i with
   |none=>
    rw[hq]at ih;rw[hg]at ih;exact ih
   |some q=>
    rw[hq]at ih;simp only[Option.isSome_some,Option.getD_some,j9,cg,ba]at ih ⊢;rw[hg]at ih;simp only[aa];rw[af]
    by_cases d:l[i]>q
    ·rw[if_pos d]at ih;rw[if_pos (by simpa using d)];exact ih
    ·rw[if_neg d]at ih;rw[if_neg (by simpa using d)];exact ih
noncomputable def lN(l:List Int)(mk:List Bool)(q num den:Int)(i:Nat):Int:=if mk.getD i false=true then W7 (256*((l.getD i 0 -q)*num/den))else 0
theorem aiM{x q num den:Int}(hx: -3000000000≤x -q∧x -q≤3000000000)(hn:0≤num∧num≤65536)(hd:1≤den∧den≤65536): -196608000000000≤(x -q)*num∧(x -q)*num≤196608000000000∧-196608000000000≤(x -q)*num/den∧(x -q)*num/den≤196608000000000:=by
 have h1: -196608000000000≤(x -q)*num∧(x -q)*num≤196608000000000:=by
  by_cases c:0≤x -q
  ·have:=dR hx.2 hn.2 hn.1 (by omega);have:=dq c hn.1;omega
  ·have h2:=dR (show -(x -q)≤3000000000 by omega) hn.2 hn.1 (by omega);have h3:=dq (show 0≤-(x -q)by omega) hn.1;rw[Int.neg_mul]at h2 h3;omega
 have h2:=jQ (x:=(x -q)*num) hd.1;refine⟨h1.1,h1.2,?_⟩
 by_cases c:0≤(x -q)*num
 ·have:=h2.1 c;omega
 ·have:=h2.2 (by omega);omega
theorem Cf{n:Nat}(hn:2000000000≤n){mk:List Bool}{s:Option (Nat×Nat×Nat)}{p:Par}{H:List (Option (List Int))}{l:List Int}{q:Int}(hl:l.length≤1000000)(hm:mk.length=l.length)(hs:sP H s=some l)(hq:∀x∈l,-3000000000≤x -q∧x -q≤3000000000)(apJ:0≤p.1∧p.1≤65536)(ak1:1≤p.2.1∧p.2.1≤65536):∀(m k i:Nat),i+m=l.length→m<k→
  fa n k ((mk,()),(),q,(),s,(l.length:Int),(i:Int),H,p,dX (lN l mk q p.1 p.2.1) i++ao m 0,())=some ((),H,dX (lN l mk q p.1 p.2.1) l.length,())
 |0,k,i,h1,h2=>by
  obtain⟨k,rfl⟩:=iY k;have:i=l.length:=by omega
  subst this;rw[kG,af,if_neg (by simp)];simp
 |m+1,k,i,h1,h2=>by
  obtain⟨k,rfl⟩:=iY k;have hi:i<l.length:=by omega
  have hx:=hq _ (ak hi);obtain⟨n1,n2,n3,n4⟩:=aiM hx apJ ak1;have hg:l.getD i 0=l[i]:=aT hi 0;have E1:(dX (lN l mk q p.1 p.2.1) i).length=i:=by simp
  rw[kG,jK];rw[rdG (i:=i) hs rfl (ah hi),anE (m:=mk) (i:=i) (by omega)];simp only[aa];have acm:(dX (lN l mk q p.1 p.2.1) i++ao (m+1) (0:Int)).set i (lN l mk q p.1 p.2.1 i)=dX (lN l mk q p.1 p.2.1) (i+1)++ao m 0:=by
   rw[cM,sm E1.symm,oz];simp
  cases hc:mk.getD i false with
  |true=>
   rw[j9,aN (x:=l[i] -q),aN (x:=(l[i] -q)*p.1),DM (by omega) (by omega) ak1.1 (by omega)];simp only[aa];rw[aN (x:=256*((l[i] -q)*p.1/p.2.1)),aeJ (by omega) (by omega) (by omega)];simp only[aa];rw[ej (by rw[ag,E1,aY];omega)];simp only[aa];rw[ah (by rw[ag,E1,aY];omega)];simp only[aa];have he:W7 (256*((l[i] -q)*p.1/p.2.1))=lN l mk q p.1 p.2.1 i:=by unfold lN;rw[if_pos hc,hg]
   rw[he,acm,aN,show(i:Int)+1=((i+1:Nat):Int)by omega];exact Cf hn hl hm hs hq apJ ak1 m k (i+1) (by omega) (by omega)
  |false=>
   rw[cg];simp only[aa];have he:lN l mk q p.1 p.2.1 i=0:=by unfold lN;rw[hc];rfl
   have hsame:dX (lN l mk q p.1 p.2.1) i++ao (m+1) (0:Int)=dX (lN l mk q p.1 p.2.1) (i+1)++ao m 0:=by
    rw[oz,he,cM];simp
   rw[hsame,aN,show(i:Int)+1=((i+1:Nat):Int)by omega];exact Cf hn hl hm hs hq apJ ak1 m k (i+1) (by omega) (by omega)
theorem yu{n:Nat}(hn:2000000000≤n){mk:List Bool}{s:Option (Nat×Nat×Nat)}{p:Par}{H:List (Option (List Int))}{l:List Int}{q:Int}(hl:l.length≤1000000)(hm:mk.length=l.length)(hs:sP H s=some l)(hq:∀x∈l,-3000000000≤x -q∧x -q≤3000000000)(apJ:0≤p.1∧p.1≤65536)(ak1:1≤p.2.1∧p.2.1≤65536):∀(m k i:Nat),i+m=l.length→m<k→
  nO n k (mk,(),q,(),s,(l.length:Int),(i:Int),H,p,dX (lN l mk q p.1 p.2.1) i++ao m 0,())=some ((),(),H,p,dX (lN l mk q p.1 p.2.1) l.length,())
 |0,k,i,h1,h2=>by
  obtain⟨k,rfl⟩:=iY k;have:i=l.length:=by omega
  subst this;rw[vh,af,if_neg (by simp)];simp
 |m+1,k,i,h1,h2=>by
  obtain⟨k,rfl⟩:=iY k;have hi:i<l.length:=by omega
  have hx:=hq _ (ak hi);obtain⟨n1,n2,n3,n4⟩:=aiM hx apJ ak1;have hg:l.getD i 0=l[i]:=aT hi 0;have E1:(dX (lN l mk q p.1 p.2.1) i).length=i:=by simp
  rw[vh,jK];rw[rdG (i:=i) hs rfl (ah hi),Xl (by omega)];simp only[aa];have acm:(dX (lN l mk q p.1 p.2.1) i++ao (m+1) (0:Int)).set i (lN l mk q p.1 p.2.1 i)=dX (lN l mk q p.1 p.2.1) (i+1)++ao m 0:=by
   rw[cM,sm E1.symm,oz];simp
  cases hc:mk.getD i false with
  |true=>
   rw[j9,aN (x:=l[i] -q),aN (x:=(l[i] -q)*p.1),DN (by omega) (by omega) ak1.1 (by omega)];simp only[aa];rw[aN (x:=256*((l[i] -q)*p.1/p.2.1)),aeK (by omega) (by omega) (by omega)];simp only[aa];rw[ej (by rw[ag,E1,aY];omega)];simp only[aa];rw[ah (by rw[ag,E1,aY];omega)];simp only[aa];have he:W7 (256*((l[i] -q)*p.1/p.2.1))=lN l mk q p.1 p.2.1 i:=by unfold lN;rw[if_pos hc,hg]
   rw[he,acm,aN,show(i:Int)+1=((i+1:Nat):Int)by omega];exact yu hn hl hm hs hq apJ ak1 m k (i+1) (by omega) (by omega)
  |false=>
   rw[cg];simp only[aa];have he:lN l mk q p.1 p.2.1 i=0:=by unfold lN;rw[hc];rfl
   have hsame:dX (lN l mk q p.1 p.2.1) i++ao (m+1) (0:Int)=dX (lN l mk q p.1 p.2.1) (i+1)++ao m 0:=by
    rw[oz,he,cM];simp
   rw[hsame,aN,show(i:Int)+1=((i+1:Nat):Int)by omega];exact yu hn hl hm hs hq apJ ak1 m k (i+1) (by omega) (by omega)
def Cg(K:List Int):List Int→List Int→List Int
 |out,[]=>out
 |out,x::l=>Cg K (out.set x.toNat (ky K x)) l
theorem anI{K:List Int}:∀{l out:List Int},(Cg K out l).length=out.length
 |[],_=>rfl
 |x::l,out=>by rw[Cg,anI,aP]
theorem anJ{K:List Int}{b:Int}(hK:∀x∈K,0≤x∧x≤b):∀{l out:List Int},(∀x∈l,0≤x∧x<(K.length:Int))→(∀y∈out,0≤y∧y≤b)→∀y∈Cg K out l,0≤y∧y≤b
 |[],out,_,h,y,hy=>h y hy
 |x::l,out,hl,h,y,hy=>by
  refine anJ hK (l:=l) (out:=out.set x.toNat (ky K x)) (fun z hz=>hl z (aF _ hz)) (fun z hz=> ?_) y hy;rcases ev hz with hz |rfl
  ·exact h z hz
  ·exact hK _ (afA (hl x aH))
theorem aqG{K:List Int}:∀{l out:List Int} {i:Nat},(∀x∈l,0≤x∧x<(out.length:Int))→(Cg K out l).getD i 0=if(i:Int)∈l then K.getD i 0 else out.getD i 0
 |[],out,i,_=>by simp[Cg]
 |x::l,out,i,hl=>by
  have hx:=hl x aH;rw[Cg,aqG (fun y hy=>by rw[aP];exact hl y (aF _ hy))]
  by_cases c:(i:Int)∈l
  ·rw[if_pos c,if_pos (aF _ c)]
  ·rw[if_neg c]
   by_cases d:x=(i:Int)
   ·subst d;rw[if_pos aH,ax];have hio:i<out.length:=by omega
    rw[aT (by rw[aP];exact hio),List.getElem_set_self];unfold ky;rw[ax]
   ·rw[if_neg (by intro h;rcases List.mem_cons.1 h with h |h;exact d h.symm;exact c h)];rw[aG,aG,dw (by omega)]
def JE(K l:List Int):List Int:=Cg K (ao K.length 0) l
theorem aiN{n:Nat}{K pl:List Int}(hp:pl.length≤1000000)(hv:∀x∈pl,0≤x∧x<(K.length:Int)):∀(m k i:Nat) (out:List Int),i+m=pl.length→m<k→out.length=K.length→
  wD n k (K,(),pl,(pl.length:Int),(i:Int),out,())=some ((),Cg K out (pl.drop i),())∧uh n k (K,(),pl,(pl.length:Int),(i:Int),out,())=some ((),Cg K out (pl.drop i),())
 |0,k,i,out,h1,h2,h3=>by
  obtain⟨k,rfl⟩:=iY k;rw[F8,DD,af,sS,if_neg (by rw[bF];omega),bB (by omega)];exact⟨rfl,rfl⟩
 |m+1,k,i,out,h1,h2,h3=>by
  obtain⟨k,rfl⟩:=iY k;have hi:i<pl.length:=by omega
  have hx:=hv _ (ak hi);obtain⟨x,hxx⟩:∃x:Nat,pl[i]=(x:Int):=⟨pl[i].toNat,by omega⟩;have hxo:x<out.length:=by omega
  have hkx:=aqF (K:=K) hx;rw[hxx]at hkx;have ih:=aiN (n:=n) hp hv m k (i+1) (out.set x (ky K (x:Int))) (by omega) (by omega) (by rw[aP];exact h3);rw[F8,DD,af,jK,if_pos (by rw[bF];omega),bj hi,hxx];simp only[aa];rw[hkx];simp only[aa];rw[ej hxo];simp only[aa];rw[ah hxo];simp only[aa];rw[aN,show(i:Int)+1=((i+1:Nat):Int)by omega,bz hi,hxx,Cg,ax];exact ih
theorem axn{n:Nat}{K pl:List Int}(hn:2000000000≤n)(hK:K.length≤1000000)(hp:pl.length≤1000000)(hv:∀x∈pl,0≤x∧x<(K.length:Int)):nz n (K,pl)=some (JE K pl)∧jV n (K,pl)=some (JE K pl):=by
 have h:=aiN (n:=n) hp hv pl.length n 0 (ao K.length 0) (by omega) (by omega) (by simp);rw[show((0:Nat):Int)=0 from rfl,dC]at h;rw[adT,aa5,gY (m:=K.length) rfl (by omega) (by omega)];simp only[aa];rw[h.1,h.2];exact⟨rfl,rfl⟩
theorem auf{l:List Int}(h1:l.length≤4096)(h2:∀x∈l,0≤x∧x≤1073741824){x:Int}(hx:x∈l)(hp:0<x):WOk l:=
 ⟨h1,h2,by have:=afz (fun y hy=>(h2 y hy).1) hx;omega⟩
theorem anK{K pl:List Int}(hW:WOk K)(hv:∀x∈pl,0≤x∧x<(K.length:Int)){x:Int}(hx:x∈pl)(hp:0<ky K x):WOk (JE K pl)∧(JE K pl).length=K.length:=by
 have hl:(JE K pl).length=K.length:=by unfold JE;rw[anI,aY]
 have hxv:=hv x hx;have hlt:x.toNat<(JE K pl).length:=by omega
 have hat:(JE K pl)[x.toNat]=ky K x:=by
  have:=aqG (K:=K) (l:=pl) (out:=ao K.length 0) (i:=x.toNat) (fun y hy=>by rw[aY];exact hv y hy);rw[show(x.toNat:Int)=x by omega,if_pos hx]at this;have h2:(JE K pl).getD x.toNat 0=K.getD x.toNat 0:=this;rw[aT hlt]at h2;exact h2
 refine⟨auf (by rw[hl];exact hW.1) (anJ hW.2.1 hv (fun y hy=> ?_)) (ak hlt) (by rw[hat];exact hp),hl⟩;rw[List.eq_of_mem_replicate hy];omega
theorem awy{K o:List Int}(hW:WOk K)(ho:Cd K o)(h0:0<o.length):0<ky K o[0]:=by
 have hle:∀x∈K,x≤ky K o[0]:=by
  intro x hx;obtain⟨i,hi,rfl⟩:=aL hx;have him:(i:Int)∈o:=ho.1.symm.subset (Ce.2 ⟨by omega,by omega⟩);obtain⟨j,hj,hji⟩:=aL him;have hk:ky K (i:Int)=K[i]:=by unfold ky;rw[ax,aT hi]
  rw[←hk,←hji]
  by_cases e:j=0
  ·subst e;omega
  ·have:=xh ho.2 h0 hj (by omega);unfold wg at this;unfold ky;omega
 apply Decidable.byContradiction;intro hc;have hz:∀x∈K,x=0:=fun x hx=>by have:=hle x hx;have:=(hW.2.1 x hx).1;omega
 have:K.sum=0:=by
  generalize K=l at hz
  induction l with
  |nil=>rfl
  |cons a l ih=>rw[dS,hz a aH,ih fun z h=>hz z (aF _ h)];rfl
 have:=hW.2.2;omega
theorem aBU{n:Nat}{e:List Int}{p:Par}{L:Nat}(hn:2000000000≤n)(hW:WOk e)(hL:e.length=L)(hp:aff p (L:Int)):
  ∃e1 j o w,((av (decide (p.2.2.1>(0:Int))) (((vM n (e,p.2.2.1))).bind fun v10=>((nz n (e,v10))).bind fun v11=>some v11) (some e))=some e1)∧
   (0<p.2.2.1→∃t,sI n (e,p.2.2.1)=some t∧jV n (e,t)=some e1)∧(¬ 0<p.2.2.1→e1=e)∧
   pG n (e1,p.2.2.2.1)=some (o,0)∧ll n (e1,p.2.2.2.1)=some (o,0)∧nz n (e1,o)=some j∧jV n (e1,o)=some j∧
   tR n (j,JQ p.2.2.2.2.1)=some (w,0)∧oW n (j,JQ p.2.2.2.2.1)=some (w,0)∧w.length=L∧(∀x∈w,0≤x∧x≤JQ p.2.2.2.2.1)∧w.sum=JQ p.2.2.2.2.1:=by
 have hel:=hW.1;have htk:=hp.tk;have h1:∃e1,((av (decide (p.2.2.1>(0:Int))) (((vM n (e,p.2.2.1))).bind fun v10=>((nz n (e,v10))).bind fun v11=>some v11) (some e))=some e1)∧
   (0<p.2.2.1→∃t,sI n (e,p.2.2.1)=some t∧jV n (e,t)=some e1)∧(¬ 0<p.2.2.1→e1=e)∧WOk e1∧e1.length=L:=by
  by_cases c:0<p.2.2.1
  ·obtain⟨o,t,t1,t2,t3,t4⟩:=aEn (n:=n) (K:=e) (k:=p.2.2.1) hn (by omega);have J5:=t3.len;have h0:0<o.length:=by omega
   have hsub:∀x∈t,x∈o:=by
    intro x hx;rw[t4]at hx
    split at hx
    ·exact dy hx
    ·exact hx
   have hv:∀x∈t,0≤x∧x<(e.length:Int):=fun x hx=>t3.mem (hsub x hx);have E1:t.length≤o.length:=by
    rw[t4];split
    ·rw[aC];omega
    ·omega
   have hm0:o[0]∈t:=by
    rw[t4]
    split
    ·rename_i hc;have:0<(o.take p.2.2.1.toNat).length:=by rw[aC];omega
     have h2:=ak this;rw[List.getElem_take]at h2;exact h2
    ·exact ak h0
   obtain⟨k1,k2⟩:=axn (n:=n) (K:=e) (pl:=t) hn (by omega) (by omega) hv;obtain⟨w1,w2⟩:=anK hW hv hm0 (awy hW t3 h0);refine⟨JE e t,?_,fun _=>⟨t,t2,k2⟩,fun h=>absurd c h,w1,by omega⟩;rw[af,if_pos (by simpa using c),t1];simp only[aa];rw[k1];rfl
  ·exact⟨e,by rw[af,if_neg (by simpa using c)],fun h=>absurd h c,fun _=>rfl,hW,hL⟩
 obtain⟨e1,f1,f2,f3,f4,f5⟩:=h1;obtain⟨o,j,a1,a2,a3,a4,a5⟩:=azd (n:=n) (K:=e1) hn f4 hp.tp;have hv:∀x∈o.take j,0≤x∧x<(e1.length:Int):=fun x hx=>a1.mem (dy hx);have J5:=a1.len;have hpos:∃x∈o.take j,0<ky e1 x:=by
  apply Decidable.byContradiction;intro hc;have hz:∀x∈(o.take j).map (ky e1),x=0:=by
   intro x hx;obtain⟨y,hy,rfl⟩:=List.mem_map.1 hx;have h3:=(f4.2.1 _ (afA (hv y hy))).1;have:¬ 0<ky e1 y:=fun h=>hc ⟨y,hy,h⟩;omega
  have:((o.take j).map (ky e1)).sum=0:=by
   generalize(o.take j).map (ky e1)=l at hz
   induction l with
   |nil=>rfl
   |cons a l ih=>rw[dS,hz a aH,ih fun z h=>hz z (aF _ h)];rfl
  unfold some_ at a5;omega
 obtain⟨x,hx,hxp⟩:=hpos;obtain⟨k1,k2⟩:=axn (n:=n) (K:=e1) (pl:=o.take j) hn (by omega) (by rw[aC];omega) hv;obtain⟨w1,w2⟩:=anK f4 hv hx hxp;have htot:=UA hp.bits;obtain⟨w,s1,s2,s3,s4,s5⟩:=shares (n:=n) (K:=JE e1 (o.take j)) (t:=JQ p.2.2.2.2.1) hn w1 (by unfold JQ;rw[if_pos hp.bits];omega);exact⟨e1,JE e1 (o.take j),o.take j,w,f1,f2,f3,a3,a4,k1,k2,s1,s2,by omega,s4,s5⟩
theorem D0{x:Int}:((decide (x<(-(1073741824:Int))))||decide (x>1073741824))=true↔¬ (-1073741824≤x∧x≤1073741824):=by
 rw[aB,bF,bF];omega
set_option maxHeartbeats 1000000 in
theorem weights{n:Nat}{sc:List Int}{mk:List Bool}{p:Par}(hn:2000000000≤n)(hp:aff p (sc.length:Int))(hs:∀x∈sc,-1073741824≤x∧x≤1073741824)(hm:mk.length=sc.length)(ht:true∈mk):
  ∃w,tT n (sc,mk,p)=some (w,0)∧rS n (sc,mk,p)=some (w,0)∧w.length=sc.length∧(∀x∈w,0≤x∧x≤JQ p.2.2.2.2.1)∧w.sum=JQ p.2.2.2.2.1:=by
 have htk:=hp.tk;have hbl:=hp.bl;have hbb:∀b∈p.2.2.2.2.2,(0≤b.1∧b.1<(sc.length:Int))∧(-1048576≤b.2∧b.2≤1048576):=by
  intro b hb;obtain⟨i,hi,rfl⟩:=aL hb;have h:=hp.b i hi;have e:uY p i=p.2.2.2.2.2[i]:=by unfold uY;rw[aT hi]
  have h1:=h.1;have h2:=h.2.1;rw[e]at h1 h2;exact⟨h1,h2⟩
 obtain⟨l,hl⟩:∃l,l=akZ sc p.2.2.2.2.2:=⟨_,rfl⟩;have GG:l.length=sc.length:=by rw[hl,anF]
 have hlr:∀x∈l,-1140850688≤x∧x≤1140850688:=by
  intro x hx;rw[hl]at hx;have:=anG (c:=1073741824) hbb hs x hx;omega
 obtain⟨q,hq⟩:∃q,UI l mk l.length=some q:=by
  cases h:UI l mk l.length with
  |some q=>exact⟨q,rfl⟩
  |none=>
   obtain⟨i,hi,hi2⟩:=aL ht;have:=ak0.2 h i (by omega);rw[aT hi,hi2]at this
   cases this
 have hq':(UI l mk l.length).getD 0=q:=by rw[hq];rfl
 obtain⟨⟨i0,i1,i2,i3⟩,i4⟩:=(ak0 (l:=l) (m:=mk) (k:=l.length)).1 q hq;have hqr: -1140850688≤q∧q≤1140850688:=by rw[←i3,aT i1];exact hlr _ (ak i1)
 have hqd:∀x∈l,-3000000000≤x -q∧x -q≤3000000000:=fun x hx=>by have:=hlr x hx;omega
 obtain⟨e,he⟩:∃e,e=dX (lN l mk q p.1 p.2.1) l.length:=⟨_,rfl⟩;have hel:e.length=sc.length:=by rw[he];simp[GG]
 have hW:WOk e:=by
  have hat:e[i0]'(by omega)=W7 0:=by
   subst he;have h1:=pW (lN l mk q p.1 p.2.1) i1 0;rw[aT (by simpa using i1)]at h1;rw[h1];unfold lN;rw[if_pos i2,i3,Int.sub_self,Int.zero_mul,Int.zero_ediv,Int.mul_zero]
  refine auf (by omega) (fun x hx=> ?_) (ak (show i0<e.length by omega)) (by rw[hat,aic];omega);obtain⟨i,hi,rfl⟩:=aL hx;subst he;have hi':i<l.length:=by simpa using hi
  have h1:=pW (lN l mk q p.1 p.2.1) hi' 0;rw[aT hi]at h1;rw[h1];unfold lN
  split
  ·exact amx _
  ·omega
 obtain⟨e1,j,o,w,g1,g2,g3,g4,g5,g6,g7,g8,g9,g10,g11,g12⟩:=aBU (n:=n) (p:=p) hn hW hel hp;refine⟨w,?_,?_,g10,g11,g12⟩
 ·rw[Tr,H6];simp only[aa];rw[decide_eq_true (show(1:Int)≤(sc.length:Int)∧(sc.length:Int)≤512 by omega)];rw[lG,na];rcases dc (L:=fun k j (_:Unit)=>bt n k (sc,(),(sc.length:Int),j,())) (len:=sc.length) (fun _=>()) (fun i=> -1073741824≤sc.getD i 0∧sc.getD i 0≤1073741824) (fun i=> .inl ((i:Int),())) (.inr ()) (by
   intro k j hj _;show(_∧bt n (k+1) _=_)∨(_∧bt n (k+1) _=_);rw[fV,jK,fk hj];simp only[aa];rw[Nm,eP];simp only[aa];rw[af]
   by_cases c: -1073741824≤sc.getD j 0∧sc.getD j 0≤1073741824
   ·rw[if_neg (by rw[D0];exact fun h=>h c),aN];exact .inl ⟨c,rfl⟩
   ·rw[if_pos (by rw[D0];exact c)];exact .inr ⟨c,rfl⟩) (by
   intro k;show bt n (k+1) _=_;rw[fV,af,if_neg (by simp)]) n (by omega)with⟨-,h2⟩|⟨j,h1,-,h3,-⟩
  case inr=>exact absurd (by rw[aT h1];exact hs _ (ak h1)) h3
  rw[h2];simp only[aa,cY,ba,cg];rw[show decide ((-(1:Int))≥0)=false from rfl,cg];obtain⟨r,r1,r2⟩:=afg (n:=n) (p:=p) (t:=(sc.length:Int)) (by omega) hn;have hr0:r=0:=by
   rcases r2 with⟨-,h⟩|⟨h,-⟩
   ·exact h
   ·exact absurd hp h
  rw[r1,hr0];simp only[aa];rw[show((0:Int)!=0)=false from rfl,cg,hm,decide_eq_true (show(sc.length:Int)>0 by omega)];simp only[j9,bne_self_eq_false,aa,cg];have hcb:jU n (mk,true)=some true:=by
   rw[Cp,HN];rcases dc (L:=fun k j (_:Unit)=>eN n k (mk,true,(mk.length:Int),j,())) (len:=mk.length) (fun _=>()) (fun i=>mk.getD i false=false) (fun i=> .inl ((i:Int),())) (.inr ()) (by
    intro k j hj _;show(_∧eN n (k+1) _=_)∨(_∧eN n (k+1) _=_);rw[rc,jK,akY hj];simp only[aa]
    cases c:mk.getD j false with
    |true=>exact .inr ⟨by simp,rfl⟩
    |false=>rw[aN];exact .inl ⟨rfl,rfl⟩) (by
    intro k;show eN n (k+1) _=_;rw[rc,af,if_neg (by simp)]) n (by omega)with⟨h1,-⟩|⟨j,h1,-,-,h4⟩
   ·obtain⟨i,hi,hi2⟩:=aL ht;have:=h1 i hi;rw[aT hi,hi2]at this
    cases this
   ·rw[h4];simp only[aa,cY];rw[decide_eq_true (show(j:Int)≥0 by omega)]
  rw[hcb];simp only[aa,ba,cg];have aBV:fX n (sc,(mk,()),p)=some e:=by
   rw[uV,et (by simp;omega) (by omega)];simp only[aa,bE];have aEx:sc.length≠0:=by omega
   obtain⟨a,sc',hsc⟩:=List.exists_cons_of_ne_nil (show sc≠[]from fun h=>aEx (by rw[h];rfl));have aEy:gad [] sc=some ([some sc],some (0,0,sc.length)):=by rw[hsc];rfl
   have hgs:sP [some sc] (some (0,0,sc.length))=some sc:=by
    unfold sP;simp only[show fP [some sc] 0=some sc from rfl];rw[lK];simp
   rw[aEy];simp only[aa];obtain⟨H1,b1,b2⟩:=aiK (n:=n) (cl:=(mk,())) (s:=some (0,0,sc.length)) (p:=p) (B:=p.2.2.2.2.2) (by omega) p.2.2.2.2.2.length n 0 [some sc] sc (by omega) (by omega) hgs hbb (fun x hx=>by have:=hs x hx;omega);rw[show((0:Nat):Int)=0 from rfl]at b1;rw[b1];simp only[aa];rw[dC,←hl]at b2;rw[YK b2];have Va:=anH (n:=n) (p:=p) (mk:=mk) (by omega) (by omega) b2 l.length n 0 (by omega) (by omega);rw[show((0:Nat):Int)=0 from rfl,show(UI l mk 0).isNone=true from rfl,show(UI l mk 0).getD 0=0 from rfl,hq']at Va;rw[Va];simp only[aa];rw[YK b2,gY (m:=l.length) rfl (by omega) (by omega)];simp only[aa];have hh:=Cf (n:=n) hn (mk:=mk) (p:=p) (q:=q) (by omega) (by omega) b2 hqd hp.num hp.den l.length n 0 (by omega) (by omega);rw[show((0:Nat):Int)=0 from rfl,eS,bE]at hh;rw[hh,←he];rfl
  rw[aBV];simp only[aa];rw[g1];simp only[aa];rw[g4];simp only[aa];rw[g6];simp only[aa];rw[afe hn];simp only[aa];rw[g8];rfl
 ·have aze:wZ n (sc,mk,p)=some 0:=by
   rw[WR,af,if_neg (by rw[beq_iff_eq];omega)];simp only[aa];rw[sS];rcases dc (L:=fun k j (_:Unit)=>jI n k (sc,mk,(),sc,(sc.length:Int),j,p,())) (len:=sc.length) (fun _=>()) (fun i=> -1073741824≤sc.getD i 0∧sc.getD i 0≤1073741824) (fun i=> .inl (221,())) (.inr (sc,mk,(),p,())) (by
    intro k j hj _;show(_∧jI n (k+1) _=_)∨(_∧jI n (k+1) _=_);rw[BT,jK,fk hj];simp only[aa];rw[eP];simp only[aa];rw[af]
    by_cases c: -1073741824≤sc.getD j 0∧sc.getD j 0≤1073741824
    ·rw[if_neg (by rw[D0];exact fun h=>h c),aN];exact .inl ⟨c,rfl⟩
    ·rw[if_pos (by rw[D0];exact c)];exact .inr ⟨c,rfl⟩) (by
    intro k;show jI n (k+1) _=_;rw[BT,af,if_neg (by simp)]) n (by omega)with⟨-,h2⟩|⟨j,h1,-,h3,-⟩
   case inr=>exact absurd (by rw[aT h1];exact hs _ (ak h1)) h3
   rw[h2];simp only[aa,cY];obtain⟨r,r1,r2⟩:=YJ (n:=n) (p:=p) (t:=(sc.length:Int)) (by omega) hn;have hr0:r=0:=by
    rcases r2 with⟨-,h⟩|⟨h,-⟩
    ·exact h
    ·exact absurd hp h
   rw[r1,hr0];simp only[aa];rw[show((0:Int)!=0)=false from rfl,cg,hm,show((sc.length:Int)!=0)=true by rw[bne_iff_ne];omega];simp only[j9,bne_self_eq_false,aa,cg];rcases dc (L:=fun k j (_:Unit)=>iX n k (mk,(sc.length:Int),j,())) (len:=sc.length) (fun _=>()) (fun i=>mk.getD i false=false) (fun i=> .inl (0,())) (.inr ()) (by
    intro k j hj _;show(_∧iX n (k+1) _=_)∨(_∧iX n (k+1) _=_);rw[yZ,jK,Xl (m:=mk) (i:=j) (by omega)];simp only[aa]
    cases c:mk.getD j false with
    |true=>exact .inr ⟨by simp,rfl⟩
    |false=>rw[aN];exact .inl ⟨rfl,rfl⟩) (by
    intro k;show iX n (k+1) _=_;rw[yZ,af,if_neg (by simp)]) n (by omega)with⟨h1,-⟩|⟨j,h1,-,-,h4⟩
   ·obtain⟨i,hi,hi2⟩:=aL ht;have:=h1 i (by omega);rw[aT hi,hi2]at this
    cases this
   ·rw[h4];rfl
  rw[Qt,aze];simp only[aa];rw[show((0:Int)!=0)=false from rfl,cg];obtain⟨H0,s,a1,a2⟩:=M6 (b:=8) (m:=sc) (UD (α:=Int)) (by simp;omega) (by omega);rw[bE]at a2;rw[a1];simp only[aa];obtain⟨H1,b1,b2⟩:=afD (n:=n) (mk:=mk) (s:=s) (p:=p) (B:=p.2.2.2.2.2) (by omega) p.2.2.2.2.2.length n 0 H0 sc (by omega) (by omega) a2 hbb (fun x hx=>by have:=hs x hx;omega);rw[show((0:Nat):Int)=0 from rfl]at b1;rw[b1];simp only[aa];rw[dC,←hl]at b2;rw[YK b2];have Va:=aiL (n:=n) (p:=p) (mk:=mk) (by omega) (by omega) b2 l.length n 0 (by omega) (by omega);rw[show((0:Nat):Int)=0 from rfl,show(UI l mk 0).isSome=false from rfl,show(UI l mk 0).getD 0=0 from rfl,hq']at Va;rw[Va];simp only[aa];rw[YK b2,gY (m:=l.length) rfl (by omega) (by omega)];simp only[aa];have hh:=yu (n:=n) hn (mk:=mk) (p:=p) (q:=q) (by omega) (by omega) b2 hqd hp.num hp.den l.length n 0 (by omega) (by omega);rw[show((0:Nat):Int)=0 from rfl,eS,bE]at hh;rw[hh];simp only[aa];rw[←he,YI,af]
  by_cases c:0<p.2.2.1
  ·obtain⟨t,t1,t2⟩:=g2 c;rw[if_pos (by simpa using c),t1];simp only[aa];rw[t2];simp only[aa];rw[g5];simp only[aa];rw[g7];simp only[aa];rw[g9];rfl
  ·have:=g3 c;subst this;rw[if_neg (by simpa using c),g5];simp only[aa];rw[g7];simp only[aa];rw[g9];rfl
end Go.Am.Pu
