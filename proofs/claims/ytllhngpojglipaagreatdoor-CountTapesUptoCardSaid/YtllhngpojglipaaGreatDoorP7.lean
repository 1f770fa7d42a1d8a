import Derived.Test.YtllhngpojglipaaGreatDoorP6
import Derived.Test.YtllhngpojglipaaGreatDoorP5
set_option linter.unusedVariables false
set_option linter.unusedSimpArgs false
open Bool renaming not_eq_true'→aZ,not_eq_true→ew,not_true→aY,or_eq_true→aD
open Int renaming ediv_nonneg→e7,le_of_lt→acP,mul_le_mul_of_nonneg_right→bP,mul_le_mul→dA,mul_nonneg→cp,pow_pos→ed,toNat_natCast→ax
open Go.IntKind renaming bits→b9,wrap→ae
open List renaming drop_eq_getElem_cons→bi,drop_of_length_le→bA,drop_zero→dy,getD_eq_getElem?_getD→aB,getElem?_eq_getElem→ai,getElem?_set_ne→dq,getElem_mem→am,getElem_of_mem→aM,length_append→ah,length_cons→bg,length_map→dc,length_nil→dr,length_replicate→aU,length_set→aO,length_take→aC,mem_append_left→aS,mem_append_right→bp,mem_cons_of_mem→aG,mem_cons_self→aH,mem_of_mem_take→cS,mem_or_eq_of_mem_set→ee,nil_append→bC,replicate_succ→cH,replicate→ao,sum_cons→cO,take_add_one→dK,take_of_length_le→aR,take_zero→eW
open Nat renaming le_refl→az,mul_le_mul→bD,zero_add→dJ
open Option renaming bind_some→aa
namespace Go.Am.Pu
open Go Go.Am
theorem ajH{m:List Bool}{i:Nat}(h:i<m.length):idx m (i:Int)=some (m.getD i false):=p6 h false
theorem ama{n:Nat}{m:List Bool}{i:Nat}(h:i<m.length):ma n ((i:Int),m)=some (m.getD i false):=by
 rw[MD,ag,if_neg (by rw[beq_iff_eq];omega),ajH h];rfl
theorem WA{n:Nat}{m:List Bool}{i:Nat}(h:i<m.length):rQ n (m,(i:Int))=some (m.getD i false):=by
 rw[adk,ag,if_neg (by rw[beq_iff_eq];omega),ajH h];rfl
def ajI(l:List Int):List (Int×Int)→List Int
 |[]=>l
 |b::r=>ajI (l.set b.1.toNat (ky l b.1+b.2)) r
theorem amb:∀{r:List (Int×Int)} {l:List Int},(ajI l r).length=l.length
 |[],_=>rfl
 |b::r,l=>by rw[ajI,amb,aO]
theorem amc:∀{r:List (Int×Int)} {l:List Int} {c:Int},(∀b∈r,(0≤b.1∧b.1<(l.length:Int))∧(-1048576≤b.2∧b.2≤1048576))→(∀x∈l,-c≤x∧x≤c)→∀x∈ajI l r,-(c+1048576*r.length)≤x∧x≤c+1048576*r.length
 |[],l,c,_,h,x,d=>by have:=h x d;simp;omega
 |b::r,l,c,e,h,x,d=>by
  have g:=e b aH;have i:=h (ky l b.1) (aeF g.1);have:=amc (r:=r) (l:=l.set b.1.toNat (ky l b.1+b.2)) (c:=c+1048576) (fun z a=>by rw[aO];exact e z (aG _ a)) (fun z a=>by
   rcases ee a with a |rfl
   ·have:=h z a;omega
   ·omega) x d
  simp only[bg];omega
theorem ahC{n:Nat}{cl:List Bool×Unit}{s:Option (Nat×Nat×Nat)}{p:Par}{B:List (Int×Int)}(E:B.length≤1000):∀(m k j:Nat) (H:List (Option (List Int))) (l:List Int),j+m=B.length→m<k→rX H s=some l→(∀b∈B,(0≤b.1∧b.1<(l.length:Int))∧(-1048576≤b.2∧b.2≤1048576))→(∀x∈l,-1000000000000≤x -1048576*m∧x+1048576*m≤1000000000000)→
  ∃q,fe n k (cl,(),s,B,(B.length:Int),(j:Int),H,p,())=some (cl,(),s,q,p,())∧rX q s=some (ajI l (B.drop j))
 |0,k,j,H,l,z,D,c,e,g=>by
  obtain⟨k,rfl⟩:=gU k;rw[kn,bN0,bA (by omega)];exact⟨H,rfl,c⟩
 |m+1,k,j,H,l,z,D,c,e,g=>by
  obtain⟨k,rfl⟩:=gU k;have h:j<B.length:=by omega
  have r:=e _ (am h);obtain⟨t,o⟩:∃t:Nat,B[j].1=(t:Int):=⟨B[j].1.toNat,by omega⟩;have a:t<l.length:=by omega
  have d:=g _ (am a);rw[kn,bP0,bj h];simp only[aa];rw[rdG (i:=t) c o (ai a)];rw[aN (x:=l[t]+B[j].2)];obtain⟨H1,u,w⟩:=wrG (i:=t) (I:=B[j].1) (l[t]+B[j].2) c o a;rw[w,aN,show(j:Int)+1=((j+1:Nat):Int)by omega];obtain⟨H2,b1,y⟩:=ahC (n:=n) (cl:=cl) (s:=s) (p:=p) E m k (j+1) H1 _ (by omega) (by omega) u (fun b r=>by rw[aO];exact e b r) (fun x d=>by
   rcases ee d with d |rfl
   ·have:=g x d;omega
   ·omega)
  refine⟨H2,b1,?_⟩;rw[y,bi h,ajI,o,ax,show ky l (t:Int)=l[t]by unfold ky;rw[ax,aV a]]
theorem aeI{n:Nat}{mk:List Bool}{s:Option (Nat×Nat×Nat)}{p:Par}{B:List (Int×Int)}(E:B.length≤1000):∀(m k j:Nat) (H:List (Option (List Int))) (l:List Int),j+m=B.length→m<k→rX H s=some l→(∀b∈B,(0≤b.1∧b.1<(l.length:Int))∧(-1048576≤b.2∧b.2≤1048576))→(∀x∈l,-1000000000000≤x -1048576*m∧x+1048576*m≤1000000000000)→
  ∃q,oz n k (mk,(),s,B,(B.length:Int),(j:Int),H,p,())=some (mk,(),s,q,p,())∧rX q s=some (ajI l (B.drop j))
 |0,k,j,H,l,z,D,c,e,g=>by
  obtain⟨k,rfl⟩:=gU k;rw[asG,bN0,bA (by omega)];exact⟨H,rfl,c⟩
 |m+1,k,j,H,l,z,D,c,e,g=>by
  obtain⟨k,rfl⟩:=gU k;have h:j<B.length:=by omega
  have r:=e _ (am h);obtain⟨t,o⟩:∃t:Nat,B[j].1=(t:Int):=⟨B[j].1.toNat,by omega⟩;have a:t<l.length:=by omega
  have d:=g _ (am a);rw[asG,bP0,bj h];simp only[aa];rw[rdG (i:=t) c o (ai a)];rw[aN (x:=l[t]+B[j].2)];obtain⟨H1,u,w⟩:=wrG (i:=t) (I:=B[j].1) (l[t]+B[j].2) c o a;rw[w,aN,show(j:Int)+1=((j+1:Nat):Int)by omega];obtain⟨H2,b1,y⟩:=aeI (n:=n) (mk:=mk) (s:=s) (p:=p) E m k (j+1) H1 _ (by omega) (by omega) u (fun b r=>by rw[aO];exact e b r) (fun x d=>by
   rcases ee d with d |rfl
   ·have:=g x d;omega
   ·omega)
  refine⟨H2,b1,?_⟩;rw[y,bi h,ajI,o,ax,show ky l (t:Int)=l[t]by unfold ky;rw[ax,aV a]]
def TM(l:List Int)(m:List Bool):Nat→Option Int
 |0=>none
 |k+1=>if m.getD k false=true then(match TM l m k with |none=>some (l.getD k 0)|some q=>some (if l.getD k 0>q then l.getD k 0 else q))else TM l m k
theorem ajJ{l:List Int}{m:List Bool}:∀{k:Nat},(∀q,TM l m k=some q→(∃i,i<k∧m.getD i false=true∧l.getD i 0=q)∧∀i,i<k→m.getD i false=true→l.getD i 0≤q)∧(TM l m k=none→∀i,i<k→m.getD i false=false)
 |0=>⟨fun q h=>(by cases h),fun _ i n=>by omega⟩
 |k+1=>by
  have o:=ajJ (l:=l) (m:=m) (k:=k);have e:TM l m (k+1)=if m.getD k false=true then(match TM l m k with |none=>some (l.getD k 0)|some q=>some (if l.getD k 0>q then l.getD k 0 else q))else TM l m k:=rfl;rw[e]
  by_cases c:m.getD k false=true
  ·rw[if_pos c]
   cases w:TM l m k with
   |none=>
    refine⟨fun q h=> ?_,fun h=>(by cases h)⟩;have g:l.getD k 0=q:=by simpa using h
    refine⟨⟨k,by omega,c,g⟩,fun i n b=> ?_⟩
    by_cases a:i=k
    ·subst a;omega
    ·have:=o.2 w i (by omega);rw[this]at b;cases b
   |some r=>
    obtain⟨⟨j,x,t,u⟩,p⟩:=o.1 r w;refine⟨fun q h=> ?_,fun h=>(by cases h)⟩;have g:(if l.getD k 0>r then l.getD k 0 else r)=q:=by simpa using h
    subst g
    by_cases d:l.getD k 0>r
    ·rw[if_pos d];refine⟨⟨k,by omega,c,rfl⟩,fun i n b=> ?_⟩
     by_cases a:i=k
     ·subst a;omega
     ·have:=p i (by omega) b;omega
    ·rw[if_neg d];refine⟨⟨j,by omega,t,u⟩,fun i n b=> ?_⟩
     by_cases a:i=k
     ·subst a;omega
     ·exact p i (by omega) b
  ·rw[if_neg c];refine⟨fun q h=> ?_,fun h i n=> ?_⟩
   ·obtain⟨⟨j,x,t,u⟩,p⟩:=o.1 q h;refine⟨⟨j,by omega,t,u⟩,fun i n b=> ?_⟩
    by_cases a:i=k
    ·subst a;exact absurd b c
    ·exact p i (by omega) b
   ·by_cases a:i=k
    ·subst a;simpa using c
    ·exact o.2 h i (by omega)
theorem amd{n:Nat}{mk:List Bool}{s:Option (Nat×Nat×Nat)}{p:Par}{H:List (Option (List Int))}{l:List Int}(t:l.length≤1000000)(hm:mk.length=l.length)(j:rX H s=some l):∀(m k i:Nat),i+m=l.length→m<k→
  fg n k ((mk,()),(),s,(TM l mk i).isNone,(TM l mk i).getD 0,s,(l.length:Int),(i:Int),H,p,())=some ((mk,()),(),s,(TM l mk l.length).getD 0,H,p,())
 |0,k,i,o,r=>by
  obtain⟨k,rfl⟩:=gU k;have:i=l.length:=by omega
  subst this;rw[ko,ag,if_neg (by simp)]
 |m+1,k,i,o,r=>by
  obtain⟨k,rfl⟩:=gU k;have g:i<l.length:=by omega
  rw[ko,bP0];rw[rdG (i:=i) j rfl (ai g),ama (m:=mk) (i:=i) (by omega)];simp only[aa];rw[aN,show(i:Int)+1=((i+1:Nat):Int)by omega];have c:l.getD i 0=l[i]:=aV g 0;have e:TM l mk (i+1)=if mk.getD i false=true then(match TM l mk i with |none=>some (l.getD i 0)|some q=>some (if l.getD i 0>q then l.getD i 0 else q))else TM l mk i:=rfl;have a:=amd (n:=n) (p:=p) t hm j m k (i+1) (by omega) (by omega);rw[e]at a
  cases b:mk.getD i false with
  |false=>
   rw[b,if_neg (by simp)]at a;exact a
  |true=>
   rw[b,if_pos rfl]at a
   cases h:TM l mk i with
   |none=>
    rw[h]at a;rw[c]at a;exact a
   |some q=>
    rw[h]at a;simp only[Option.isNone_some,Option.getD_some,ii,bU]at a ⊢;rw[c]at a;simp only[aa];rw[ag]
    by_cases d:l[i]>q
    ·rw[if_pos d]at a;rw[if_pos (by simpa using d)];exact a
    ·rw[if_neg d]at a;rw[if_neg (by simpa using d)];exact a
theorem ahD{n:Nat}{mk:List Bool}{s:Option (Nat×Nat×Nat)}{p:Par}{H:List (Option (List Int))}{l:List Int}(t:l.length≤1000000)(hm:mk.length=l.length)(j:rX H s=some l):∀(m k i:Nat),i+m=l.length→m<k→
  nb n k (mk,(),s,(TM l mk i).getD 0,(TM l mk i).isSome,s,(l.length:Int),(i:Int),H,p,())=some (mk,(),s,(TM l mk l.length).getD 0,H,p,())
 |0,k,i,o,r=>by
  obtain⟨k,rfl⟩:=gU k;have:i=l.length:=by omega
  subst this;rw[uA,ag,if_neg (by simp)]
 |m+1,k,i,o,r=>by
  obtain⟨k,rfl⟩:=gU k;have g:i<l.length:=by omega
  rw[uA,bP0];rw[rdG (i:=i) j rfl (ai g),WA (by omega)];simp only[aa];rw[aN,show(i:Int)+1=((i+1:Nat):Int)by omega];have c:l.getD i 0=l[i]:=aV g 0;have e:TM l mk (i+1)=if mk.getD i false=true then(match TM l mk i with |none=>some (l.getD i 0)|some q=>some (if l.getD i 0>q then l.getD i 0 else q))else TM l mk i:=rfl;have a:=ahD (n:=n) (p:=p) t hm j m k (i+1) (by omega) (by omega);rw[e]at a
  cases b:mk.getD i false with
  |false=>
   rw[b,if_neg (by simp)]at a;exact a
  |true=>
   rw[b,if_pos rfl]at a
   cases h:TM l mk i with
   |none=>
    rw[h]at a;rw[c]at a;exact a
   |some q=>
    rw[h]at a;simp only[Option.isSome_some,Option.getD_some,ii,bU,aY]at a ⊢;rw[c]at a;simp only[aa];rw[ag]
    by_cases d:l[i]>q
    ·rw[if_pos d]at a;rw[if_pos (by simpa using d)];exact a
    ·rw[if_neg d]at a;rw[if_neg (by simpa using d)];exact a
noncomputable def li(l:List Int)(mk:List Bool)(q b a:Int)(i:Nat):Int:=if mk.getD i false=true then Wk (256*((l.getD i 0 -q)*b/a))else 0
theorem ahE{x q a b:Int}(hx: -3000000000≤x -q∧x -q≤3000000000)(d:0≤a∧a≤65536)(i:1≤b∧b≤65536): -196608000000000≤(x -q)*a∧(x -q)*a≤196608000000000∧-196608000000000≤(x -q)*a/b∧(x -q)*a/b≤196608000000000:=by
 have g: -196608000000000≤(x -q)*a∧(x -q)*a≤196608000000000:=by
  by_cases c:0≤x -q
  ·have:=dA hx.2 d.2 d.1 (by omega);have:=cp c d.1;omega
  ·have e:=dA (show -(x -q)≤3000000000 by omega) d.2 d.1 (by omega);have h:=cp (show 0≤-(x -q)by omega) d.1;rw[Int.neg_mul]at e h;omega
 have e:=jz (x:=(x -q)*a) i.1;refine⟨g.1,g.2,?_⟩
 by_cases c:0≤(x -q)*a
 ·have:=e.1 c;omega
 ·have:=e.2 (by omega);omega
theorem Bs{n:Nat}(u:Hn0 n){mk:List Bool}{s:Option (Nat×Nat×Nat)}{p:Par}{H:List (Option (List Int))}{l:List Int}{q:Int}(t:l.length≤1000000)(hm:mk.length=l.length)(o:rX H s=some l)(j:∀x∈l,-3000000000≤x -q∧x -q≤3000000000)(b:0≤p.1∧p.1≤65536)(a:1≤p.2.1∧p.2.1≤65536):∀(m k i:Nat),i+m=l.length→m<k→
  eM n k ((mk,()),(),q,(),s,(l.length:Int),(i:Int),H,p,dL (li l mk q p.1 p.2.1) i++ao m 0,())=some ((),H,dL (li l mk q p.1 p.2.1) l.length,())
 |0,k,i,w,y=>by
  obtain⟨k,rfl⟩:=gU k;have:i=l.length:=by omega
  subst this;rw[kd,ag,if_neg (by simp)];simp
 |m+1,k,i,w,y=>by
  obtain⟨k,rfl⟩:=gU k;have h:i<l.length:=by omega
  have B:=j _ (am h);obtain⟨D,E,F,I⟩:=ahE B b a;have z:l.getD i 0=l[i]:=aV h 0;have d:(dL (li l mk q p.1 p.2.1) i).length=i:=by simp
  rw[kd,bP0];rw[rdG (i:=i) o rfl (ai h),ama (m:=mk) (i:=i) (by omega)];simp only[aa];have e:(dL (li l mk q p.1 p.2.1) i++ao (m+1) (0:Int)).set i (li l mk q p.1 p.2.1 i)=dL (li l mk q p.1 p.2.1) (i+1)++ao m 0:=by
   rw[cH,rE d.symm,mH];simp
  cases r:mk.getD i false with
  |true=>
   rw[ii,aN (x:=l[i] -q),aN (x:=(l[i] -q)*p.1),C2 (by omega) (by omega) a.1 (by omega)];simp only[aa];rw[aN (x:=256*((l[i] -q)*p.1/p.2.1)),adP (by omega) (by omega) (by omega)];simp only[aa];rw[dO (by rw[ah,d,aU];omega)];simp only[aa];rw[ai (by rw[ah,d,aU];omega)];simp only[aa];have g:Wk (256*((l[i] -q)*p.1/p.2.1))=li l mk q p.1 p.2.1 i:=by unfold li;rw[if_pos r,z]
   rw[g,e,aN,show(i:Int)+1=((i+1:Nat):Int)by omega];exact Bs u t hm o j b a m k (i+1) (by omega) (by omega)
  |false=>
   rw[bU];simp only[aa];have g:li l mk q p.1 p.2.1 i=0:=by unfold li;rw[r];rfl
   have c:dL (li l mk q p.1 p.2.1) i++ao (m+1) (0:Int)=dL (li l mk q p.1 p.2.1) (i+1)++ao m 0:=by
    rw[mH,g,cH];simp
   rw[c,aN,show(i:Int)+1=((i+1:Nat):Int)by omega];exact Bs u t hm o j b a m k (i+1) (by omega) (by omega)
theorem xP{n:Nat}(u:Hn0 n){mk:List Bool}{s:Option (Nat×Nat×Nat)}{p:Par}{H:List (Option (List Int))}{l:List Int}{q:Int}(t:l.length≤1000000)(hm:mk.length=l.length)(o:rX H s=some l)(j:∀x∈l,-3000000000≤x -q∧x -q≤3000000000)(b:0≤p.1∧p.1≤65536)(a:1≤p.2.1∧p.2.1≤65536):∀(m k i:Nat),i+m=l.length→m<k→
  nd n k (mk,(),q,(),s,(l.length:Int),(i:Int),H,p,dL (li l mk q p.1 p.2.1) i++ao m 0,())=some ((),(),H,p,dL (li l mk q p.1 p.2.1) l.length,())
 |0,k,i,w,y=>by
  obtain⟨k,rfl⟩:=gU k;have:i=l.length:=by omega
  subst this;rw[uB,ag,if_neg (by simp)];simp
 |m+1,k,i,w,y=>by
  obtain⟨k,rfl⟩:=gU k;have h:i<l.length:=by omega
  have B:=j _ (am h);obtain⟨D,E,F,I⟩:=ahE B b a;have z:l.getD i 0=l[i]:=aV h 0;have d:(dL (li l mk q p.1 p.2.1) i).length=i:=by simp
  rw[uB,bP0];rw[rdG (i:=i) o rfl (ai h),WA (by omega)];simp only[aa];have e:(dL (li l mk q p.1 p.2.1) i++ao (m+1) (0:Int)).set i (li l mk q p.1 p.2.1 i)=dL (li l mk q p.1 p.2.1) (i+1)++ao m 0:=by
   rw[cH,rE d.symm,mH];simp
  cases r:mk.getD i false with
  |true=>
   rw[ii,aN (x:=l[i] -q),aN (x:=(l[i] -q)*p.1),C3 (by omega) (by omega) a.1 (by omega)];simp only[aa];rw[aN (x:=256*((l[i] -q)*p.1/p.2.1)),adQ (by omega) (by omega) (by omega)];simp only[aa];rw[dO (by rw[ah,d,aU];omega)];simp only[aa];rw[ai (by rw[ah,d,aU];omega)];simp only[aa];have g:Wk (256*((l[i] -q)*p.1/p.2.1))=li l mk q p.1 p.2.1 i:=by unfold li;rw[if_pos r,z]
   rw[g,e,aN,show(i:Int)+1=((i+1:Nat):Int)by omega];exact xP u t hm o j b a m k (i+1) (by omega) (by omega)
  |false=>
   rw[bU];simp only[aa];have g:li l mk q p.1 p.2.1 i=0:=by unfold li;rw[r];rfl
   have c:dL (li l mk q p.1 p.2.1) i++ao (m+1) (0:Int)=dL (li l mk q p.1 p.2.1) (i+1)++ao m 0:=by
    rw[mH,g,cH];simp
   rw[c,aN,show(i:Int)+1=((i+1:Nat):Int)by omega];exact xP u t hm o j b a m k (i+1) (by omega) (by omega)
def Bt(K:List Int):List Int→List Int→List Int
 |out,[]=>out
 |out,x::l=>Bt K (out.set x.toNat (ky K x)) l
theorem ame{K:List Int}:∀{l out:List Int},(Bt K out l).length=out.length
 |[],_=>rfl
 |x::l,out=>by rw[Bt,ame,aO]
theorem amf{K:List Int}{b:Int}(d:∀x∈K,0≤x∧x≤b):∀{l out:List Int},(∀x∈l,0≤x∧x<(K.length:Int))→(∀y∈out,0≤y∧y≤b)→∀y∈Bt K out l,0≤y∧y≤b
 |[],out,_,h,y,c=>h y c
 |x::l,out,e,h,y,c=>by
  refine amf d (l:=l) (out:=out.set x.toNat (ky K x)) (fun z a=>e z (aG _ a)) (fun z a=> ?_) y c;rcases ee a with a |rfl
  ·exact h z a
  ·exact d _ (aeF (e x aH))
theorem aoT{K:List Int}:∀{l out:List Int} {i:Nat},(∀x∈l,0≤x∧x<(out.length:Int))→(Bt K out l).getD i 0=if(i:Int)∈l then K.getD i 0 else out.getD i 0
 |[],out,i,_=>by simp[Bt]
 |x::l,out,i,b=>by
  have g:=b x aH;rw[Bt,aoT (fun y e=>by rw[aO];exact b y (aG _ e))]
  by_cases c:(i:Int)∈l
  ·rw[if_pos c,if_pos (aG _ c)]
  ·rw[if_neg c]
   by_cases d:x=(i:Int)
   ·subst d;rw[if_pos aH,ax];have a:i<out.length:=by omega
    rw[aV (by rw[aO];exact a),List.getElem_set_self];unfold ky;rw[ax]
   ·rw[if_neg (by intro h;rcases List.mem_cons.1 h with h |h;exact d h.symm;exact c h)];rw[aB,aB,dq (by omega)]
def IV(K l:List Int):List Int:=Bt K (ao K.length 0) l
theorem ahF{n:Nat}{K pl:List Int}(l:pl.length≤1000000)(g:∀x∈pl,0≤x∧x<(K.length:Int)):∀(m k i:Nat) (out:List Int),i+m=pl.length→m<k→out.length=K.length→
  vK n k (K,(),pl,(pl.length:Int),(i:Int),out,())=some ((),Bt K out (pl.drop i),())∧tn n k (K,(),pl,(pl.length:Int),(i:Int),out,())=some ((),Bt K out (pl.drop i),())
 |0,k,i,out,h,j,e=>by
  obtain⟨k,rfl⟩:=gU k;rw[Fh,CS,ag,bN0,if_neg (by rw[bx];omega),bA (by omega)];exact⟨rfl,rfl⟩
 |m+1,k,i,out,h,j,e=>by
  obtain⟨k,rfl⟩:=gU k;have d:i<pl.length:=by omega
  have o:=g _ (am d);obtain⟨x,a⟩:∃x:Nat,pl[i]=(x:Int):=⟨pl[i].toNat,by omega⟩;have c:x<out.length:=by omega
  have b:=aoS (K:=K) o;rw[a]at b;have p:=ahF (n:=n) l g m k (i+1) (out.set x (ky K (x:Int))) (by omega) (by omega) (by rw[aO];exact e);rw[Fh,CS,ag,bP0,if_pos (by rw[bx];omega),bj d,a];simp only[aa];rw[b];simp only[aa];rw[dO c];simp only[aa];rw[ai c];simp only[aa];rw[aN,show(i:Int)+1=((i+1:Nat):Int)by omega,bi d,a,Bt,ax];exact p
theorem auS{n:Nat}{K pl:List Int}(d:Hn0 n)(c:K.length≤1000000)(a:pl.length≤1000000)(b:∀x∈pl,0≤x∧x<(K.length:Int)):mS n (K,pl)=some (IV K pl)∧jE n (K,pl)=some (IV K pl):=by
 have h:=ahF (n:=n) a b pl.length n 0 (ao K.length 0) (by omega) (by omega) (by simp);rw[show((0:Nat):Int)=0 from rfl,dy]at h;rw[acZ,aap,fX (m:=K.length) rfl (by omega) (by omega)];simp only[aa];rw[h.1,h.2];exact⟨rfl,rfl⟩
theorem asc{l:List Int}(b:l.length≤4096)(a:∀x∈l,0≤x∧x≤1073741824){x:Int}(hx:x∈l)(d:0<x):WOk l:=
 ⟨b,a,by have:=aeE (fun y c=>(a y c).1) hx;omega⟩
theorem amg{K pl:List Int}(g:WOk K)(c:∀x∈pl,0≤x∧x<(K.length:Int)){x:Int}(hx:x∈pl)(j:0<ky K x):WOk (IV K pl)∧(IV K pl).length=K.length:=by
 have h:(IV K pl).length=K.length:=by unfold IV;rw[ame,aU]
 have k:=c x hx;have a:x.toNat<(IV K pl).length:=by omega
 have b:(IV K pl)[x.toNat]=ky K x:=by
  have:=aoT (K:=K) (l:=pl) (out:=ao K.length 0) (i:=x.toNat) (fun y d=>by rw[aU];exact c y d);rw[show(x.toNat:Int)=x by omega,if_pos hx]at this;have e:(IV K pl).getD x.toNat 0=K.getD x.toNat 0:=this;rw[aV a]at e;exact e
 refine⟨asc (by rw[h];exact g.1) (amf g.2.1 c (fun y d=> ?_)) (am a) (by rw[b];exact j),h⟩;rw[List.eq_of_mem_replicate d];omega
theorem auf{K o:List Int}(n:WOk K)(p:Bq K o)(q:0<o.length):0<ky K o[0]:=by
 have g:∀x∈K,x≤ky K o[0]:=by
  intro x b;obtain⟨i,r,rfl⟩:=aM b;have c:(i:Int)∈o:=p.1.symm.subset (Br.2 ⟨by omega,by omega⟩);obtain⟨j,t,d⟩:=aM c;have u:ky K (i:Int)=K[i]:=by unfold ky;rw[ax,aV r]
  rw[←u,←d]
  by_cases e:j=0
  ·subst e;omega
  ·have:=wz p.2 q t (by omega);unfold vl at this;unfold ky;omega
 apply Decidable.byContradiction;intro y;have k:∀x∈K,x=0:=fun x b=>by have:=g x b;have:=(n.2.1 x b).1;omega
 have:K.sum=0:=by
  generalize K=l at k
  induction l with
  |nil=>rfl
  |cons a l w=>rw[cO,k a aH,w fun z h=>k z (aG _ h)];rfl
 have:=n.2.2;omega
theorem ayE{n:Nat}{e:List Int}{p:Par}{L:Nat}(r:Hn0 n)(D:WOk e)(Z:e.length=L)(E:aek p (L:Int)):
  ∃b j o w,((av (decide (p.2.2.1>(0:Int))) (((uW n (e,p.2.2.1))).bind fun g=>((mS n (e,g))).bind fun i=>some i) (some e))=some b)∧
   (0<p.2.2.1→∃t,rR n (e,p.2.2.1)=some t∧jE n (e,t)=some b)∧(¬ 0<p.2.2.1→b=e)∧
   oT n (b,p.2.2.2.1)=some (o,0)∧kP n (b,p.2.2.2.1)=some (o,0)∧mS n (b,o)=some j∧jE n (b,o)=some j∧
   sT n (j,I8 p.2.2.2.2.1)=some (w,0)∧oh n (j,I8 p.2.2.2.2.1)=some (w,0)∧w.length=L∧(∀x∈w,0≤x∧x≤I8 p.2.2.2.2.1)∧w.sum=I8 p.2.2.2.2.1:=by
 have hel:=D.1;have htk:=E.tk;have Y:∃b,((av (decide (p.2.2.1>(0:Int))) (((uW n (e,p.2.2.1))).bind fun g=>((mS n (e,g))).bind fun i=>some i) (some e))=some b)∧
   (0<p.2.2.1→∃t,rR n (e,p.2.2.1)=some t∧jE n (e,t)=some b)∧(¬ 0<p.2.2.1→b=e)∧WOk b∧b.length=L:=by
  by_cases c:0<p.2.2.1
  ·obtain⟨o,t,t1,t2,t3,t4⟩:=aAA (n:=n) (K:=e) (k:=p.2.2.1) r (by omega);have H:=t3.len;have Q:0<o.length:=by omega
   have B:∀x∈t,x∈o:=by
    intro x d;rw[t4]at d
    split at d
    ·exact cS d
    ·exact d
   have q:∀x∈t,0≤x∧x<(e.length:Int):=fun x d=>t3.mem (B x d);have htl:t.length≤o.length:=by
    rw[t4];split
    ·rw[aC];omega
    ·omega
   have F:o[0]∈t:=by
    rw[t4]
    split
    ·rename_i S;have:0<(o.take p.2.2.1.toNat).length:=by rw[aC];omega
     have R:=am this;rw[List.getElem_take]at R;exact R
    ·exact am Q
   obtain⟨M,N⟩:=auS (n:=n) (K:=e) (pl:=t) r (by omega) (by omega) q;obtain⟨O,w2⟩:=amg D q F (auf D t3 Q);refine⟨IV e t,?_,fun _=>⟨t,t2,N⟩,fun h=>absurd c h,O,by omega⟩;rw[ag,if_pos (by simpa using c),t1];simp only[aa];rw[M];rfl
  ·exact⟨e,by rw[ag,if_neg (by simpa using c)],fun h=>absurd h c,fun _=>rfl,D,Z⟩
 obtain⟨b,f1,f2,f3,f4,f5⟩:=Y;obtain⟨o,j,P,a2,V,W,X⟩:=aww (n:=n) (K:=b) r f4 E.tp;have q:∀x∈o.take j,0≤x∧x<(b.length:Int):=fun x d=>P.mem (cS d);have H:=P.len;have u:∃x∈o.take j,0<ky b x:=by
  apply Decidable.byContradiction;intro S;have J:∀x∈(o.take j).map (ky b),x=0:=by
   intro x d;obtain⟨y,U,rfl⟩:=List.mem_map.1 d;have h3:=(f4.2.1 _ (aeF (q y U))).1;have:¬ 0<ky b y:=fun h=>S ⟨y,U,h⟩;omega
  have:((o.take j).map (ky b)).sum=0:=by
   generalize(o.take j).map (ky b)=l at J
   induction l with
   |nil=>rfl
   |cons a l ih=>rw[cO,J a aH,ih fun z h=>J z (aG _ h)];rfl
  unfold some_ at X;omega
 obtain⟨x,d,I⟩:=u;obtain⟨M,N⟩:=auS (n:=n) (K:=b) (pl:=o.take j) r (by omega) (by rw[aC];omega) q;obtain⟨O,w2⟩:=amg f4 q d I;have T:=TC E.bits;obtain⟨w,s1,s2,s3,s4,s5⟩:=shares (n:=n) (K:=IV b (o.take j)) (t:=I8 p.2.2.2.2.1) r O (by unfold I8;rw[if_pos E.bits];omega);exact⟨b,IV b (o.take j),o.take j,w,f1,f2,f3,V,W,M,N,s1,s2,by omega,s4,s5⟩
theorem Df{x:Int}:((decide (x<(-(1073741824:Int))))||decide (x>1073741824))=true↔¬ (-1073741824≤x∧x≤1073741824):=by
 rw[aD,bx,bx];omega
set_option maxHeartbeats 1000000 in
theorem weights{n:Nat}{sc:List Int}{mk:List Bool}{p:Par}(N:Hn0 n)(D:aek p (sc.length:Int))(V:∀x∈sc,-1073741824≤x∧x≤1073741824)(hm:mk.length=sc.length)(ht:true∈mk):
  ∃w,sV n (sc,mk,p)=some (w,0)∧ri n (sc,mk,p)=some (w,0)∧w.length=sc.length∧(∀x∈w,0≤x∧x≤I8 p.2.2.2.2.1)∧w.sum=I8 p.2.2.2.2.1:=by
 have htk:=D.tk;have hbl:=D.bl;have H:∀b∈p.2.2.2.2.2,(0≤b.1∧b.1<(sc.length:Int))∧(-1048576≤b.2∧b.2≤1048576):=by
  intro b hb;obtain⟨i,g,rfl⟩:=aM hb;have h:=D.b i g;have e:uq p i=p.2.2.2.2.2[i]:=by unfold uq;rw[aV g]
  have d:=h.1;have K:=h.2.1;rw[e]at d K;exact⟨d,K⟩
 obtain⟨l,W⟩:∃l,l=ajI sc p.2.2.2.2.2:=⟨_,rfl⟩;have hll:l.length=sc.length:=by rw[W,amb]
 have R:∀x∈l,-1140850688≤x∧x≤1140850688:=by
  intro x E;rw[W]at E;have:=amc (c:=1073741824) H V x E;omega
 obtain⟨q,hq⟩:∃q,TM l mk l.length=some q:=by
  cases h:TM l mk l.length with
  |some q=>exact⟨q,rfl⟩
  |none=>
   obtain⟨i,g,y⟩:=aM ht;have:=ajJ.2 h i (by omega);rw[aV g,y]at this
   cases this
 have T:(TM l mk l.length).getD 0=q:=by rw[hq];rfl
 obtain⟨⟨i0,X,i2,i3⟩,i4⟩:=(ajJ (l:=l) (m:=mk) (k:=l.length)).1 q hq;have hqr: -1140850688≤q∧q≤1140850688:=by rw[←i3,aV X];exact R _ (am X)
 have U:∀x∈l,-3000000000≤x -q∧x -q≤3000000000:=fun x E=>by have:=R x E;omega
 obtain⟨e,O⟩:∃e,e=dL (li l mk q p.1 p.2.1) l.length:=⟨_,rfl⟩;have hel:e.length=sc.length:=by rw[O];simp[hll]
 have hW:WOk e:=by
  have hat:e[i0]'(by omega)=Wk 0:=by
   subst O;have d:=po (li l mk q p.1 p.2.1) X 0;rw[aV (by simpa using X)]at d;rw[d];unfold li;rw[if_pos i2,i3,Int.sub_self,Int.zero_mul,Int.zero_ediv,Int.mul_zero]
  refine asc (by omega) (fun x E=> ?_) (am (show i0<e.length by omega)) (by rw[hat,ag4];omega);obtain⟨i,g,rfl⟩:=aM E;subst O;have hi':i<l.length:=by simpa using g
  have d:=po (li l mk q p.1 p.2.1) hi' 0;rw[aV g]at d;rw[d];unfold li
  split
  ·exact ak4 _
  ·omega
 obtain⟨e1,j,o,w,g1,g2,g3,g4,g5,g6,g7,g8,g9,Y,Z,g12⟩:=ayE (n:=n) (p:=p) N hW hel D;refine⟨w,?_,?_,Y,Z,g12⟩
 ·rw[Sv,Hi];simp only[aa];rw[decide_eq_true (show(1:Int)≤(sc.length:Int)∧(sc.length:Int)≤512 by omega)];rw[k9,mC];rcases cZ (L:=fun k j (_:Unit)=>bv n k (sc,(),(sc.length:Int),j,())) (len:=sc.length) (fun _=>()) (fun i=> -1073741824≤sc.getD i 0∧sc.getD i 0≤1073741824) (fun i=> .inl ((i:Int),())) (.inr ()) (by
   intro k j M _;show(_∧bv n (k+1) _=_)∨(_∧bv n (k+1) _=_);rw[fG,bP0,eU M];simp only[aa];rw[MC,eC];simp only[aa];rw[ag]
   by_cases c: -1073741824≤sc.getD j 0∧sc.getD j 0≤1073741824
   ·rw[if_neg (by rw[Df];exact fun h=>h c),aN];exact .inl ⟨c,rfl⟩
   ·rw[if_pos (by rw[Df];exact c)];exact .inr ⟨c,rfl⟩) (by
   intro k;show bv n (k+1) _=_;rw[fG,ag,if_neg (by simp)]) n (by omega)with⟨-,K⟩|⟨j,d,-,h3,-⟩
  case inr=>exact absurd (by rw[aV d];exact V _ (am d)) h3
  rw[K];simp only[aa,cI,aY,bU];rw[show decide ((-(1:Int))≥0)=false from rfl,bU];obtain⟨r,r1,r2⟩:=ael (n:=n) (p:=p) (t:=(sc.length:Int)) (by omega) N;have J:r=0:=by
   rcases r2 with⟨-,h⟩|⟨h,-⟩
   ·exact h
   ·exact absurd D h
  rw[r1,J];simp only[aa];rw[show((0:Int)!=0)=false from rfl,bU,hm,decide_eq_true (show(sc.length:Int)>0 by omega)];simp only[ii,bne_self_eq_false,aa,bU];have hcb:jD n (mk,true)=some true:=by
   rw[BE,GY];rcases cZ (L:=fun k j (_:Unit)=>eA n k (mk,true,(mk.length:Int),j,())) (len:=mk.length) (fun _=>()) (fun i=>mk.getD i false=false) (fun i=> .inl ((i:Int),())) (.inr ()) (by
    intro k j M _;show(_∧eA n (k+1) _=_)∨(_∧eA n (k+1) _=_);rw[qB,bP0,ajH M];simp only[aa]
    cases c:mk.getD j false with
    |true=>exact .inr ⟨by simp,rfl⟩
    |false=>rw[aN];exact .inl ⟨rfl,rfl⟩) (by
    intro k;show eA n (k+1) _=_;rw[qB,ag,if_neg (by simp)]) n (by omega)with⟨d,-⟩|⟨j,d,-,-,h4⟩
   ·obtain⟨i,g,y⟩:=aM ht;have:=d i g;rw[aV g,y]at this
    cases this
   ·rw[h4];simp only[aa,cI];rw[decide_eq_true (show(j:Int)≥0 by omega)]
  rw[hcb];simp only[aa,aY,bU];have I:fI n (sc,(mk,()),p)=some e:=by
   rw[ul,dU (by simp;omega) (by omega)];simp only[aa,bC];have S:sc.length≠0:=by omega
   obtain⟨a,sc',hsc⟩:=List.exists_cons_of_ne_nil (show sc≠[]from fun h=>S (by rw[h];rfl));have P:gad [] sc=some ([some sc],some (0,0,sc.length)):=by rw[hsc];rfl
   have hgs:rX [some sc] (some (0,0,sc.length))=some sc:=by
    unfold rX;simp only[show fA [some sc] 0=some sc from rfl];rw[lf];simp
   rw[P];simp only[aa];obtain⟨H1,b1,u⟩:=ahC (n:=n) (cl:=(mk,())) (s:=some (0,0,sc.length)) (p:=p) (B:=p.2.2.2.2.2) (by omega) p.2.2.2.2.2.length n 0 [some sc] sc (by omega) (by omega) hgs H (fun x E=>by have:=V x E;omega);rw[show((0:Nat):Int)=0 from rfl]at b1;rw[b1];simp only[aa];rw[dy,←W]at u;rw[X6 u];have z:=amd (n:=n) (p:=p) (mk:=mk) (by omega) (by omega) u l.length n 0 (by omega) (by omega);rw[show((0:Nat):Int)=0 from rfl,show(TM l mk 0).isNone=true from rfl,show(TM l mk 0).getD 0=0 from rfl,T]at z;rw[z];simp only[aa];rw[X6 u,fX (m:=l.length) rfl (by omega) (by omega)];simp only[aa];have Q:=Bs (n:=n) N (mk:=mk) (p:=p) (q:=q) (by omega) (by omega) u U D.num D.den l.length n 0 (by omega) (by omega);rw[show((0:Nat):Int)=0 from rfl,eF,bC]at Q;rw[Q,←O];rfl
  rw[I];simp only[aa];rw[g1];simp only[aa];rw[g4];simp only[aa];rw[g6];simp only[aa];rw[aej N];simp only[aa];rw[g8];rfl
 ·have F:wh n (sc,mk,p)=some 0:=by
   rw[V8,ag,if_neg (by rw[beq_iff_eq];omega)];simp only[aa];rw[bN0];rcases cZ (L:=fun k j (_:Unit)=>js n k (sc,mk,(),sc,(sc.length:Int),j,p,())) (len:=sc.length) (fun _=>()) (fun i=> -1073741824≤sc.getD i 0∧sc.getD i 0≤1073741824) (fun i=> .inl (221,())) (.inr (sc,mk,(),p,())) (by
    intro k j M _;show(_∧js n (k+1) _=_)∨(_∧js n (k+1) _=_);rw[A7,bP0,eU M];simp only[aa];rw[eC];simp only[aa];rw[ag]
    by_cases c: -1073741824≤sc.getD j 0∧sc.getD j 0≤1073741824
    ·rw[if_neg (by rw[Df];exact fun h=>h c),aN];exact .inl ⟨c,rfl⟩
    ·rw[if_pos (by rw[Df];exact c)];exact .inr ⟨c,rfl⟩) (by
    intro k;show js n (k+1) _=_;rw[A7,ag,if_neg (by simp)]) n (by omega)with⟨-,K⟩|⟨j,d,-,h3,-⟩
   case inr=>exact absurd (by rw[aV d];exact V _ (am d)) h3
   rw[K];simp only[aa,cI];obtain⟨r,r1,r2⟩:=X5 (n:=n) (p:=p) (t:=(sc.length:Int)) (by omega) N;have J:r=0:=by
    rcases r2 with⟨-,h⟩|⟨h,-⟩
    ·exact h
    ·exact absurd D h
   rw[r1,J];simp only[aa];rw[show((0:Int)!=0)=false from rfl,bU,hm,show((sc.length:Int)!=0)=true by rw[bne_iff_ne];omega];simp only[ii,bne_self_eq_false,aa,bU];rcases cZ (L:=fun k j (_:Unit)=>iJ n k (mk,(sc.length:Int),j,())) (len:=sc.length) (fun _=>()) (fun i=>mk.getD i false=false) (fun i=> .inl (0,())) (.inr ()) (by
    intro k j M _;show(_∧iJ n (k+1) _=_)∨(_∧iJ n (k+1) _=_);rw[yp,bP0,WA (m:=mk) (i:=j) (by omega)];simp only[aa]
    cases c:mk.getD j false with
    |true=>exact .inr ⟨by simp,rfl⟩
    |false=>rw[aN];exact .inl ⟨rfl,rfl⟩) (by
    intro k;show iJ n (k+1) _=_;rw[yp,ag,if_neg (by simp)]) n (by omega)with⟨d,-⟩|⟨j,d,-,-,h4⟩
   ·obtain⟨i,g,y⟩:=aM ht;have:=d i (by omega);rw[aV g,y]at this
    cases this
   ·rw[h4];rfl
  rw[PD,F];simp only[aa];rw[show((0:Int)!=0)=false from rfl,bU];obtain⟨H0,s,a1,a2⟩:=Mr (b:=8) (m:=sc) (TG (α:=Int)) (by simp;omega) (by omega);rw[bC]at a2;rw[a1];simp only[aa];obtain⟨H1,b1,u⟩:=aeI (n:=n) (mk:=mk) (s:=s) (p:=p) (B:=p.2.2.2.2.2) (by omega) p.2.2.2.2.2.length n 0 H0 sc (by omega) (by omega) a2 H (fun x E=>by have:=V x E;omega);rw[show((0:Nat):Int)=0 from rfl]at b1;rw[b1];simp only[aa];rw[dy,←W]at u;rw[X6 u];have z:=ahD (n:=n) (p:=p) (mk:=mk) (by omega) (by omega) u l.length n 0 (by omega) (by omega);rw[show((0:Nat):Int)=0 from rfl,show(TM l mk 0).isSome=false from rfl,show(TM l mk 0).getD 0=0 from rfl,T]at z;rw[z];simp only[aa];rw[X6 u,fX (m:=l.length) rfl (by omega) (by omega)];simp only[aa];have Q:=xP (n:=n) N (mk:=mk) (p:=p) (q:=q) (by omega) (by omega) u U D.num D.den l.length n 0 (by omega) (by omega);rw[show((0:Nat):Int)=0 from rfl,eF,bC]at Q;rw[Q];simp only[aa];rw[←O,X4,ag]
  by_cases c:0<p.2.2.1
  ·obtain⟨t,t1,t2⟩:=g2 c;rw[if_pos (by simpa using c),t1];simp only[aa];rw[t2];simp only[aa];rw[g5];simp only[aa];rw[g7];simp only[aa];rw[g9];rfl
  ·have:=g3 c;subst this;rw[if_neg (by simpa using c),g5];simp only[aa];rw[g7];simp only[aa];rw[g9];rfl
def OH(e:List Int)(D p E:Nat):List Int:=dL (fun i=>(eG e D p).getD i 0*2^E) D
theorem amh{x:Int}{E:Nat}(i:E≤24)(j: -128≤x)(d:x≤127): -2147483648≤x*2^E∧x*2^E≤2147483648:=by
 have a:(2:Int)^E≤16777216:=by
  have:(2:Nat)^E≤2^24:=Nat.pow_le_pow_right (by omega) i;have h:((2^E:Nat):Int)≤((2^24:Nat):Int):=by exact_mod_cast this
  simpa using h
 have b:(0:Int)≤2^E:=acP (ed (by decide))
 by_cases c:0≤x
 ·have:=dA d a b (by omega);have:=cp c b;omega
 ·have e:=dA (show -x≤128 by omega) a b (by omega);have g:=cp (show 0≤-x by omega) b;rw[Int.neg_mul]at e g;omega
theorem awx{n:Nat}(d:10≤n){a:List Int}(h:a.length≤1048576):l5 n [a]=some 0:=by
 obtain⟨k,rfl⟩:∃k,n=k+4:=⟨n -4,by omega⟩;have b:idx [a] (0:Int)=some a:=rfl;have d1:ae .i64 ((0:Int)+1)=1:=aN (by decide) (by decide);have c:((([a]:List (List Int)).length:Nat):Int)=1:=rfl;rw[Ct,c];rw[jx,ag,if_pos (by decide),b];simp only[aa];rw[bN0,d1,jx,ag,if_neg (by decide)];simp only[aa,cI];rw[c,jy,ag,if_pos (by decide),b];simp only[aa,bne_self_eq_false,bU];rw[d1,jy,ag,if_neg (by decide)];rfl
theorem ap0{n:Nat}(u:Hn0 n){l:List Int}{E:Nat}(p:E≤24)(r:l.length≤1048576)(o:bh l):BV n (l,(E:Int))=some (dL (fun i=>l.getD i 0*2^E) l.length,0):=by
 rw[acQ,awx (by omega) r];simp only[aa];rw[show((0:Int)!=0)=false from rfl,bU,eC];simp only[aa];rw[ag,if_neg (by rw[aD,bx,bx];omega),fX (m:=l.length) rfl (by omega) (by omega)];simp only[aa];have c:∀(m k i:Nat),i+m=l.length→m<k→vF n k ((E:Int),(),l,(l.length:Int),(i:Int),dL (fun i=>l.getD i 0*2^E) i++ao m 0,())=some ((),dL (fun i=>l.getD i 0*2^E) l.length,()):=by
  intro m
  induction m with
  |zero=>
   intro k i g j;obtain⟨k,rfl⟩:=gU k;have:i=l.length:=by omega
   subst this;rw[Fb,ag,if_neg (by simp)];simp
  |succ m t=>
   intro k i g j;obtain⟨k,rfl⟩:=gU k;have q:i<l.length:=by omega
   have d: -128≤l.getD i 0∧l.getD i 0≤127:=o.at i;have w:=amh p d.1 d.2;have a:(dL (fun i=>l.getD i 0*2^E) i).length=i:=by simp
   rw[Fb,bP0,eU q];simp only[aa];rw[aN (x:=l.getD i 0)];have e:qc .i64 (l.getD i 0) (E:Int)=some (l.getD i 0*2^E):=by
    unfold qc;rw[gk,ax,show min E (b9 .i64)=E by show min E 64=E;omega,aN]
   rw[e];simp only[aa];rw[dO (by rw[ah,a,aU];omega)];simp only[aa];rw[ai (by rw[ah,a,aU];omega)];simp only[aa];have b:(dL (fun i=>l.getD i 0*2^E) i++ao (m+1) (0:Int)).set i (l.getD i 0*2^E)=dL (fun i=>l.getD i 0*2^E) (i+1)++ao m 0:=by
    rw[cH,rE a.symm,mH];simp
   rw[b,aN,show(i:Int)+1=((i+1:Nat):Int)by omega];exact t k (i+1) (by omega) (by omega)
 have h:=c l.length n 0 (by omega) (by omega);rw[show((0:Nat):Int)=0 from rfl,eF,bC]at h;rw[h];rfl
theorem ami{n:Nat}(o:Hn0 n){l:List Int}{E:Nat}(c:E≤24)(g:l.length≤1048576)(b:bh l):qv n (l,(E:Int))=some (dL (fun i=>l.getD i 0*2^E) l.length,0):=by
 rw[V1,bN0,eC];simp only[aa];rw[ag,if_neg (by rw[aD,bx,bx];omega)];have h:=ba (L:=fun k j s=>kJ n k ((E:Int),s,l,(l.length:Int),j,())) (len:=l.length) (r:=(dL (fun i=>l.getD i 0*2^E) l.length,())) (fun i=>dL (fun i=>l.getD i 0*2^E) i) (by
  intro k i d;have a: -128≤l.getD i 0∧l.getD i 0≤127:=b.at i;have q:=amh c a.1 a.2;have p:=rn (s:=E) (by omega);show kJ n (k+1) _=_;rw[AQ,bP0,eU d];simp only[aa];have e:qc .i64 1 (ae .u64 (E:Int))=some (2^E):=by
   rw[arv,Int.emod_eq_of_lt (by omega) (by omega)];unfold qc;rw[gk,ax,show min E (b9 .i64)=E by show min E 64=E;omega,Int.one_mul,aN]
  rw[e];simp only[aa];rw[aN (x:=l.getD i 0),aN (x:=l.getD i 0*2^E)];rw[fv (fun i=>l.getD i 0*2^E) (by unfold room;omega) (by unfold room;omega)];simp only[aa];rw[aN]) (by
  intro k;show kJ n (k+1) _=_;rw[AQ,ag,if_neg (by simp)]) n (by omega)
 rw[eF]at h;rw[h];rfl
theorem TO{e:List Int}{V D:Nat}(a:e.length=V*D)(g:V*D≤1048576)(d:1≤D):I6 e (D:Int)=0∧e.length/D=V∧e.length % D=0:=by
 have c:e.length % D=0:=by rw[a];exact Nat.mul_mod_left _ _
 have b:e.length/D=V:=by rw[a];exact Nat.mul_div_cancel _ (by omega)
 refine⟨?_,b,c⟩;unfold I6;rw[gk,gk]
theorem aug{n:Nat}{e:List Int}{V D t:Nat}(o:e.length=V*D)(l:V*D≤1048576)(k:1≤D)(d:D≤64)(q:t<V)(p:V≤512):Mc n (e,(D:Int),(t:Int))=some (eG e D t,0):=by
 obtain⟨i,j,c⟩:=TO o l k;have h:=Mf c (show t<e.length/D by omega);have g:=tZ c (show t<e.length/D by omega);have m1:t*D≤512*64:=bD (by omega) d;rw[aio,PM,i];simp only[aa];rw[show((0:Int)!=0)=false from rfl,bU,zh (by omega) (by rw[bV];have:=Int.ediv_le_self (a:=(e.length:Int)) (D:Int) (by omega);have:=e7 (a:=(e.length:Int)) (b:=(D:Int)) (by omega) (by omega);omega) (by rw[bV];have:=Int.ediv_le_self (a:=(e.length:Int)) (D:Int) (by omega);omega),bV];simp only[aa];rw[show(e.length:Int)/(D:Int)=(V:Int)by rw[←j];simp,eC];simp only[aa];rw[ag,if_neg (by rw[aD,bx,bx];omega)];rw[aN (x:=(t:Int)+1),show(t:Int)*(D:Int)=((t*D:Nat):Int)by simp,show((t:Int)+1)*(D:Int)=((t*D:Nat):Int)+(D:Int)by rw[Int.add_mul];simp,aN,aN,aa7 c (by omega)];simp only[aa];rw[dU (by rw[g];simp;omega) (by omega)];rfl
theorem ap1{n:Nat}{e:List Int}{V D t:Nat}(l:e.length=V*D)(k:V*D≤1048576)(j:1≤D)(c:D≤64)(p:t<V)(o:V≤512):wO n (e,(D:Int),(t:Int))=some (eG e D t,0):=by
 obtain⟨h,i,d⟩:=TO l k j;have g:=Mf d (show t<e.length/D by omega);have m1:t*D≤512*64:=bD (by omega) c;rw[adb,He,h];simp only[aa];rw[show((0:Int)!=0)=false from rfl,bU,zh (by omega) (by rw[bV];have:=Int.ediv_le_self (a:=(e.length:Int)) (D:Int) (by omega);have:=e7 (a:=(e.length:Int)) (b:=(D:Int)) (by omega) (by omega);omega) (by rw[bV];have:=Int.ediv_le_self (a:=(e.length:Int)) (D:Int) (by omega);omega),bV];simp only[aa];rw[show(e.length:Int)/(D:Int)=(V:Int)by rw[←i];simp,eC];simp only[aa];rw[ag,if_neg (by rw[aD,bx,bx];omega)];rw[show(t:Int)*(D:Int)=((t*D:Nat):Int)by simp,aN,aN,aa7 d (by omega)];rfl
structure MO (m:Mod):Prop where
 o:ar0 m
 cos:bh m.2.2.2.2.1
 sin:bh m.2.2.2.2.2.1
 be:bh m.2.2.2.2.2.2.2.1
 g:bh m.2.2.2.2.2.2.2.2.1
 u:bh m.2.2.2.2.2.2.2.2.2.1
def zn(m:Mod):P6:=(m.1.2.2.2.1,m.2.2.2.2.1,m.2.2.2.2.2.1,m.2.2.2.2.2.2.2.1)
def WB(m:Mod)(l:List Int):Prop:=∀t∈l,0≤t∧t<m.1.1
def xs0(m:Mod)(l:List Int):List (List Int):=l.map fun t=>OH m.2.2.1 m.1.2.2.1.toNat t.toNat m.2.2.2.1.toNat
noncomputable def Dg(m:Mod)(l:List Int):Nat→List (List Int)
 |0=>xs0 m l
 |i+1=>match m.2.2.2.2.2.2.1[i]? with
  |some b=>(Bm b (zn m) (Dg m l i) []).1
  |none=>Dg m l i
def InR(D:Nat)(R:Int)(xs:List (List Int)):Prop:=∀x∈xs,x.length=D∧∀y∈x,-R≤y∧y≤R
noncomputable def scI(m:Mod)(x:List Int):List Int:=(ju (kx m.2.2.2.2.2.2.2.2.2.1 m.1.2.2.1 (mO x m.2.2.2.2.2.2.2.2.1).1).1 m.2.2.2.2.2.2.2.2.2.2).1
structure agl (m:Mod) (D H half C Hd V L E:Nat):Prop where
 r:xN m D H half C Hd V L E
 ok:MO m
 mx:∀x∈p7 m,x≤268435456
theorem auh{m:Mod}(h:MO m)(a:LD m):∃D H half C Hd V L E,agl m D H half C Hd V L E:=by
 obtain⟨D,H,half,C,Hd,V,L,E,b⟩:=anL h.o a.1;exact⟨D,H,half,C,Hd,V,L,E,b,h,a.2⟩
theorem agl.frm{m:Mod}{D H half C Hd V L E:Nat}(h:agl m D H half C Hd V L E):ahl H half C (zn m)∧OkF (zn m):=by
 have i:=h.r.ok;have j:=h.r.lm;exact⟨⟨i.h,i.cos,i.sin,i.be⟩,⟨h.ok.cos,h.ok.sin,h.ok.be,by show m.2.2.2.2.1.length≤_;have:=j.c;omega,by show m.2.2.2.2.2.1.length≤_;have:=j.si;omega⟩⟩
theorem agl.row{m:Mod}{D H half C Hd V L E:Nat}(h:agl m D H half C Hd V L E){t:Int}(U:0≤t∧t<m.1.1):∃p:Nat,t=(p:Int)∧p<V∧(eG m.2.2.1 D p).length=D∧bh (eG m.2.2.1 D p)∧OH m.2.2.1 m.1.2.2.1.toNat t.toNat m.2.2.2.1.toNat=dL (fun i=>(eG m.2.2.1 D p).getD i 0*2^E) D∧
  (∀y∈dL (fun i=>(eG m.2.2.1 D p).getD i 0*2^E) D,-(il m.2.2.1*2^E)≤y∧y≤il m.2.2.1*2^E):=by
 have W:=h.r.ok.v;have O:=h.r.ok.e;have hd:=h.r.ok.d;have R:=h.r.ok.uo.pos;have g1:=h.r.ok.uo.dm;have I:=h.r.ok.v2;have m1:V*D≤512*64:=bD I.2 g1;obtain⟨S,T,J⟩:=TO O (by omega) (by omega);refine⟨t.toNat,by omega,by omega,tZ J (by omega),h.r.e8.sub _ _,?_,?_⟩
 ·unfold OH;rw[hd,h.r.es,ax,ax]
 ·intro y Q;obtain⟨i,hi,rfl⟩:=aM Q;have j:i<D:=by simpa using hi
  have M:=po (fun i=>(eG m.2.2.1 D t.toNat).getD i 0*2^E) j 0;rw[aV hi]at M;rw[M];have P:=tZ J (show t.toNat<m.2.2.1.length/D by omega);have hm:(eG m.2.2.1 D t.toNat).getD i 0∈m.2.2.1:=by
   rw[aV (by omega)];have:=am (show i<(eG m.2.2.1 D t.toNat).length by omega);unfold eG at this;exact List.mem_of_mem_drop (cS this)
  have K:=(FK h.r.e8).2.2 _ hm;have N:(0:Int)≤2^E:=acP (ed (by decide));have a:=bP K.1 N;have b:=bP K.2 N;rw[Int.neg_mul]at a;exact⟨a,b⟩
theorem agl.rows{m:Mod}{D H half C Hd V L E:Nat}(h:agl m D H half C Hd V L E){l:List Int}(hl:WB m l)(hlc:l.length≤C):∀i,i≤L→(Dg m l i).length=l.length∧InR D ((p7 m).getD (2*i) 0) (Dg m l i)∧0≤(p7 m).getD (2*i) 0∧(p7 m).getD (2*i) 0≤268435456∧
  (∀(hi:i<m.2.2.2.2.2.2.1.length),(Bm m.2.2.2.2.2.2.1[i] (zn m) (Dg m l i) []).2.2=0∧Dg m l (i+1)=(Bm m.2.2.2.2.2.2.1[i] (zn m) (Dg m l i) []).1):=by
 have Q:=h.r.ok.bs;have hr:=h.r.rch (i:=m.2.2.2.2.2.2.1.length) (az _);rw[←h.r.eq,Q]at hr;have X:=hr.len;have hd:=h.r.ok.uo;have S:=h.frm;have M:=FK h.r.e8;have K:(p7 m).getD 0 0=il m.2.2.1*2^E:=hr.f0;have R:=Mq M.1 M.2.1 h.r.el;have I:∀i,i<(p7 m).length→(p7 m).getD i 0≤268435456:=fun i hi=>by rw[aV hi];exact h.mx _ (am hi)
 have y:∀i,i<L→(Dg m l i).length=l.length→InR D ((p7 m).getD (2*i) 0) (Dg m l i)→0≤(p7 m).getD (2*i) 0→∀(hi:i<m.2.2.2.2.2.2.1.length),(Bm m.2.2.2.2.2.2.1[i] (zn m) (Dg m l i) []).2.2=0∧(Bm m.2.2.2.2.2.2.1[i] (zn m) (Dg m l i) []).1.length=l.length∧InR D ((p7 m).getD (2*(i+1)) 0) (Bm m.2.2.2.2.2.2.1[i] (zn m) (Dg m l i) []).1∧0≤(p7 m).getD (2*(i+1)) 0:=by
  intro i T h1 h2 h3 hi;obtain⟨a,d,g1,g2,g3⟩:=hr.st i hi T;have a0:=g1.a0;have d0:=g1.c0;have hm2:=I (2*i+2) (by omega);have J:(p7 m).getD (2*i) 0+a+d=(p7 m).getD (2*i+2) 0:=by omega
  have P:=am hi;obtain⟨r,p1,p2,p3⟩:=atX hd (h.r.ok.b _ P) S.1 h3 a0 d0 (by omega) g1.o g1.d (Dg m l i) [] [] h2 (by simp;omega) (fun p j=>by cases j) (fun p j=>by cases j);rw[J]at p3;obtain⟨l1,l2,-⟩:=PS p1;simp only[dr,dJ]at l1 l2;have hI:Bm m.2.2.2.2.2.2.1[i] (zn m) (Dg m l i) []=(r.2,r.1,0):=by unfold Bm;rw[p1];rfl
  rw[hI];rw[show 2*(i+1)=2*i+2 by omega];exact⟨rfl,by show r.2.length=_;omega,p3,by omega⟩
 have succ:∀i (hi:i<m.2.2.2.2.2.2.1.length),Dg m l (i+1)=(Bm m.2.2.2.2.2.2.1[i] (zn m) (Dg m l i) []).1:=by
  intro i hi;show(match m.2.2.2.2.2.2.1[i]? with |some b=>_ |none=>_)=_;rw[ai hi]
 intro i
 induction i with
 |zero=>
  intro _;have Y:(Dg m l 0).length=l.length:=by show(xs0 m l).length=_;unfold xs0;simp
  have O:InR D ((p7 m).getD (2*0) 0) (Dg m l 0):=by
   intro x hx;obtain⟨t,ht,rfl⟩:=List.mem_map.1 hx;obtain⟨p,q1,q2,q3,q4,q5,q6⟩:=h.row (hl t ht);rw[q5,Nat.mul_zero,K];exact⟨by simp,q6⟩
  have W:0≤(p7 m).getD (2*0) 0:=by rw[Nat.mul_zero,K];exact R.1
  refine⟨Y,O,W,I _ (by omega),fun hi=> ?_⟩;have j:=y 0 (by omega) Y O W hi;exact⟨j.1,succ 0 hi⟩
 |succ i ih=>
  intro hi;obtain⟨b1,b2,b3,b4,b5⟩:=ih (by omega);have j:=y i (by omega) b1 b2 b3 (by omega);have hs:=succ i (by omega);rw[←hs]at j;refine⟨j.2.1,j.2.2.1,j.2.2.2,I _ (by omega),fun N=> ?_⟩;have U:=y (i+1) (by omega) j.2.1 j.2.2.1 j.2.2.2 N;exact⟨U.1,succ (i+1) N⟩
theorem agl.sc{m:Mod}{D H half C Hd V L E:Nat}(h:agl m D H half C Hd V L E){x:List Int}(hx:x.length=D)(hr:∀y∈x,-268435456≤y∧y≤268435456){n:Nat}(J:Hn0 n):(scI m x).length=V∧(∀y∈scI m x,-1040384≤y∧y≤1040384)∧
  j5 n ((m,zn m),x)=some (scI m x)∧pe n (m,x)=some (scI m x):=by
 have hd:=h.r.ok.uo;have g1:=hd.dm;have T:=hd.pos;have P:=h.r.ok.v2;have m1:V*D≤512*64:=bD P.2 g1;have U:=h.r.ok.g;have Q:=h.r.ok.u;have I:=h.r.ok.ls;have M:=h.r.ok.d;obtain⟨r1,r2⟩:=aba (x:=x) (fV:=m.2.2.2.2.2.2.2.2.1) (by omega) (by omega) (by omega) hr;obtain⟨t1,t2,t3,t4⟩:=PU (w:=m.2.2.2.2.2.2.2.2.2.1) (o:=(mO x m.2.2.2.2.2.2.2.2.1).1) (s:=m.2.2.2.2.2.2.2.2.2.2) (a:=1040384) (r:=V) (c:=D) Q (by omega) (by omega) (by omega) nQ I.1 I.2 (by
  intro j W;obtain⟨X,Y,S⟩:=TO Q (by omega) (show 1≤D by omega);have N:=tZ S (show j<m.2.2.2.2.2.2.2.2.2.1.length/D by omega);have O:=ahi (l:=eG m.2.2.2.2.2.2.2.2.2.1 D j) (h.ok.u.sub _ _);rw[N]at O;have R:=alx (x:=127*gq (eG m.2.2.2.2.2.2.2.2.2.1 D j)) (s:=m.2.2.2.2.2.2.2.2.2.2) (by omega) I.1 (by omega);omega)
 have i:scI m x=(ju (kx m.2.2.2.2.2.2.2.2.2.1 (D:Int) (mO x m.2.2.2.2.2.2.2.2.1).1).1 m.2.2.2.2.2.2.2.2.2.2).1:=by unfold scI;rw[M]
 have K:ir (kx m.2.2.2.2.2.2.2.2.2.1 (D:Int) (mO x m.2.2.2.2.2.2.2.2.1).1).1:=ke h.ok.u nQ.bh;refine⟨by rw[i];exact t3,by rw[i];exact t4,?_,?_⟩
 ·rw[I2,Ta h.ok.g J];simp only[aa];rw[M,Fy h.ok.u nQ.bh (by omega) J];simp only[aa];rw[Mg K J];simp only[aa];rw[i]
 ·rw[SI,Mh h.ok.g J];simp only[aa];rw[M,xg h.ok.u nQ.bh J];simp only[aa];rw[C4 K J];simp only[aa];rw[i]
abbrev Rq:=List Int×Par×Int×Int×Int×Gd×List UInt8
noncomputable def Ye(m:Mod)(l:List Int):List Int:=scI m ((Dg m l m.2.2.2.2.2.2.1.length).getD (l.length -1) [])
theorem abg{α β:Type}{l:List α}{f:α→β}{i:Nat}(hi:i<l.length):(l.map f).take (i+1)=(l.map f).take i++[f l[i]]:=by
 rw[dK,ai (by rw[dc];exact hi)];simp
theorem ajK{n:Nat}{m:Mod}{D H half C Hd V L E:Nat}(h:agl m D H half C Hd V L E)(hv:LD m){l:List Int}(Q:WB m l)(hne:l≠[])(hlc:l.length≤C)(R:Hn0 n):
  sM n (m,l)=some (Ye m l,0)∧ti n (m,l)=some (Ye m l,0)∧(Ye m l).length=V∧∀y∈Ye m l,-1040384≤y∧y≤1040384:=by
 have J:=h.r.ok;have hd:=J.uo;have hcm:=hd.cm;have g1:=hd.dm;have g3:=hd.pos;have S:=J.v2;have O:=J.bs;have hl8:=J.l8;have hC:=J.c;have hV:=J.v;have hD:=J.d;have F:=h.r.es;have m1:V*D≤512*64:=bD S.2 g1;have g:=h.rows Q hlc;have hpos:0<l.length:=List.length_pos_iff.2 hne;have W:=h.frm;have Z:∀t∈l,qO n ((m,zn m),t)=some (OH m.2.2.1 m.1.2.2.1.toNat t.toNat m.2.2.2.1.toNat):=by
  intro t z;obtain⟨p,X,q2,q3,q4,Y,q6⟩:=h.row (Q t z);rw[Pr];simp only;rw[hD,X,aug J.e (by omega) (by omega) g1 q2 S.2];simp only[aa];rw[F,ap0 R h.r.el (by omega) q4,q3];rw[hD,X,F]at Y;rw[Y];rfl
 have aAC:∀t∈l,((wO n (m.2.2.1,(m.1.2.2.1,t)))).bind (fun v2=>((qv n (v2.1,m.2.2.2.1))).bind fun v3=>some v3.1)=some (OH m.2.2.1 m.1.2.2.1.toNat t.toNat m.2.2.2.1.toNat):=by
  intro t z;obtain⟨p,X,q2,q3,q4,Y,q6⟩:=h.row (Q t z);rw[hD,X,ap1 J.e (by omega) (by omega) g1 q2 S.2];simp only[aa];rw[F,ami R h.r.el (by omega) q4,q3];rw[hD,X,F]at Y;rw[Y];rfl
 have w:∀i,i≤L→∀x∈Dg m l i,ir x∧x.length≤1000000000:=by
  intro i a x hx;obtain⟨b1,T,b3,b4,-⟩:=g i a;obtain⟨u1,u2⟩:=T x hx;exact⟨fun y hy=>by have:=u2 y hy;omega,by omega⟩
 have thr:∃pr,dQ n ((m,zn m),l,())=some (Dg m l L,pr):=by
  rw[oG];have u:=ba (L:=fun k j s=>ce n k ((m,zn m),(),s,l,(l.length:Int),j,())) (len:=l.length) (r:=((m,zn m),(),xs0 m l,())) (fun i=>(xs0 m l).take i) (by
   intro k i a;show ce n (k+1) _=_;rw[ic,bP0,bj a];simp only[aa];rw[Z _ (am a)];simp only[aa];rw[dU (by rw[aC];simp;omega) (by omega)];simp only[aa];rw[aN];have e:(xs0 m l).take i++[OH m.2.2.1 m.1.2.2.1.toNat l[i].toNat m.2.2.2.1.toNat]=(xs0 m l).take (i+1):=(abg (f:=fun t:Int=>OH m.2.2.1 m.1.2.2.1.toNat t.toNat m.2.2.2.1.toNat) a).symm;rw[e]) (by
   intro k;show ce n (k+1) _=_;rw[ic,ag,if_neg (by simp),aR (by unfold xs0;simp)]) n (by omega)
  rw[eW]at u;rw[u];simp only[aa];obtain⟨q,N,B⟩:=alz (L:=fun k j s=>cg n k ((m,zn m),(),s.1,s.2,m.2.2.2.2.2.2.1,(m.2.2.2.2.2.2.1.length:Int),j,())) (len:=m.2.2.2.2.2.2.1.length) (fun i s=>s.1=Dg m l i∧s.2.length=i) (fun q=>q.1=Dg m l L) (by
   intro k i s a ⟨u,N⟩;right;obtain⟨b1,T,b3,b4,b5⟩:=g i (by omega);obtain⟨c1,c2⟩:=b5 a;show ∃s',cg n (k+1) _=_∧_;rw[ig,bP0,bj a];simp only[aa];rw[MB];simp only[aa];rw[u,ant (h.r.b8 _ (am a)) W.2 (w i (by omega)) (fun p hp=>by cases hp) (by simp;omega) R];simp only[aa];rw[dU (by simp;omega) (by omega)];simp only[aa];rw[aN];exact⟨((Bm m.2.2.2.2.2.2.1[i] (zn m) (Dg m l i) []).1,s.2++[(Bm m.2.2.2.2.2.2.1[i] (zn m) (Dg m l i) []).2.1]),rfl,c2.symm,by simp;omega⟩) (by
   intro k s ⟨u,N⟩;show ∃r,cg n (k+1) _=some r∧_;rw[ig,ag,if_neg (by simp)];exact⟨_,rfl,by rw[←O];exact u⟩) n (xs0 m l,[]) (by omega) ⟨rfl,rfl⟩
  rw[N];simp only[aa];exact⟨q.2.1,by rw[B]⟩
 obtain⟨b1,T,b3,b4,-⟩:=g L (az _);have K:∀x∈Dg m l L,(scI m x).length=V∧(∀y∈scI m x,-1040384≤y∧y≤1040384)∧j5 n ((m,zn m),x)=some (scI m x)∧pe n (m,x)=some (scI m x):=by
  intro x hx;obtain⟨u1,u2⟩:=T x hx;exact h.sc u1 (fun y hy=>by have:=u2 y hy;omega) R
 have I:l.length -1<(Dg m l L).length:=by omega
 have b:Ye m l=scI m (Dg m l L)[l.length -1]:=by unfold Ye;rw[O,aV I]
 have M:=am I;refine⟨?_,?_,by rw[b];exact(K _ M).1,by rw[b];exact(K _ M).2.1⟩
 ·obtain⟨r,r1,r2⟩:=X3 h.ok.o R;rw[Sr,r1];simp only[aa];rw[show(r.2 !=0)=false by simp[r2.2 hv],bU,show((l.length:Int)==0)=false by rw[beq_eq_false_iff_ne];omega,bU,hC];simp only[aa];rw[bN0,Sl];simp only[aa];rw[show((m,m.1.2.2.2.1,m.2.2.2.2.1,m.2.2.2.2.2.1,m.2.2.2.2.2.2.2.1):Mod×P6)=(m,zn m)from rfl];rcases cZ (L:=fun k j (_:Unit)=>iz n k (l,(),l,(l.length:Int),j,(m,zn m),())) (len:=l.length) (fun _=>()) (fun i=>0≤l.getD i 0∧l.getD i 0<m.1.1) (fun i=> .inl ([],133,())) (.inr (l,(),(m,zn m),())) (by
   intro k j P _;show(_∧iz n (k+1) _=_)∨(_∧iz n (k+1) _=_);have z:=Q _ (am P);rw[x8,bP0,eU P,aV P];simp only[aa];rw[K7,fw];simp only[aa];rw[decide_eq_true (show l[j]≥0 from z.1),decide_eq_true (show l[j]<m.1.1 from z.2)];simp only[Bool.and_self,aY,bU];rw[aN];exact .inl ⟨z,rfl⟩) (by
   intro k;show iz n (k+1) _=_;rw[x8,ag,if_neg (by simp)]) n (by omega)with⟨-,N⟩|⟨j,u,-,B,-⟩
  case inr=>exact absurd (by rw[aV u];exact Q _ (am u)) B
  rw[N];simp only[aa,cI];obtain⟨pr,t1⟩:=thr;rw[pY,t1];simp only[aa];have U:=ba (L:=fun k j s=>cx n k ((m,zn m),pr,s,Dg m l L,(((Dg m l L).length:Nat):Int),j,())) (len:=(Dg m l L).length) (r:=(pr,(Dg m l L).map (scI m),())) (fun i=>((Dg m l L).map (scI m)).take i) (by
   intro k i a;show cx n (k+1) _=_;rw[i5,bP0,bj a];simp only[aa];rw[(K _ (am a)).2.2.1];simp only[aa];rw[dU (by rw[aC];simp;omega) (by omega)];simp only[aa];rw[aN,←abg a]) (by
   intro k;show cx n (k+1) _=_;rw[i5,ag,if_neg (by simp),aR (by simp)]) n (by omega)
  rw[eW]at U;rw[U];simp only[aa,dc];rw[b1,aN,show(l.length:Int) -1=((l.length -1:Nat):Int)by omega,bj (by rw[dc];exact I)];simp only[aa,List.getElem_map];rw[b]
 ·obtain⟨-,-,-,r,r1,r2⟩:=X2 h.ok.o R;rw[SJ,r1];simp only[aa];rw[show(r.2.2 !=0)=false by simp[r2.2 hv],bU,show((l.length:Int)==0)=false by rw[beq_eq_false_iff_ne];omega,bU,hC];simp only[aa];rw[bN0];rcases cZ (L:=fun k j (_:Unit)=>iI n k (l,(),j,m,())) (len:=l.length) (fun _=>()) (fun i=>0≤l.getD i 0∧l.getD i 0<m.1.1) (fun i=> .inl ([],133,())) (.inr (l,(),m,())) (by
   intro k j P _;show(_∧iI n (k+1) _=_)∨(_∧iI n (k+1) _=_);have z:=Q _ (am P);rw[yn,bP0,eU P,aV P];simp only[aa];rw[V0,fw];simp only[aa];rw[decide_eq_true (show l[j]≥0 from z.1),decide_eq_true (show l[j]<m.1.1 from z.2)];simp only[Bool.and_self,aY,bU];rw[aN];exact .inl ⟨z,rfl⟩) (by
   intro k;show iI n (k+1) _=_;rw[yn,ag,if_neg (by simp)]) n (by omega)with⟨-,N⟩|⟨j,u,-,B,-⟩
  case inr=>exact absurd (by rw[aV u];exact Q _ (am u)) B
  rw[N];simp only[aa,cI];rw[adj,aal];have u:=ba (L:=fun k j s=>mo n k (l,(),s,j,m,())) (len:=l.length) (r:=((),xs0 m l,m,())) (fun i=>(xs0 m l).take i) (by
   intro k i a;show mo n (k+1) _=_;rw[CQ,bP0,bj a];simp only[aa];obtain⟨v2,w1,w2⟩:=Option.bind_eq_some_iff.1 (aAC _ (am a));obtain⟨v3,w3,w4⟩:=Option.bind_eq_some_iff.1 w2;have w4:v3.1=OH m.2.2.1 m.1.2.2.1.toNat l[i].toNat m.2.2.2.1.toNat:=Option.some.inj w4;rw[w1];simp only[aa];rw[w3];simp only[aa];rw[w4,dU (by rw[aC];simp;omega) (by omega)];simp only[aa];rw[aN];have e:(xs0 m l).take i++[OH m.2.2.1 m.1.2.2.1.toNat l[i].toNat m.2.2.2.1.toNat]=(xs0 m l).take (i+1):=(abg (f:=fun t:Int=>OH m.2.2.1 m.1.2.2.1.toNat t.toNat m.2.2.2.1.toNat) a).symm;rw[e]) (by
   intro k;show mo n (k+1) _=_;rw[CQ,ag,if_neg (by simp),aR (by unfold xs0;simp)]) n (by omega)
  rw[eW]at u;rw[u];simp only[aa];have B:=ba (L:=fun k j s=>kN n k ((),s.1,s.2,j,m,())) (len:=m.2.2.2.2.2.2.1.length) (r:=(dL (Dg m l) (L+1),())) (fun i=>(Dg m l i,dL (Dg m l) (i+1))) (by
   intro k i a;obtain⟨b1,T,b3,b4,b5⟩:=g i (by omega);obtain⟨c1,c2⟩:=b5 a;show kN n (k+1) _=_;rw[A0,bP0,bj a];simp only[aa];rw[V2];simp only[aa];rw[show((m.1.2.2.2.1,m.2.2.2.2.1,m.2.2.2.2.2.1,m.2.2.2.2.2.2.2.1):P6)=zn m from rfl,anu (h.r.b8 _ (am a)) W.2 (w i (by omega)) (fun p hp=>by cases hp) (by simp;omega) R];simp only[aa];rw[←c2,fv (Dg m l) (by unfold room;omega) (by unfold room;omega)];simp only[aa];rw[aN]) (by
   intro k;show kN n (k+1) _=_;rw[A0,ag,if_neg (by simp),O]) n (by omega)
  have e0:dL (Dg m l) (0+1)=[xs0 m l]:=rfl;rw[e0]at B;have e1:Dg m l 0=xs0 m l:=rfl;rw[e1]at B;rw[B];simp only[aa,Bh];rw[aN,show((L+1:Nat):Int) -1=(L:Int)by omega,p6 (show L<(dL (Dg m l) (L+1)).length by simp) [],po _ (by omega)];simp only[aa];have U:=ba (L:=fun k j s=>og n k ((),Dg m l L,s,j,m,())) (len:=(Dg m l L).length) (r:=((Dg m l L).map (scI m),())) (fun i=>((Dg m l L).map (scI m)).take i) (by
   intro k i a;show og n (k+1) _=_;rw[Fq,bP0,bj a];simp only[aa];rw[(K _ (am a)).2.2.2];simp only[aa];rw[dU (by rw[aC];simp;omega) (by omega)];simp only[aa];rw[aN,←abg a]) (by
   intro k;show og n (k+1) _=_;rw[Fq,ag,if_neg (by simp),aR (by simp)]) n (by omega)
  rw[eW]at U;rw[U];simp only[aa,dc];rw[b1,aN,show(l.length:Int) -1=((l.length -1:Nat):Int)by omega,bj (by rw[dc];exact I)];simp only[aa,List.getElem_map];rw[b]
def gdR(r:Rq):Gd:=r.2.2.2.2.2.1
structure IW (m:Mod) (r:Rq) (said:List Int):Prop where
 v:LD m
 p:aek r.2.1 m.1.1
 g:aaK (gdR r)
 pr:r.1≠[]
 c:((r.1.length+said.length:Nat):Int)≤m.1.2.1
 t:WB m (r.1++said)
theorem IW.take{m:Mod}{r:Rq}{s:List Int}(h:IW m r s)(k:Nat):IW m r (s.take k):=by
 refine⟨h.v,h.p,h.g,h.pr,?_,fun t i=> ?_⟩
 ·have:=h.c;rw[aC];omega
 ·rcases List.mem_append.1 i with i |i
  ·exact h.t t (aS _ i)
  ·exact h.t t (bp _ (cS i))
structure OkR (r:Rq):Prop where
 p:r.1.length≤1048576
 b:r.2.1.2.2.2.2.2.length≤1048576
 g1:(gdR r).1.length≤1048576
 g2:(gdR r).2.length≤1048576
theorem amj{n:Nat}{m:Mod}{l:List Int}(r:l.length≤100000000)(u:Hn0 n):∃b,vE n (m,l)=some b∧(b=true↔WB m l):=by
 rw[Vx,mB,nK];rcases cZ (L:=fun k j (_:Unit)=>bF n k (l,(m,()),(l.length:Int),j,())) (len:=l.length) (fun _=>()) (fun i=>0≤l.getD i 0∧l.getD i 0<m.1.1) (fun i=> .inl ((i:Int),())) (.inr ()) (by
  intro k j p _;show(_∧bF n (k+1) _=_)∨(_∧bF n (k+1) _=_);rw[gA,bP0,eU p];simp only[aa];rw[Pq,eC];simp only[aa];rw[ag]
  by_cases c:0≤l.getD j 0∧l.getD j 0<m.1.1
  ·rw[if_neg (by rw[aD,bx,bx];omega),aN];exact .inl ⟨c,rfl⟩
  ·rw[if_pos (by rw[aD,bx,bx];omega)];exact .inr ⟨c,rfl⟩) (by
  intro k;show bF n (k+1) _=_;rw[gA,ag,if_neg (by simp)]) n (by omega)with⟨a,d⟩|⟨j,a,d,g,o⟩
 ·rw[d];refine⟨true,rfl,fun _ t q=> ?_,fun _=>rfl⟩;obtain⟨i,e,rfl⟩:=aM q;have:=a i e;rw[aV e]at this;exact this
 ·rw[o];simp only[aa,cI];rw[decide_eq_true (show(j:Int)≥0 by omega)];refine⟨false,rfl,fun h=>(by cases h),fun h=>absurd ?_ g⟩;rw[aV a];exact h _ (am a)
theorem TP{n:Nat}{m:Mod}{l:List Int}(r:l.length≤100000000)(u:Hn0 n):∃b,oX n (m,l)=some b∧(b=true↔WB m l):=by
 rw[SB];rcases cZ (L:=fun k j (_:Unit)=>iG n k (l,(),j,m,())) (len:=l.length) (fun _=>()) (fun i=>0≤l.getD i 0∧l.getD i 0<m.1.1) (fun i=> .inl (false,())) (.inr ()) (by
  intro k j p _;show(_∧iG n (k+1) _=_)∨(_∧iG n (k+1) _=_);rw[yh,bP0,eU p];simp only[aa];rw[eC];simp only[aa];rw[ag]
  by_cases c:0≤l.getD j 0∧l.getD j 0<m.1.1
  ·rw[if_neg (by rw[aD,bx,bx];omega),aN];exact .inl ⟨c,rfl⟩
  ·rw[if_pos (by rw[aD,bx,bx];omega)];exact .inr ⟨c,rfl⟩) (by
  intro k;show iG n (k+1) _=_;rw[yh,ag,if_neg (by simp)]) n (by omega)with⟨a,d⟩|⟨j,a,d,g,o⟩
 ·rw[d];refine⟨true,rfl,fun _ t q=> ?_,fun _=>rfl⟩;obtain⟨i,e,rfl⟩:=aM q;have:=a i e;rw[aV e]at this;exact this
 ·rw[o];refine⟨false,rfl,fun h=>(by cases h),fun h=>absurd ?_ g⟩;rw[aV a];exact h _ (am a)
theorem Bu{m:Mod}{a b:List Int}:WB m (a++b)↔WB m a∧WB m b:=by
 constructor
 ·intro h;exact⟨fun t c=>h t (aS _ c),fun t c=>h t (bp _ c)⟩
 ·intro h t c;rcases List.mem_append.1 c with c |c
  ·exact h.1 t c
  ·exact h.2 t c
theorem TQ{n:Nat}{m:Mod}{r:Rq}{said:List Int}(hm:MO m)(J:OkR r)(hs:said.length≤1048576)(d:Hn0 n):
  ∃w e,iW n (m,r,said)=some (w,e)∧jt n (m,r,said)=some (w,e)∧
   ((IW m r said∧e=0∧(w.length:Int)=m.1.1∧(∀x∈w,0≤x∧x≤I8 r.2.1.2.2.2.2.1)∧w.sum=I8 r.2.1.2.2.2.2.1)∨(¬ IW m r said∧e≠0∧w=[])):=by
 have hrp:=J.p;obtain⟨b1,e1,i1⟩:=anM hm.o d;obtain⟨b2,e2,i2,-⟩:=X2 hm.o d;rw[Sx,PE,e1,e2];simp only[aa];rcases ny i1 with⟨j,rfl⟩|⟨j,rfl⟩
 case inr=>
  rcases ny i2 with⟨B,rfl⟩|⟨-,rfl⟩
  ·exact absurd B j
  ·exact⟨[],210,rfl,rfl,.inr ⟨fun h=>j h.v,by decide,rfl⟩⟩
 rcases ny i2 with⟨-,rfl⟩|⟨B,rfl⟩
 case inr=>exact absurd j B
 simp only[aY,bU];obtain⟨q1,f1,j1⟩:=ael (n:=n) (p:=r.2.1) (t:=m.1.1) J.b d;obtain⟨q2,f2,j2⟩:=X5 (n:=n) (p:=r.2.1) (t:=m.1.1) J.b d;rw[f1,f2];simp only[aa];rcases j1 with⟨I,rfl⟩|⟨I,rfl⟩
 case inr=>
  rcases j2 with⟨y,rfl⟩|⟨-,rfl⟩
  ·exact absurd y I
  ·exact⟨[],220,rfl,rfl,.inr ⟨fun h=>I h.p,by decide,rfl⟩⟩
 rcases j2 with⟨-,rfl⟩|⟨y,rfl⟩
 case inr=>exact absurd I y
 rw[show((0:Int)!=0)=false from rfl,bU,bU];obtain⟨O,g1,k1⟩:=LH (n:=n) (g:=gdR r) J.g1 d;obtain⟨u2,g2,k2⟩:=LG (n:=n) (g:=gdR r) J.g1 d;have hu:=k1.uniq k2;have U:lr n r.2.2.2.2.2.1=some O:=g1;have W:lz n r.2.2.2.2.2.1=some u2:=g2;rw[U,W];simp only[aa];rw[←hu]
 by_cases i:O.2=0
 case neg=>
  rw[show(O.2 !=0)=true by rw[bne_iff_ne];exact i,ii,ii];exact⟨[],O.2,rfl,rfl,.inr ⟨fun h=>i (k1.zero.2 h.g),i,rfl⟩⟩
 have F:=k1.zero.1 i;rw[show(O.2 !=0)=false by rw[i];rfl,bU,bU];rw[dU (by simp;omega) (by omega)];simp only[aa,bC];rw[dU];simp only[aa];rw[eC,eC,ah,aN (x:=(r.1.length:Int)+(said.length:Int)),show(r.1.length:Int)+(said.length:Int)=((r.1.length+said.length:Nat):Int)by omega];simp only[aa]
 by_cases Y:r.1≠[]∧((r.1.length+said.length:Nat):Int)≤m.1.2.1
 case neg=>
  have S:(((r.1.length:Int)==0)||decide (((r.1.length+said.length:Nat):Int)>m.1.2.1))=true:=by
   rw[aD,beq_iff_eq,bx]
   by_cases h0:r.1=[]
   ·left;rw[h0];rfl
   ·right;have:¬ ((r.1.length+said.length:Nat):Int)≤m.1.2.1:=fun h=>Y ⟨h0,h⟩;omega
  rw[S,ii,ii];exact⟨[],212,rfl,rfl,.inr ⟨fun h=>Y ⟨h.pr,h.c⟩,by decide,rfl⟩⟩
 obtain⟨u,Z⟩:=Y;have hpos:0<r.1.length:=List.length_pos_iff.2 u;have S:(((r.1.length:Int)==0)||decide (((r.1.length+said.length:Nat):Int)>m.1.2.1))=false:=by
  rw[←ew,aD,beq_iff_eq,bx];omega
 rw[S,bU,bU];obtain⟨t1,l1,o1⟩:=amj (n:=n) (m:=m) (l:=r.1++said) (by rw[ah];omega) d;obtain⟨t2,l2,o2⟩:=TP (n:=n) (m:=m) (l:=r.1) (by omega) d;obtain⟨t3,l3,o3⟩:=TP (n:=n) (m:=m) (l:=said) (by omega) d;rw[l1,l2,l3];simp only[aa];rw[eC];simp only[aa]
 by_cases z:WB m (r.1++said)
 case neg=>
  have k:t1=false:=by rw[←ew,o1];exact z
  have T:(!t2|| !t3)=true:=by
   rw[aD,aZ,aZ,←ew,←ew,o2,o3];apply Classical.byContradiction;intro q;rw[not_or]at q;exact z (Bu.2 ⟨Classical.not_not.1 q.1,Classical.not_not.1 q.2⟩)
  rw[k,T];exact⟨[],133,rfl,rfl,.inr ⟨fun h=>z h.t,by decide,rfl⟩⟩
 have k:t1=true:=o1.2 z;have N:=Bu.1 z;rw[k,o2.2 N.1,o3.2 N.2];simp only[aY,Bool.or_self,bU];obtain⟨D,H,half,C,Hd,V,L,E,X⟩:=auh hm j;have hC:=X.r.ok.c;have hV:=X.r.ok.v;obtain⟨s1,s2,s3,s4⟩:=ajK X j z (by intro h;exact u (List.append_eq_nil_iff.1 h).1) (by rw[ah];omega) d;rw[s1];simp only[aa];rw[show((0:Int)!=0)=false from rfl,bU,Sw,aaq];rw[dU (l:=[]) (by simp;omega) (by omega)];simp only[aa,bC];rw[dU];simp only[aa];rw[s2];simp only[aa];have a:=j.1.2.1;have hvl:=j.1.2.2.1;have a1:qn n (r.2.2.2.2.2.1,m.2.1,said)=some (Ed (gdR r) m.2.1 0 said):=alW F a (by omega) d;have a2:qy n (r.2.2.2.2.2.1,m.2.1,said)=some (Ed (gdR r) m.2.1 0 said):=alX F a (by omega) d;rw[a1,a2];simp only[aa];have M:=aht (v:=m.2.1) F.e.st (l:=said) (aua (g:=gdR r));obtain⟨mk,c1,Q⟩:=anW (n:=n) F a M d;obtain⟨mk',d1,d2⟩:=anX (n:=n) F a M d;rw[apU d2 Q]at d1;have P:sP n (r.2.2.2.2.2.1,m.2.1,Ed (gdR r) m.2.1 0 said)=some (mk,0):=c1;have R:tm n (r.2.2.2.2.2.1,m.2.1,Ed (gdR r) m.2.1 0 said)=some (mk,0):=d1;rw[P,R];simp only[aa];have K:((Ye m (r.1++said)).length:Int)=m.1.1:=by rw[s3,hV]
 obtain⟨w,w1,w2,w3,w4,w5⟩:=weights (n:=n) (sc:=Ye m (r.1++said)) (mk:=mk) (p:=r.2.1) d (by rw[K];exact I) (fun x hx=>by have:=s4 x hx;omega) (by rw[Q.len];omega) (apV Q a.l2);rw[w1,w2];exact⟨w,0,rfl,rfl,.inl ⟨⟨j,I,F,u,Z,z⟩,rfl,by rw[w3];exact K,w4,w5⟩⟩
end Go.Am.Pu
