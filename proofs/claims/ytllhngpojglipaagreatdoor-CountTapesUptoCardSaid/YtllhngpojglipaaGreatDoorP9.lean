import Derived.Test.YtllhngpojglipaaGreatDoorP8
import Derived.Test.YtllhngpojglipaaGreatDoorE7
set_option linter.unusedVariables false
set_option linter.unusedSimpArgs false
open Int renaming ediv_nonneg→fv,mul_ediv_add_emod→dU,pow_succ→dP
open Go.IntKind renaming wrap→ap
open List renaming dropLast_concat_getLast→bQ,drop_of_length_le→bB,getElem?_eq_getElem→ah,length_append→ag,length_set→aP,replicate→ao,take_of_length_le→bA
open Nat renaming le_refl→aA,mul_le_mul→bK
open Option renaming bind_some→aa
namespace Go.Am.Pu
open Go Go.Am
theorem Uw{n:Nat}:∀(m k:Nat) (l:List Int),l.length=m→m<k→m≤1000000000→
  w9 n k (l,())=some (yq l,())
 |0,k,l,hl,hk,hb=>by
  obtain⟨k,rfl⟩:=iY k;rw[List.length_eq_zero_iff.1 hl,Gi];rfl
 |m+1,k,l,hl,hk,hb=>by
  obtain⟨k,rfl⟩:=iY k;obtain⟨l',x,rfl⟩:∃l' x,l=l'++[x]:=by
   have:l≠[]:=by intro h;rw[h]at hl;simp at hl
   exact⟨_,_,(bQ this).symm⟩
  have hl':l'.length=m:=by simpa using hl
  rw[Gi];have e1:ap .i64 ((((l'++[x]).length:Nat):Int) -1)=(m:Int):=by rw[hl,aN];omega
  have e2:idx (l'++[x]) (m:Int)=some x:=by rw[bj (by omega)];simp[←hl']
  rw[e1,e2,af,if_pos (by rw[bF,hl];omega)];simp only[aa,af,beq_iff_eq]
  split
  ·rename_i h;subst h;rw[we];simp only[aa];rw[show(l'++[(0:Int)]).take m=l' by rw[←hl'];simp,M3];exact Uw m k l' hl' (by omega) (by omega)
  ·rename_i h;rw[M4 h]
theorem aqy{n:Nat}{l:List Int}(h:l.length<n)(hb:l.length≤1000000000):xA n l=some (yq l):=by
 rw[aeg,Uw _ n l rfl h hb];rfl
theorem et{α:Type}{b:Nat}{l m:List α}(h:l.length+m.length≤10000000000:=by omega)(hb:b≤1000:=by omega):app b l m=some (l++m):=by
 unfold app;have:(l.length+m.length)*b≤10000000000*1000:=bK h hb;rw[if_pos (by unfold room;omega)]
theorem Can.app{B:Int}{l m:List Int}(h1:jl B l)(h2:Can B m)(h3:m≠[]):Can B (l++m):=by
 refine⟨h1.app h2.1,fun h=> ?_⟩;rw[List.getLast_append_of_ne_nil h h3];exact h2.2 h3
theorem YD{n:Nat}:∀(m k:Nat) (v:Int) (l:List Int),0≤v→v<65536^m→v≤9223372036854775807→m<k→l.length+m≤100→jl 65536 l→
  ∃l',zN n k (v,l,())=some (l++l',())∧Can 65536 l'∧vz 65536 l'=v∧l'.length≤m
 |0,k,v,l,h1,h2,h3,h4,h5,h6=>by
  obtain⟨k,rfl⟩:=iY k;have:v=0:=by simp at h2;omega
  subst this;rw[Jp];exact⟨[],by simp[av],Can.nil,rfl,aA _⟩
 |m+1,k,v,l,h1,h2,h3,h4,h5,h6=>by
  obtain⟨k,rfl⟩:=iY k;rw[Jp]
  by_cases h0:v=0
  ·subst h0;exact⟨[],by simp[av],Can.nil,rfl,Nat.zero_le _⟩
  ·rw[jK,lu,pY h1];simp only[aa];rw[et (by simp;omega) (by omega)];simp only[aa];rw[zU (by omega) (by rw[bV h1];omega) (by rw[bV h1];omega),bV h1];simp only[aa];rw[dP]at h2;obtain⟨l',he,hc,hv,hl⟩:=YD (n:=n) m k (v/65536) (l++[v % 65536]) (by omega) (by omega) (by omega) (by omega) (by simp;omega) (h6.app (jl.cons (by omega) (by omega) jl.nil));rw[he];refine⟨v % 65536::l',by simp,?_,?_,by simpa using hl⟩
   ·by_cases hn:l'=[]
    ·subst hn;refine⟨jl.cons (by omega) (by omega) jl.nil,fun _=> ?_⟩;have:v/65536=0:=by rw[←hv];rfl
     simp;omega
    ·exact Can.app (l:=[v % 65536]) (jl.cons (by omega) (by omega) jl.nil) hc hn
   ·show v % 65536+65536*vz 65536 l'=v;rw[hv];omega
theorem atR{n:Nat}(hn:10<n){v:Int}(h1:0≤v)(h2:v≤9223372036854775807):∃x,A6 n v=some x∧Can 65536 x∧vz 65536 x=v∧x.length≤4:=by
 rw[agA];obtain⟨l,he,hc,hv,hl⟩:=YD (n:=n) 4 n v [] h1 (by have:(65536:Int)^4=18446744073709551616:=rfl;omega) h2 (by omega) (by simp) jl.nil;rw[he];exact⟨l,by simp,hc,hv,hl⟩
theorem atS{n:Nat}{x:List Int}{i:Nat}:HE n (x,(i:Int))=some (x.getD i 0):=by
 rw[agB];simp only[af,bF]
 split
 ·rename_i h;have h:i<x.length:=by omega
  rw[bj h];simp[h]
 ·rename_i h;have h:x.length≤i:=by omega
  simp[h]
theorem aBD{p q o c:Int}(ho:0≤o∧o<65536)(hp:0≤p∧p<65536)(hq:0≤q∧q<65536)(hc:0≤c∧c<65536):
  ap .i64 (ap .i64 (o+ap .i64 (p*q))+c)=o+p*q+c:=by
 have hm:=Gv (B:=65536) (by omega) ho hp hq hc;rw[aN (x:=p*q),aN (x:=o+p*q),aN]
theorem YE{n:Nat}{xs y px:List Int}{i:Nat}{z1 z2:Int}(hx:jl 65536 xs)(hi:i<xs.length)(hy:jl 65536 y)(hl:i+y.length<px.length)(hb:px.length≤1000000000):
  ∀(m k j:Nat) (c:Int) (out:List Int),j+m=y.length→m+1<k→Row 65536 px out xs[i] c y i j→
  (∀(q:Nat) (h:q<px.length),i+y.length≤q→px[q]=0)→
  ∃out',xb n k (xs,y,(),(i:Int),c,(j:Int),z1,z2,out,())=some (xs,y,(),z1,z2,out',())∧
   out'.length=px.length∧jl 65536 out'∧vz 65536 out'=vz 65536 px+xs[i]*vz 65536 y*65536^i∧(∀(q:Nat) (h:q<out'.length),i+y.length+1≤q→out'[q]=0)
 |0,k,j,c,out,h1,h2,h,hz=>by
  obtain⟨k,rfl⟩:=iY k;have:j=y.length:=by omega
  subst this;rw[vZ,sS];simp only[aa,af,bF];have hv:=h.val;have hlo:i+y.length<out.length:=by rw[h.len];exact hl
  have hlb:out.length≤1000000000:=by rw[h.len];exact hb
  rw[bA (aA y.length)]at hv;have hzz:∀(q:Nat) (h':q<out.length),i+y.length≤q→out[q]=0:=fun q h' hq=>by rw[h.hi q h' hq];exact hz _ _ hq
  split
  ·rename_i hc;have hp:=hx.at hi;rw[aN (x:=(i:Int)+(y.length:Int)),show(i:Int)+(y.length:Int)=((i+y.length:Nat):Int)by omega,ej hlo];simp only[aa];rw[ah hlo];simp only[aa];rw[bj hi,atS,hzz _ hlo (aA _)];simp only[aa];rw[show y.getD y.length 0=0 by simp,aBD ⟨by omega,by omega⟩ hp ⟨by omega,by omega⟩ h.cr,Int.mul_zero,Int.zero_add,Int.zero_add];have hcr:=h.cr;rw[lu,zU (by omega) (by rw[bV hcr.1];omega) (by rw[bV hcr.1];omega),bV hcr.1,pY hcr.1,Int.emod_eq_of_lt hcr.1 hcr.2,Int.ediv_eq_zero_of_lt hcr.1 hcr.2];simp only[aa];rw[aN (x:=(y.length:Int)+1)];obtain⟨k,rfl⟩:=iY k;rw[vZ,sS];simp only[aa,af,bF];rw[gG];refine⟨_,rfl,by rw[aP];exact h.len,h.dig.set hcr.1 hcr.2,?_,?_⟩
   ·rw[Xe hlo,hzz _ hlo (aA _),Int.sub_zero,hv]
   ·intro q hq hle;rw[List.getElem_set_ne (by omega)];exact hzz q (by simpa using hq) (by omega)
  ·rename_i hc;have:c=0:=by have:=h.cr;omega
   subst this;refine⟨out,rfl,h.len,h.dig,by rw[←hv];omega,fun q h' hq=>hzz q h' (by omega)⟩
 |m+1,k,j,c,out,h1,h2,h,hz=>by
  obtain⟨k,rfl⟩:=iY k;have hj:j<y.length:=by omega
  have hlo:i+j<out.length:=by rw[h.len];omega
  have hlb:out.length≤1000000000:=by rw[h.len];exact hb
  have hp:=hx.at hi;have hq:=hy.at hj;have ho:=h.dig.at hlo;have hs:=h.step (by omega) hp hq (Ur hj) hlo;have hm:=Gv (B:=65536) (by omega) ho hp hq h.cr;rw[vZ,jK];simp only[aa,af,if_true];rw[aN (x:=(i:Int)+(j:Int)),show(i:Int)+(j:Int)=((i+j:Nat):Int)by omega,ej hlo];simp only[aa];rw[ah hlo];simp only[aa];rw[bj hi,atS];simp only[aa];rw[show y.getD j 0=y[j]by simp[hj],aBD ho hp hq h.cr];rw[lu,zU (by omega) (by rw[bV hm.2.1];omega) (by rw[bV hm.2.1];omega),bV hm.2.1,pY hm.2.1];simp only[aa];rw[aN (x:=(j:Int)+1),show(j:Int)+1=((j+1:Nat):Int)by omega];exact YE hx hi hy hl hb m k (j+1) _ _ (by omega) (by omega) hs hz
theorem Ux{n:Nat}{x y:List Int}(hx:jl 65536 x)(hy:jl 65536 y)(hb:x.length+y.length≤1000000000)(hn:2000000000≤n):
  ∀(m k i:Nat) (out:List Int),i+m=x.length→m<k→out.length=x.length+y.length→jl 65536 out→
   vz 65536 out=vz 65536 (x.take i)*vz 65536 y→(∀(k:Nat) (h:k<out.length),i+y.length≤k→out[k]=0)→
  ∃out',xa n k (x,y,(),(x.length:Int),(i:Int),out,())=some ((),out',())∧
   out'.length=x.length+y.length∧jl 65536 out'∧vz 65536 out'=vz 65536 x*vz 65536 y
 |0,k,i,out,h1,h2,h3,h4,h5,h6=>by
  obtain⟨k,rfl⟩:=iY k;rw[Gj,sS];refine⟨out,rfl,h3,h4,?_⟩;rw[h5,bA (by omega)]
 |m+1,k,i,out,h1,h2,h3,h4,h5,h6=>by
  obtain⟨k,rfl⟩:=iY k;have hi:i<x.length:=by omega
  rw[Gj,jK];obtain⟨out',he,hl,hd,hv,hz⟩:=YE (n:=n) (xs:=x) (y:=y) (px:=out) (i:=i) (z1:=(x.length:Int)) (z2:=(i:Int)) hx hi hy (by omega) (by omega) y.length n 0 0 out (by omega) (by omega) (Row.start (by omega) h4) h6;rw[show((0:Nat):Int)=0 from rfl]at he;rw[he];simp only[aa];rw[aN,show(i:Int)+1=((i+1:Nat):Int)by omega];refine Ux hx hy hb hn m k (i+1) _ (by omega) (by omega) (by omega) hd ?_ (fun q h hq=>hz q h (by omega));rw[hv,h5,Ur hi]
  grind
theorem aqz{n:Nat}{x y:List Int}(hx:jl 65536 x)(hy:jl 65536 y)(hb:x.length+y.length≤1000000)(hn:2000000000≤n):
  ∃z,xB n (x,y)=some z∧Can 65536 z∧vz 65536 z=vz 65536 x*vz 65536 y∧z.length≤x.length+y.length:=by
 rw[aeh,aN,gY (m:=x.length+y.length) (by omega) (by omega) (by omega)];simp only[aa];obtain⟨out,he,h1,h2,h3⟩:=Ux (n:=n) hx hy (by omega) hn x.length n 0 (ao (x.length+y.length) 0) (by omega) (by omega) (by simp) (jl.rep (by omega) _) (by rw[akR];simp[vz]) (by intro k h _;simp);rw[show((0:Nat):Int)=0 from rfl]at he;rw[he];simp only[aa];rw[aqy (by omega) (by omega)];refine⟨_,rfl,xV h2,by rw[DX,h3],?_⟩;have:=Cb out;omega
theorem Mp{n:Nat}{d:Int}{x:List Int}(hd:1≤d∧d≤65536)(hx:jl 65536 x)(hb:x.length≤1000000000):
  ∀(m k:Nat) (r:Int) (out:List Int),m≤x.length→m<k→Quo 65536 d x out r m→
  ∃r' out',rU n k (x,d,(),r,(m:Int) -1,out,())=some ((),r',out',())∧Quo 65536 d x out' r' 0
 |0,k,r,out,h1,h2,h=>by
  obtain⟨k,rfl⟩:=iY k;rw[BX,sS];exact⟨r,out,rfl,h⟩
 |m+1,k,r,out,h1,h2,h=>by
  obtain⟨k,rfl⟩:=iY k;have hi:m<x.length:=by omega
  have hp:=hx.at hi;have hr:=h.rr;obtain⟨s1,s2,s3,s4⟩:=h.step (by omega) (by omega) hx hi;have ho:m<out.length:=by rw[h.len];exact hi
  rw[BX,jK];rw[show((m+1:Nat):Int) -1=(m:Int)by omega,bj hi];simp only[aa];have hq:=fv s1 (show 0≤d by omega);rw[aN (x:=r*65536),aN (x:=r*65536+x[m])];rw[zU (by omega) (by rw[bV s1];omega) (by rw[bV s1];omega),lu,bV s1,pY s1,ej ho];simp only[aa];rw[ah ho];simp only[aa];rw[aN (x:=(m:Int) -1)];exact Mp hd hx hb m k _ _ (by omega) (by omega) s4
theorem arG{n:Nat}{d:Int}{x:List Int}(hd:1≤d∧d≤65536)(hx:Can 65536 x)(hb:x.length≤1000000)(hn:2000000000≤n):
  ∃q,xc n (x,d)=some (q,vz 65536 x % d)∧Can 65536 q∧vz 65536 q=vz 65536 x/d∧q.length≤x.length:=by
 rw[WU,gY (m:=x.length) rfl (by omega) (by omega)];simp only[aa];obtain⟨r,out,he,hq⟩:=Mp (n:=n) (d:=d) (x:=x) hd hx.1 (by omega) x.length n 0 (ao x.length 0) (aA _) (by omega)
  ⟨by simp,jl.rep (by omega) _,⟨by omega,by omega⟩,by rw[bB (aA _),bB (by simp)];simp[vz]⟩
 rw[aN (x:=(x.length:Int) -1),he];simp only[aa];have hl:=hq.len;have hf:=hq.fin (by omega);rw[aqy (by omega) (by omega)];simp only[aa];rw[hf.2];refine⟨_,rfl,xV hq.dig,by rw[DX];exact hf.1,?_⟩;have:=Cb out;omega
theorem awl{d:Int}(h1:0≤d)(h2:d<10):bytesOf [ap .u8 (ap .i64 (48+d))]=[UInt8.ofNat (48+d.toNat)]:=by
 rw[aN,wu8];show[UInt8.ofNat (48+d).toNat]=_;rw[Int.toNat_add (by omega) h1];rfl
theorem ace{s t:List UInt8}(h:s.length+t.length≤10000000000):cat s t=some (s++t):=by
 unfold cat;rw[lK]
theorem arH{P:List Int}{d:Int}:[UInt8.ofNat (48+d.toNat)]++Xg P=Xg (P++[d]):=by
 unfold Xg;simp
theorem atT(P:List Int):(Xg P).length=P.length:=by unfold Xg;simp
theorem Pt{n:Nat}{x:List Int}:∀(m k j:Nat) (P:List Int) (r:Int),j+m=4→m<k→P.length+m≤1000000000→0≤r→r<10^m→jl 10 P→
  ∃Q,uj n k (x,Xg P,r,(j:Int),())=some (x,Xg (P++Q),())∧jl 10 Q∧vz 10 Q=r∧(x≠[]→Q.length=m)∧Q.length≤m∧(x=[]→Can 10 Q)
 |0,k,j,P,r,h1,h2,h3,h4,h5,h6=>by
  obtain⟨k,rfl⟩:=iY k;rw[DE,sS];have:r=0:=by simp at h5;omega
  subst this;exact⟨[],by simp[av],jl.nil,rfl,fun _=>rfl,aA _,fun _=>Can.nil⟩
 |m+1,k,j,P,r,h1,h2,h3,h4,h5,h6=>by
  obtain⟨k,rfl⟩:=iY k;rw[DE,jK]
  by_cases hstop:x=[]∧r=0
  ·obtain⟨rfl,rfl⟩:=hstop;exact⟨[],by simp[av],jl.nil,rfl,fun h=>absurd rfl h,Nat.zero_le _,fun _=>Can.nil⟩
  ·have e:av (decide ((x.length:Int)>0)) (some true) (some (decide (r>0)))=some true:=by
    rw[af]
    split
    ·rfl
    ·rename_i h;rw[bF]at h;have hx:x=[]:=List.length_eq_zero_iff.1 (by omega);congr 1;rw[bF];have:r≠0:=fun h=>hstop ⟨hx,h⟩;omega
   rw[e];simp only[aa,af,if_true];rw[lu,pY h4];simp only[aa];rw[awl (by omega) (by omega),ace (by rw[atT];simp;omega),arH];simp only[aa];have aDW:r/10<10^m:=by rw[dP]at h5;omega
   have aIp:r≤9223372036854775807:=by
    have h7:(10:Nat)^(m+1)≤10^4:=Nat.pow_le_pow_right (by omega) (by omega);have h8:(10:Int)^(m+1)≤10^4:=by exact_mod_cast h7
    have:(10:Int)^4=10000:=rfl;omega
   rw[zU (by omega) (by rw[bV h4];omega) (by rw[bV h4];omega),bV h4];simp only[aa];rw[aN,show(j:Int)+1=((j+1:Nat):Int)by omega]
   by_cases hP:P.length+1≤1000000000
   ·obtain⟨Q,he,hd,hv,hl,sQ,hc⟩:=Pt (n:=n) (x:=x) m k (j+1) (P++[r % 10]) (r/10) (by omega) (by omega) (by simp;omega) (by omega) aDW (h6.app (jl.cons (by omega) (by omega) jl.nil));rw[he];refine⟨r % 10::Q,by simp,jl.cons (by omega) (by omega) hd,?_,fun h=>by simp[hl h],by simpa using sQ,fun h=> ?_⟩
    ·show r % 10+10*vz 10 Q=r;rw[hv];omega
    ·by_cases hQ:Q=[]
     ·subst hQ;refine⟨jl.cons (by omega) (by omega) jl.nil,fun _=> ?_⟩;have h0:r/10=0:=by rw[←hv];rfl
      have:r≠0:=fun h'=>hstop ⟨h,h'⟩;simp;omega
     ·exact Can.app (l:=[r % 10]) (jl.cons (by omega) (by omega) jl.nil) (hc h) hQ
   ·omega
theorem Mq{n V:Nat}(hV:0<V)(hn:2000000000≤n):∀(k:Nat) (x P:List Int),Can 65536 x→x.length≤1000000→jl 10 P→jR (vz 65536 x)<k→
  P.length+4*jR (vz 65536 x)≤900000000→vz 10 P+10^P.length*vz 65536 x=(V:Int)→(x=[]→Can 10 P)→
  ∃Q,ui n k (x,Xg P,())=some (Xg Q,())∧Can 10 Q∧vz 10 Q=(V:Int)
 |0,x,P,_,_,_,h,_,_,_=>by omega
 |k+1,x,P,hx,hxl,hP,hk,hl,hv,hc=>by
  rw[TL];simp only[af,bF]
  split
  ·rename_i h0;have hx0:x≠[]:=by intro h;rw[h]at h0;simp at h0
   have hpos:=Xf (by omega) hx hx0;obtain⟨q,he,hq,hqv,hql⟩:=arG (n:=n) (d:=10000) (x:=x) ⟨by omega,by omega⟩ hx hxl hn;rw[he];simp only[aa];obtain⟨Q,hQ,dQ,vQ,lQ,lQ2,cQ⟩:=Pt (n:=n) (x:=q) 4 n 0 P (vz 65536 x % 10000) (by omega) (by omega) (by omega) (by omega) (by have:(10:Int)^4=10000:=rfl;omega) hP;rw[show((0:Nat):Int)=0 from rfl]at hQ;rw[hQ];simp only[aa];have hf:=aiv (v:=vz 65536 x) (d:=10000) hpos (by omega);rw[←hqv]at hf;refine Mq hV hn k q (P++Q) hq (by omega) (hP.app dQ) (by omega) (by rw[ag];omega) ?_ ?_
   ·by_cases hq0:q=[]
    ·subst hq0;have hz:vz 65536 x/10000=0:=by rw[←hqv];rfl
     rw[Mm,vQ,←hv,show vz 65536 []=0 from rfl,Int.mul_zero,Int.add_zero,show vz 65536 x % 10000=vz 65536 x by omega]
    ·rw[Mm,vQ,ag,lQ hq0,Int.pow_add,hqv,←hv];have e9:(10:Int)^4=10000:=rfl;rw[e9];have hdm:=dU (vz 65536 x) 10000;obtain⟨a,ha⟩:∃a,a=vz 65536 x/10000:=⟨_,rfl⟩;obtain⟨b,hb⟩:∃b,b=vz 65536 x % 10000:=⟨_,rfl⟩;rw[←ha,←hb]at hdm ⊢;rw[←hdm]
     grind
   ·intro hq0;have hz:vz 65536 x/10000=0:=by rw[←hqv,hq0];rfl
    have hQ0:Q≠[]:=by
     intro h;rw[h]at vQ;have:(0:Int)=vz 65536 x % 10000:=vQ;omega
    exact Can.app hP (cQ hq0) hQ0
  ·rename_i h0;have hx0:x=[]:=List.length_eq_zero_iff.1 (by omega);refine⟨P,rfl,hc hx0,?_⟩;rw[←hv,hx0];simp[vz]
theorem atU{n:Nat}{x:List Int}(hx:Can 65536 x)(hxl:x.length≤1000000)(hn:2000000000≤n):
  ∃s,zP n x=some s∧Mn (vz 65536 x) s:=by
 rw[aa7];simp only[af,beq_iff_eq]
 split
 ·rename_i h;have hx0:x=[]:=List.length_eq_zero_iff.1 (by omega);subst hx0;exact⟨_,rfl,.inl ⟨rfl,rfl⟩⟩
 ·rename_i h;have hx0:x≠[]:=by intro h0;rw[h0]at h;simp at h
  have hpos:=Xf (by omega) hx hx0;have hbl:jR (vz 65536 x)≤16*x.length:=H8 (by
   have:(65536:Int)^x.length=2^(16*x.length):=by rw[Int.pow_mul];rfl
   rw[←this];exact aqt (by omega) hx.1)
  obtain⟨Q,he,hQ,hv⟩:=Mq (n:=n) (V:=(vz 65536 x).toNat) (by omega) hn n x [] hx hxl jl.nil (by omega) (by simp;omega) (by simp[vz];omega) (fun h=>absurd h hx0);rw[show Xg []=[]from rfl]at he;rw[he];exact⟨_,rfl,.inr ⟨hpos,Q,hQ,by omega,rfl⟩⟩
end Go.Am.Pu
