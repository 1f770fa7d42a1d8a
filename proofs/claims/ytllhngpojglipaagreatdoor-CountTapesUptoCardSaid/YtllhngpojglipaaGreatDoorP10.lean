import Derived.Test.YtllhngpojglipaaGreatDoorP9
import Derived.Test.YtllhngpojglipaaGreatDoorP1
set_option linter.unusedVariables false
set_option linter.unusedSimpArgs false
open Int renaming ediv_nonneg→fv,emod_lt_of_pos→dD,emod_nonneg→fw,mul_le_mul_of_nonneg_left→dF,mul_le_mul_of_nonneg_right→ci,mul_le_mul→dR,mul_nonneg→dq,pow_pos→fp,pow_succ→dP,toNat_natCast→ax
open Go.IntKind renaming bits→b9,wrap→ap
open List renaming getElem?_eq_getElem→ah,getElem?_set_ne→dw,length_append→ag,length_replicate→aY,length_set→aP,replicate→ao,take_length→ch
open Option renaming bind_some→aa
namespace Go.Am.Pu
open Go Go.Am
theorem arI{k:IntKind}{a b:Int}:sU .or k a b=sU .or k b a:=by
 unfold sU;show k.wrap (((BitVec.ofInt k.bits a ||| BitVec.ofInt k.bits b).toNat:Nat):Int)=k.wrap (((BitVec.ofInt k.bits b ||| BitVec.ofInt k.bits a).toNat:Nat):Int);rw[BitVec.or_comm]
structure UpI (x out:List Int) (q r i:Nat):Prop where
 len:out.length=x.length+q+1
 dig:jl 4294967296 out
 val:vz 4294967296 out=vz 4294967296 (x.take i)*(4294967296^q*2^r)
 lo:∀(h:i+q<out.length),out[i+q]<2^r
 hi:∀(k:Nat) (h:k<out.length),i+q<k→out[k]=0
theorem afb{r:Nat}(h:r≤32):(2:Int)^r≤4294967296:=by
 have:(2:Nat)^r≤2^32:=Nat.pow_le_pow_right (by omega) h;have h:((2^r:Nat):Int)≤((2^32:Nat):Int):=by exact_mod_cast this
 simpa using h
theorem aDX{p P Q:Int}(hp:0≤p∧p<4294967296)(hP0:0<P)(hQ0:0<Q)(hPQ:P*Q=4294967296):
  0≤p*P∧p*P≤4294967295*4294967296∧p*P/4294967296<P:=by
 have aDY:P≤4294967296:=by
  rw[←hPQ];have:=dF (show 1≤Q by omega) (show 0≤P by omega);rwa[Int.mul_one]at this
 refine⟨dq hp.1 (by omega),dR (by omega) aDY (by omega) (by omega),Int.ediv_lt_of_lt_mul (by omega) ?_⟩;have:=Int.mul_lt_mul_of_pos_right hp.2 hP0;rwa[Int.mul_comm 4294967296 P]at this
theorem aDZ{p P Q:Int}(hP0:0<P)(hQ0:0<Q)(hPQ:P*Q=4294967296):
  ∃a,p*P % 4294967296=a*P∧0≤a∧a<Q:=by
 refine⟨p % Q,?_,fw _ (by omega),dD _ hQ0⟩;rw[←hPQ,Int.mul_comm P Q,Int.mul_comm p P,Int.mul_comm Q P,Int.mul_emod_mul_of_pos p Q hP0,Int.mul_comm]
theorem aD0{a P Q o:Int}(hP0:0<P)(hPQ:P*Q=4294967296)(ha:a<Q)(ho:o<P):a*P+o<4294967296:=by
 have h:=ci (show a+1≤Q by omega) (show 0≤P by omega);rw[Int.mul_comm Q P,hPQ,Int.add_mul,Int.one_mul]at h;omega
theorem aBF{p o:Int}{r:Nat}(hr:r<32)(hp:0≤p∧p<4294967296)(ho:0≤o∧o<2^r):
  sU .or .u32 o (p*2^r % 4294967296)=o+p*2^r % 4294967296∧sU .or .u32 0 (p*2^r/4294967296)=p*2^r/4294967296∧
  o+p*2^r % 4294967296<4294967296∧p*2^r/4294967296<2^r∧0≤p*2^r∧p*2^r≤4294967295*4294967296:=by
 have hP0:(0:Int)<2^r:=fp (by decide);have hQ0:(0:Int)<2^(32 -r):=fp (by decide);have hPQ:(2:Int)^r*2^(32 -r)=4294967296:=by rw[←Int.pow_add,show r+(32 -r)=32 by omega];rfl
 obtain⟨a1,a2,a3⟩:=aDX hp hP0 hQ0 hPQ;obtain⟨a,b1,b2,b3⟩:=aDZ (p:=p) hP0 hQ0 hPQ;have c1:=aD0 hP0 hPQ b3 ho.2;have d0:0≤p*2^r/4294967296:=fv a1 (by omega);refine⟨?_,?_,by rw[b1];omega,a3,a1,a2⟩
 ·rw[arI,b1,apl (k:=.u32) (a:=a) (b:=o) (s:=r) (.inr rfl) b2 ho.1 ho.2 (by show a*2^r+o<2^32;exact c1)];exact Int.add_comm _ _
 ·have aIq:(2:Int)^r≤4294967296:=afb (by omega);have aIr:(2:Int)^32=4294967296:=rfl;have:=apl (k:=.u32) (a:=0) (b:=p*2^r/4294967296) (s:=r) (.inr rfl) (by omega) d0 a3 (by show(0:Int)*2^r+_<2^32;rw[Int.zero_mul,Int.zero_add];omega);rw[Int.zero_mul,Int.zero_add]at this;exact this
theorem aD1{v lo hi p P o iq1 Bi Bq:Int}(h1:lo+4294967296*hi=p*P)(h2:iq1=Bi*Bq):
  v*(Bq*P)+(o+lo -o)*iq1+(hi -0)*(iq1*4294967296)=(v+Bi*p)*(Bq*P):=by
 have h3:Bi*Bq*(p*P)=Bi*p*(Bq*P):=by
  rw[Int.mul_assoc,Int.mul_assoc,Int.mul_left_comm Bq p P]
 rw[Int.add_mul,←h3,←h1,h2]
 grind
theorem awn{x out:List Int}{q r i:Nat}(hr:r<32)(hx:jl 4294967296 x)(hi:i<x.length)(h:UpI x out q r i)(g1:i+q<out.length)(g2:i+q+1<out.length):
  UpI x ((out.set (i+q) (out[i+q]+x[i]*2^r % 4294967296)).set (i+q+1) (x[i]*2^r/4294967296)) q r (i+1):=by
 have hp:=hx.at hi;have hlen:=h.len;have ho:=h.dig.at g1;have J5:=h.lo g1;obtain⟨p,hpe⟩:∃p,p=x[i]:=⟨_,rfl⟩;rw[←hpe]at hp ⊢;obtain⟨d1,d2,d3,d4,d5,d6⟩:=aBF hr hp ⟨ho.1,J5⟩;obtain⟨e1,e2,e3,e4⟩:=H7 (B:=4294967296) (by omega) d5;obtain⟨P,hP⟩:∃P:Int,P=2^r:=⟨_,rfl⟩;rw[←hP]at d3 d4 d5 d6 e1 e2 e3 e4 ⊢;have hP4:P≤4294967296:=by rw[hP];exact afb (by omega)
 have hz:out[i+q+1]=0:=h.hi _ g2 (by omega);obtain⟨lo,hlo⟩:∃lo,lo=p*P % 4294967296:=⟨_,rfl⟩;obtain⟨hi',hhi⟩:∃hi',hi'=p*P/4294967296:=⟨_,rfl⟩;rw[←hlo]at d3 e1 e2 e4 ⊢;rw[←hhi]at d4 e3 e4 ⊢;have aBG:jl 4294967296 (out.set (i+q) (out[i+q]+lo)):=h.dig.set (by omega) (by omega);have g3:i+q+1<(out.set (i+q) (out[i+q]+lo)).length:=by rw[aP];exact g2
 have aBH:(out.set (i+q) (out[i+q]+lo))[i+q+1]=0:=by rw[List.getElem_set_ne (by omega)];exact hz
 refine⟨by rw[aP,aP];exact hlen,aBG.set e3 (by omega),?_,?_,?_⟩
 ·rw[Xe g3,aBH,Xe g1,h.val,Ur hi,←hpe,←hP,dP];exact aD1 e4 (Int.pow_add _ _ _)
 ·intro h';rw[←hP];have:i+1+q=i+q+1:=by omega
  simp only[this];rw[List.getElem_set_self];exact d4
 ·intro k' hk' hlt;rw[List.getElem_set_ne (by omega),List.getElem_set_ne (by omega)];exact h.hi k' (by simpa using hk') (by omega)
theorem aBI{p:Int}{r:Nat}(hr:r<32)(hp:0≤p∧p<4294967296)(d5:0≤p*2^r)(d6:p*2^r≤4294967295*4294967296):
  qG .u64 (ap .u64 p) (r:Int)=some (p*2^r):=by
 unfold qG;rw[gG,ax,show min r (b9 .u64)=r by show min r 64=r;omega,Ny (x:=p),Ny d5 (by omega)]
theorem aBJ{N:Int}{q r:Nat}(hN:N=((32*q+r:Nat):Int))(hr:r<32):rm N 32=some (r:Int):=by rw[lu,pY,hN,show((32*q+r:Nat):Int) % 32=(r:Int)by omega]
theorem aBK{N:Int}{q r:Nat}(hN:N=((32*q+r:Nat):Int))(hr:r<32)(hq:q≤10000):qt .i64 N 32=some (q:Int):=by rw[zU (by omega) (by rw[bV];omega) (by rw[bV];omega),bV,hN,show((32*q+r:Nat):Int)/32=(q:Int)by omega]
theorem ay6{n k:Nat}{x o1 out:List Int}{N:Int}{q r i:Nat}(hN:N=((32*q+r:Nat):Int))(hr:r<32)(hq:q≤10000)(hx:jl 4294967296 x)(hb:x.length≤100000)(hi:i<x.length)(h:UpI x out q r i)(g1:i+q<out.length)(g2:i+q+1<out.length):
  mO n (k+1) (N,(),(),x,(x.length:Int),(i:Int),(o1,()),out,())=mO n k (N,(),(),x,(x.length:Int),((i+1:Nat):Int),(o1,()),((out.set (i+q) (out[i+q]+x[i]*2^r % 4294967296)).set (i+q+1) (x[i]*2^r/4294967296)),()):=by
 have hp:=hx.at hi;have ho:=h.dig.at g1;have J5:=h.lo g1;have hz:out[i+q+1]=0:=h.hi _ g2 (by omega);obtain⟨p,hpe⟩:∃p,p=x[i]:=⟨_,rfl⟩;rw[←hpe]at hp ⊢;obtain⟨d1,d2,d3,d4,d5,d6⟩:=aBF hr hp ⟨ho.1,J5⟩;have e3:0≤p*2^r/4294967296:=fv d5 (by omega);have e5:p*2^r/4294967296<4294967296:=Int.lt_of_lt_of_le d4 (afb (by omega));have alO:(out.set (i+q) (out[i+q]+p*2^r % 4294967296))[i+q+1]? =some 0:=by
  rw[dw (by omega),ah g2,hz]
 have w1:ap .i64 ((i:Int)+(q:Int))=((i+q:Nat):Int):=by rw[aN];omega
 have w2:ap .i64 (((i+q:Nat):Int)+1)=((i+q+1:Nat):Int):=by rw[aN];omega
 have w3:ap .i64 ((i:Int)+1)=((i+1:Nat):Int):=by rw[aN];omega
 have w4:ap .u32 (p*2^r/4294967296)=p*2^r/4294967296:=arF e3 e5;have c0:decide ((i:Int)<(x.length:Int))=true:=by rw[bF];omega
 have g3:i+q+1<(out.set (i+q) (out[i+q]+p*2^r % 4294967296)).length:=by rw[aP];exact g2
 rw[Dq,af,if_pos c0,bj hi,←hpe,aa,aBJ hN hr,aa,aBI hr hp d5 d6,aa,aBK hN hr hq,aa,w1,ej g1,aa,ah g1,aa];rw[aa,ah g1,aa,aa,aqw,d1,w1,w2,ej g3,aa,alO,aa,atL,aa,aa,alO,aa,w4,d2,w3]
theorem YF{n:Nat}{x o1:List Int}{N:Int}{q r:Nat}(hN:N=((32*q+r:Nat):Int))(hr:r<32)(hq:q≤10000)(hx:jl 4294967296 x)(hb:x.length≤100000):∀(m k i:Nat) (out:List Int),i+m=x.length→m<k→UpI x out q r i→
  ∃out',mO n k (N,(),(),x,(x.length:Int),(i:Int),(o1,()),out,())=some ((),(),(o1,()),out',())∧UpI x out' q r x.length
 |0,k,i,out,h1,h2,h=>by
  obtain⟨k,rfl⟩:=iY k;rw[Dq,sS];have:i=x.length:=by omega
  subst this;exact⟨out,rfl,h⟩
 |m+1,k,i,out,h1,h2,h=>by
  obtain⟨k,rfl⟩:=iY k;have hi:i<x.length:=by omega
  have hlen:=h.len;have g1:i+q<out.length:=by omega
  have g2:i+q+1<out.length:=by omega
  rw[ay6 hN hr hq hx hb hi h g1 g2];exact YF hN hr hq hx hb m k (i+1) _ (by omega) (by omega) (awn hr hx hi h g1 g2)
theorem atV{n:Nat}{x:List Int}{N:Nat}(hx:Can 4294967296 x)(hb:x.length≤10000)(hn:2000000000≤n)(hf:x=[]∨N+jR (vz 4294967296 x)≤65536):
  ∃z,tW n ((x,()),(N:Int))=some ((z,()),0)∧Can 4294967296 z∧vz 4294967296 z=vz 4294967296 x*2^N∧z.length≤x.length+N/32+1:=by
 rw[aaL,sS,af]
 by_cases h0:x=[]
 ·subst h0;rw[if_pos (by rfl)];exact⟨[],rfl,Can.nil,by simp[vz],by simp⟩
 rw[if_neg (by rw[beq_iff_eq];show ¬ (x.length:Int)=0;have:=List.length_pos_iff.2 h0;omega),Uu hx (by omega)];simp only[aa];have hf':N+jR (vz 4294967296 x)≤65536:=by
  rcases hf with h |h
  ·exact absurd h h0
  ·exact h
 rw[aN (x:=65536 -((jR (vz 4294967296 x):Nat):Int)),sS];have hNq:qt .i64 (N:Int) 32=some ((N/32:Nat):Int):=by rw[zU (by omega) (by rw[bV];omega) (by rw[bV];omega),bV];congr 1
 rw[hNq];simp only[aa];rw[aN (x:=(x.length:Int)+((N/32:Nat):Int)),aN,gY (m:=x.length+N/32+1) (by omega) (by omega) (by omega)];simp only[aa];obtain⟨out,e,h⟩:=YF (n:=n) (x:=x) (o1:=[]) (N:=(N:Int)) (q:=N/32) (r:=N % 32) (by rw[show 32*(N/32)+N % 32=N by omega]) (by omega) (by omega) hx.1 (by omega) x.length n 0 (ao (x.length+N/32+1) 0) (by omega) (by omega)
  ⟨by simp,jl.rep (by omega) _,by rw[akR];simp[vz],fun h=>by simp;exact fp (by decide),fun k h _=>by simp⟩
 rw[show((0:Nat):Int)=0 from rfl]at e;rw[e];simp only[aa];have J5:=h.len;rw[abW (by omega) (by omega)];refine⟨_,rfl,xV h.dig,?_,by have:=Cb out;omega⟩;rw[DX,h.val,ch,akS,←Int.pow_add,show 32*(N/32)+N % 32=N by omega]
theorem Pv{n:Nat}:∀(m k:Nat) (c v:Int),0≤v→v<2^m→v≤1000000→m<k→0≤c→c+m≤1000000000→∃b,uo n k (c,v,())=some (b,())
 |0,k,c,v,h1,h2,_,h3,_,_=>by
  obtain⟨k,rfl⟩:=iY k;rw[DK,af,if_neg (by rw[bF];simp at h2;omega)];exact⟨c,rfl⟩
 |m+1,k,c,v,h1,h2,h6,h3,h4,h5=>by
  obtain⟨k,rfl⟩:=iY k;rw[DK,af]
  split
  ·rw[zU (by omega) (by rw[bV h1];omega) (by rw[bV h1];omega),bV h1];simp only[aa];rw[aN];rw[dP]at h2;exact Pv m k _ _ (by omega) (by omega) (by omega) (by omega) (by omega) (by omega)
  ·exact⟨c,rfl⟩
theorem atW{n:Nat}{x:List Int}(hx:jl 65536 x)(hb:x.length≤10000000)(hn:2000000000≤n):∃b,zT n x=some b:=by
 rw[abd,af]
 split
 ·exact⟨0,rfl⟩
 ·rename_i h;rw[beq_iff_eq]at h;have hl:x.length -1<x.length:=by omega
  have hd:=hx.at hl;rw[aN (x:=(x.length:Int) -1),show(x.length:Int) -1=((x.length -1:Nat):Int)by omega,bj hl];simp only[aa];obtain⟨b,e⟩:=Pv (n:=n) 16 n (16*((x.length -1:Nat):Int)) x[x.length -1] hd.1 (by simpa using hd.2) (by omega) (by omega) (by omega) (by omega);rw[aN,e];exact⟨b,rfl⟩
theorem ay7{n:Nat}{x:List Int}{N:Nat}(hx:Can 65536 x)(hb:x.length≤10000)(hN:N≤65536)(hn:2000000000≤n):
  ∃z f,HK n (x,(N:Int))=some (z,f)∧Can 65536 z∧vz 65536 z=vz 65536 x*2^N∧z.length≤x.length+N/16+4:=by
 rw[agD,af]
 by_cases h0:x=[]
 ·subst h0;rw[if_pos (by rfl)];exact⟨[],true,rfl,Can.nil,by simp[vz],by simp⟩
 rw[if_neg (by rw[beq_iff_eq];have:=List.length_pos_iff.2 h0;omega),sS];have hNq:qt .i64 (N:Int) 16=some ((N/16:Nat):Int):=by rw[zU (by omega) (by rw[bV];omega) (by rw[bV];omega),bV];congr 1
 have hNr:rm (N:Int) 16=some ((N % 16:Nat):Int):=by rw[lu,pY];congr 1
 rw[hNq,hNr];simp only[aa];rw[gY (m:=N/16) rfl (by omega) (by omega)];simp only[aa];have hp:=rV (s:=N % 16) (by omega);have hsh:qG .i64 1 (ap .u64 ((N % 16:Nat):Int))=some (2^(N % 16)):=by
  rw[Ny];unfold qG;rw[gG,ax,show min (N % 16) (b9 .i64)=N % 16 by show min (N % 16) 64=_;omega,Int.one_mul,aN]
 rw[hsh];simp only[aa];obtain⟨y,y1,y2,y3,y4⟩:=atR (n:=n) (by omega) (v:=2^(N % 16)) (by omega) (by omega);rw[y1];simp only[aa];obtain⟨z,z1,z2,z3,z4⟩:=aqz (n:=n) hx.1 y2.1 (by omega) hn;rw[z1];simp only[aa];rw[et (by rw[aY];omega) (by omega)];simp only[aa];have hpos:=Xf (by omega) hx h0;have aD4:z≠[]:=by
  intro h;rw[h,y3]at z3;have:(0:Int)=vz 65536 x*2^(N % 16):=z3;have:=Int.mul_pos hpos (show(0:Int)<2^(N % 16)by omega);omega
 have hcan:Can 65536 (ao (N/16) 0++z):=Can.app (jl.rep (by omega) _) z2 aD4;obtain⟨b,anj⟩:=atW (n:=n) hcan.1 (by rw[ag,aY];omega) hn;have hfit:∃r,De n (ao (N/16) 0++z)=some r:=by
  rw[aej,anj];simp only[aa];rw[af]
  split
  ·exact⟨_,rfl⟩
  ·exact⟨_,rfl⟩
 obtain⟨fr,hfr⟩:=hfit;rw[hfr];refine⟨_,_,rfl,hcan,?_,by rw[ag,aY];omega⟩;rw[Mm,akR,aY,z3,y3];have e1:(65536:Int)^(N/16)=2^(16*(N/16)):=by rw[Int.pow_mul];rfl
 have e2:(2:Int)^N=2^(16*(N/16))*2^(N % 16):=by rw[←Int.pow_add];congr 1;omega
 rw[e1,e2]
 grind
end Go.Am.Pu
