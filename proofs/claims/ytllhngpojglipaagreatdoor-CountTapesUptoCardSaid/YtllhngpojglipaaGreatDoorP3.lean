import Derived.Test.YtllhngpojglipaaGreatDoorP2
set_option linter.unusedVariables false
set_option linter.unusedSimpArgs false
open Int renaming mul_le_mul→dR,mul_nonneg→dq,tdiv_eq_ediv_of_nonneg→aK,toNat_natCast→ax
open Go.IntKind renaming bits→b9,i64→bw,signed→fW,wrap→ap
open List renaming getD_eq_getElem?_getD→aG,getElem?_eq_none→bx,length→ae
open Option renaming bind_some→aa
namespace Go.Am.Pu
open Go Go.Am
theorem Gp{g:Nat→Int}{m:Int}:∀i:Nat,(∀j,j<i→0≤g j∧g j≤m)→0≤gH g i∧gH g i≤i*m
 |0,_=>by simp[gH]
 |i+1,h=>by
  have h1:=Gp i (fun j hj=>h j (by omega));have h2:=h i (by omega);simp only[gH];rw[show((i+1:Nat):Int)*m=i*m+m by rw[Int.natCast_add,Int.add_mul];simp];omega
def qu(l:List Int)(i:Nat):Prop:=l.getD i 0< -268435456∨l.getD i 0>268435456
def sqs(l:List Int)(i:Nat):Int:=gH (fun i=>l.getD i 0*l.getD i 0) i
open Classical in
noncomputable def gk(l:List Int):Int×Int:=
 if l.length=0∨l.length>64 then(0,1)else if ∃i,i<l.length∧qu l i then(0,90)else(imax 1 (aig (sqs l l.length/(l.length:Int))),0)
theorem atv{x m:Int}(h1: -m≤x)(h2:x≤m):0≤x*x∧x*x≤m*m:=by
 have h:∀y:Int,0≤y→y≤m→0≤y*y∧y*y≤m*m:=fun y a b=>⟨dq a a,dR b b a (by omega)⟩
 by_cases h0:0≤x
 ·exact h x h0 h2
 ·have:=h (-x) (by omega) (by omega);rwa[Int.neg_mul_neg]at this
theorem abR{l:List Int}{i:Nat}(h:∀j,j<i→¬ qu l j):0≤sqs l i∧sqs l i≤i*72057594037927936:=
 Gp i fun j hj=>by
  have h1: -268435456≤l.getD j 0∧l.getD j 0≤268435456:=by
   have:=h j hj;unfold qu at this;omega
  exact atv h1.1 h1.2
theorem atw{x:Int}(h:0≤x):imax 1 x=if x=0 then 1 else x:=by
 unfold imax
 split<;>split<;>omega
theorem arq{n:Nat}{l:List Int}(hn:2000000000≤n):CI n l=some (gk l):=by
 rw[adM];unfold gk;simp only[af,bF,beq_iff_eq]
 by_cases h0:(l.length:Int)=0
 ·rw[if_pos h0,if_pos (.inl (by omega))]
 ·rw[if_neg h0]
  by_cases h1:(l.length:Int)>64
  ·rw[if_pos h1,if_pos (.inr (by omega))]
  ·rw[if_neg h1,if_neg (show ¬ (l.length=0∨l.length>64)by omega)];have step:∀k i:Nat,i<l.length→(∀j,j<i→¬ qu l j)→(qu l i→i5 n (k+1) (l,sqs l i,l,(l.length:Int),(i:Int),())=some (Sum.inl (0,90,())))∧
     (¬ qu l i→i5 n (k+1) (l,sqs l i,l,(l.length:Int),(i:Int),())=i5 n k (l,sqs l (i+1),l,(l.length:Int),(i:Int)+1,())):=by
    intro k i hi hj;rw[F4];simp only[af,bF];rw[lK,bm hi 0];simp only[aa];refine⟨fun hf=> ?_,fun hf=> ?_⟩
    ·rcases hf with hf |hf
     ·rw[if_pos hf]
     ·rw[gG,if_pos hf]
    ·have h2: -268435456≤l.getD i 0∧l.getD i 0≤268435456:=by
      unfold qu at hf;omega
     have h3:=atv h2.1 h2.2;have h4:=abR hj;rw[gG,gG,aN (x:=l.getD i 0*l.getD i 0),aN (x:=(i:Int)+1),aN];rfl
   by_cases hex:∃i,i<l.length∧qu l i
   ·rw[if_pos hex];obtain⟨i0,hi0,hb0⟩:=hex;obtain⟨i,hi,hlt,hle⟩:=least (p:=fun i=>qu l i) i0 hb0;have hL:=aX (L:=fun k i o=>i5 n k (l,o,l,(l.length:Int),i,())) (len:=i) (r:=Sum.inl (0,90,())) (fun i=>sqs l i)
     (fun k j hj=>(step k j (by omega) (fun j' h=>hlt j' (by omega))).2 (hlt j hj)) (fun k=>(step k i (by omega) hlt).1 hi) n (by omega)
    rw[show sqs l 0=0 from rfl]at hL;rw[hL];rfl
   ·rw[if_neg hex];have hno:∀j,j<l.length→¬ qu l j:=fun j hj h=>hex ⟨j,hj,h⟩;have hL:=aX (L:=fun k i o=>i5 n k (l,o,l,(l.length:Int),i,())) (len:=l.length) (r:=Sum.inr (l,sqs l l.length,())) (fun i=>sqs l i)
     (fun k j hj=>(step k j hj (fun j' h=>hno j' (by omega))).2 (hno j hj)) (fun k=>by
      show i5 n (k+1) _=_;rw[F4,af,if_neg (by simp)]) n (by omega)
    rw[show sqs l 0=0 from rfl]at hL;rw[hL];have h4:=abR hno;simp only[aa,cY];have hd:=(jQ (x:=sqs l l.length) (d:=(l.length:Int)) (by omega)).1 h4.1;rw[zU (by omega) (by rw[aK h4.1];omega) (by rw[aK h4.1];omega),aK h4.1];simp only[aa];rw[aoM (by omega) hd.1];rfl
theorem aoO{n:Nat}{l:List Int}(hn:2000000000≤n):zC n l=some (gk l):=by
 rw[aaR];unfold gk;simp only[af,bF,beq_iff_eq]
 by_cases h0:(l.length:Int)<1
 ·rw[if_pos h0,if_pos (.inl (by omega))]
 ·rw[if_neg h0]
  by_cases h1:(l.length:Int)>64
  ·rw[if_pos h1,if_pos (.inr (by omega))]
  ·rw[if_neg h1,if_neg (show ¬ (l.length=0∨l.length>64)by omega)];have step:∀k i:Nat,i<l.length→(∀j,j<i→¬ qu l j)→(qu l i→ik n (k+1) (l,sqs l i,(i:Int),())=some (Sum.inl (0,90,())))∧
     (¬ qu l i→ik n (k+1) (l,sqs l i,(i:Int),())=ik n k (l,sqs l (i+1),(i:Int)+1,())):=by
    intro k i hi hj;rw[Dw];simp only[af,bF];rw[lK,bm hi 0];simp only[aa];refine⟨fun hf=> ?_,fun hf=> ?_⟩
    ·rcases hf with hf |hf
     ·rw[gG,if_pos hf]
     ·rw[if_pos hf]
    ·have h2: -268435456≤l.getD i 0∧l.getD i 0≤268435456:=by
      unfold qu at hf;omega
     have h3:=atv h2.1 h2.2;have h4:=abR hj;rw[gG,gG,aN (x:=l.getD i 0*l.getD i 0),aN (x:=(i:Int)+1),aN];rfl
   by_cases hex:∃i,i<l.length∧qu l i
   ·rw[if_pos hex];obtain⟨i0,hi0,hb0⟩:=hex;obtain⟨i,hi,hlt,hle⟩:=least (p:=fun i=>qu l i) i0 hb0;have hL:=aX (L:=fun k i o=>ik n k (l,o,i,())) (len:=i) (r:=Sum.inl (0,90,())) (fun i=>sqs l i)
     (fun k j hj=>(step k j (by omega) (fun j' h=>hlt j' (by omega))).2 (hlt j hj)) (fun k=>(step k i (by omega) hlt).1 hi) n (by omega)
    rw[show sqs l 0=0 from rfl]at hL;rw[hL];rfl
   ·rw[if_neg hex];have hno:∀j,j<l.length→¬ qu l j:=fun j hj h=>hex ⟨j,hj,h⟩;have hL:=aX (L:=fun k i o=>ik n k (l,o,i,())) (len:=l.length) (r:=Sum.inr (l,sqs l l.length,())) (fun i=>sqs l i)
     (fun k j hj=>(step k j hj (fun j' h=>hno j' (by omega))).2 (hno j hj)) (fun k=>by
      show ik n (k+1) _=_;rw[Dw,af,if_neg (by simp)]) n (by omega)
    rw[show sqs l 0=0 from rfl]at hL;rw[hL];have h4:=abR hno;simp only[aa,cY];have hd:=(jQ (x:=sqs l l.length) (d:=(l.length:Int)) (by omega)).1 h4.1;rw[zU (by omega) (by rw[aK h4.1];omega) (by rw[aK h4.1];omega),aK h4.1];simp only[aa];rw[aoN (by omega) hd.1,atw (aih _).1];simp only[aa]
    split<;>rfl
def wc(l gw:List Int)(r:Int)(i:Nat):Int:=fF (cq ((64*l.getD i 0).tdiv r*gw.getD i 0) 6).1
noncomputable def ns(l gw:List Int):List Int×Int:=
 if l.length≠gw.length then([],1)else if(gk l).2≠0 then([],(gk l).2)else(dX (wc l gw (gk l).1) l.length,0)
theorem aeP{l:List Int}(h:(gk l).2=0):1≤l.length∧l.length≤64∧(∀j,j<l.length→¬ qu l j)∧1≤(gk l).1∧(gk l).1≤4294967296:=by
 unfold gk at h ⊢
 by_cases h0:l.length=0∨l.length>64
 ·rw[if_pos h0]at h;cases h
 ·rw[if_neg h0]at h ⊢
  by_cases h1:∃i,i<l.length∧qu l i
  ·rw[if_pos h1]at h;cases h
  ·rw[if_neg h1];have:=aih (sqs l l.length/(l.length:Int));refine⟨by omega,by omega,fun j hj hf=>h1 ⟨j,hj,hf⟩,?_,?_⟩
   ·show 1≤imax 1 _;rw[atw this.1];split<;>omega
   ·show imax 1 _≤_;rw[atw this.1];split<;>omega
theorem akD{a b m k:Int}(ha: -m≤a∧a≤m)(hb: -k≤b∧b≤k): -(m*k)≤a*b∧a*b≤m*k:=by
 have h:∀a b:Int,0≤a→a≤m→0≤b→b≤k→0≤a*b∧a*b≤m*k:=fun a b h1 h2 h3 h4=>
  ⟨dq h1 h3,dR h2 h4 h3 (by omega)⟩
 by_cases h1:0≤a
 ·by_cases h2:0≤b
  ·have:=h a b h1 (by omega) h2 (by omega);omega
  ·have:=h a (-b) h1 (by omega) (by omega) (by omega);rw[Int.mul_neg]at this;omega
 ·by_cases h2:0≤b
  ·have:=h (-a) b (by omega) (by omega) h2 (by omega);rw[Int.neg_mul]at this;omega
  ·have:=h (-a) (-b) (by omega) (by omega) (by omega) (by omega);rw[Int.neg_mul_neg]at this;omega
theorem Yu{l gw:List Int}{r:Int}{i:Nat}(hg:bc gw)(hf:¬ qu l i)(hr:1≤r):(-268435456≤l.getD i 0∧l.getD i 0≤268435456)∧(-17179869184≤(64*l.getD i 0).tdiv r∧(64*l.getD i 0).tdiv r≤17179869184)∧
  (-(17179869184*128)≤(64*l.getD i 0).tdiv r*gw.getD i 0∧(64*l.getD i 0).tdiv r*gw.getD i 0≤17179869184*128):=by
 have h2: -268435456≤l.getD i 0∧l.getD i 0≤268435456:=by
  unfold qu at hf;omega
 have h3:=aeG (x:=64*l.getD i 0) hr;have h4: -17179869184≤(64*l.getD i 0).tdiv r∧(64*l.getD i 0).tdiv r≤17179869184:=by omega
 have h5:=hg.at i;exact⟨h2,h4,akD h4 (by omega)⟩
theorem Uc{n:Nat}{l gw:List Int}(hg:bc gw)(hn:2000000000≤n):sf n (l,gw)=some (ns l gw):=by
 rw[agr];unfold ns;simp only[af,bF,bne_iff_ne,ne_eq]
 by_cases h0:(l.length:Int)=(gw.length:Int)
 ·rw[if_neg (by simpa using h0),if_neg (show ¬ ¬ l.length=gw.length by omega),arq hn];simp only[aa]
  by_cases h1:(gk l).2=0
  ·rw[if_neg (by simpa using h1),if_neg (by simpa using h1)];obtain⟨a1,a2,a3,a4,a5⟩:=aeP h1;have hm:Cl 1 (l.length:Int)=some l.length:=by
    unfold Cl room;rw[if_pos ⟨by omega,by omega,by omega⟩];simp
   rw[hm];simp only[aa];have hL:=aX (L:=fun k i o=>qb n k (gw,(gk l).1,(),l,(l.length:Int),i,o,())) (len:=l.length) (r:=((),dX (wc l gw (gk l).1) l.length,())) (fun i=>fill (wc l gw (gk l).1) 0 l.length i) ?_ ?_ n (by omega)
   ·rw[wa]at hL;rw[hL];rfl
   ·intro k i hi;show qb n (k+1) _=_;rw[Jk];simp only[af,bF];obtain⟨b1,b2,b3⟩:=Yu hg (a3 i hi) a4;have b4:=hg.at i;rw[lK,bm hi 0];simp only[aa];rw[aN (x:=64*l.getD i 0),zU (by omega) (by omega) (by omega),bm (show i<gw.length by omega) 0];simp only[aa];rw[aN (x:=gw.getD i 0),aN (x:=(64*l.getD i 0).tdiv (gk l).1*gw.getD i 0),nA (by omega) (by omega)];simp only[aa];rw[uH,HX _ _ hi];simp only[aa];rw[B6 _ _ hi,aN];simp only[aa];rw[show fF (cq ((64*l.getD i 0).tdiv (gk l).1*gw.getD i 0) 6).1=wc l gw (gk l).1 i from rfl,B5 _ _ hi]
   ·intro k;show qb n (k+1) _=_;rw[Jk,af,if_neg (by simp),Gm]
  ·rw[if_pos h1,if_pos h1]
 ·rw[if_pos h0,lK]
theorem MW{n:Nat}{l gw:List Int}(hg:bc gw)(hn:2000000000≤n):pL n (l,gw)=some (ns l gw):=by
 rw[ad6];unfold ns;simp only[af,bF,bne_iff_ne,ne_eq]
 by_cases h0:(l.length:Int)=(gw.length:Int)
 ·rw[if_neg (by simpa using h0),if_neg (show ¬ ¬ l.length=gw.length by omega),aoO hn];simp only[aa]
  by_cases h1:(gk l).2=0
  ·rw[if_neg (by simpa using h1),if_neg (by simpa using h1)];obtain⟨a1,a2,a3,a4,a5⟩:=aeP h1;have hL:=aX (L:=fun k i o=>oS n k (l,gw,(gk l).1,o,i,())) (len:=l.length) (r:=(dX (wc l gw (gk l).1) l.length,())) (fun i=>dX (wc l gw (gk l).1) i) ?_ ?_ n (by omega)
   ·rw[eS]at hL;rw[hL];rfl
   ·intro k i hi;show oS n (k+1) _=_;rw[Gc];simp only[af,bF];obtain⟨b1,b2,b3⟩:=Yu hg (a3 i hi) a4;have b4:=hg.at i;rw[lK,bm hi 0];simp only[aa];have e1:(if l.getD i 0<0 then some (l,gw,(gk l).1,dX (wc l gw (gk l).1) i,(i:Int),ap .i64 (0 -l.getD i 0),())else some (l,gw,(gk l).1,dX (wc l gw (gk l).1) i,(i:Int),l.getD i 0,()))=
      some (l,gw,(gk l).1,dX (wc l gw (gk l).1) i,(i:Int),(if l.getD i 0<0 then -l.getD i 0 else l.getD i 0),()):=by
     split
     ·rw[aN];simp
     ·rfl
    rw[e1];simp only[aa];obtain⟨y,hy⟩:∃y,y=(if l.getD i 0<0 then -l.getD i 0 else l.getD i 0):=⟨_,rfl⟩;have hyr:0≤y∧y≤268435456:=by rw[hy];split<;>omega
    rw[←hy];have h3:=(aeG (x:=64*y) a4).1 (by omega);rw[aN (x:=64*y),zU (by omega) (by omega) (by omega)];simp only[aa];rw[bm hi 0];simp only[aa];have e2:(if l.getD i 0<0 then some (l,gw,(gk l).1,dX (wc l gw (gk l).1) i,(i:Int),ap .i64 (0 -(64*y).tdiv (gk l).1),())else some (l,gw,(gk l).1,dX (wc l gw (gk l).1) i,(i:Int),(64*y).tdiv (gk l).1,()))=
      some (l,gw,(gk l).1,dX (wc l gw (gk l).1) i,(i:Int),(64*l.getD i 0).tdiv (gk l).1,()):=by
     split
     ·rename_i hneg;rw[if_pos hneg]at hy;rw[aN,hy,Int.mul_neg,Int.neg_tdiv];simp
     ·rename_i hneg;rw[if_neg hneg]at hy;rw[hy]
    rw[e2];simp only[aa];rw[bm (show i<gw.length by omega) 0];simp only[aa];rw[aN (x:=gw.getD i 0),aN (x:=(64*l.getD i 0).tdiv (gk l).1*gw.getD i 0),pU (by omega) (by omega) (by omega)];simp only[aa];rw[uI];simp only[aa];rw[show fF (cq ((64*l.getD i 0).tdiv (gk l).1*gw.getD i 0) 6).1=wc l gw (gk l).1 i from rfl,fL _ (by unfold room;omega) (by unfold room;omega),aN];rfl
   ·intro k;show oS n (k+1) _=_;rw[Gc,af,if_neg (by simp)]
  ·rw[if_pos h1,if_pos h1]
 ·rw[if_pos h0,lK]
def kk(sz p:Nat):Nat:=(2*p % sz)/2
def axe(x cos sin:List Int)(sz p:Nat):Int:=fF (cq (x.getD (2*p) 0*cos.getD (kk sz p) 0 -x.getD (2*p+1) 0*sin.getD (kk sz p) 0) 6).1
def axf(x cos sin:List Int)(sz p:Nat):Int:=fF (cq (x.getD (2*p) 0*sin.getD (kk sz p) 0+x.getD (2*p+1) 0*cos.getD (kk sz p) 0) 6).1
def uK(x cos sin:List Int)(sz i:Nat):Int:=if i % 2=0 then axe x cos sin sz (i/2)else axf x cos sin sz (i/2)
def Gq(x:List Int)(size:Int)(cos sin:List Int):List Int×Int:=
 if size<2∨size % 2≠0∨(x.length:Int) % size≠0 then([],100)else if(cos.length:Int)≠size/2∨(sin.length:Int)≠size/2 then([],101)else(dX (uK x cos sin size.toNat) x.length,0)
theorem aeQ(x cos sin:List Int)(sz p:Nat):uK x cos sin sz (2*p)=axe x cos sin sz p:=by
 unfold uK;rw[lK,show 2*p/2=p by omega]
theorem aii(x cos sin:List Int)(sz p:Nat):uK x cos sin sz (2*p+1)=axf x cos sin sz p:=by
 unfold uK;rw[gG,show(2*p+1)/2=p by omega]
theorem axg{sz p:Nat}(h:2≤sz)(h2:sz % 2=0):kk sz p<sz/2:=by
 unfold kk;have:=Nat.mod_lt (2*p) (show 0<sz by omega);omega
theorem DP{a b:Int}(ha:0≤a:=by omega)(hb:b≠0:=by omega):rm a b=some (a % b):=by rw[lu hb,Int.tmod_eq_emod_of_nonneg ha]
theorem n6{a b:Int}(ha:0≤a)(ha2:a≤9223372036854775807)(hb:1≤b):qt .i64 a b=some (a/b):=by
 have h:=(jQ (x:=a) hb).1 ha;rw[zU (by omega) (by rw[aK ha];omega) (by rw[aK ha];omega),aK ha]
theorem aij{x cos sin:List Int}{size:Int}(hs:size≤9223372036854775807){K:Option (List Int×Int)}
  (hK:2≤size→size % 2=0→(x.length:Int) % size=0→(cos.length:Int)=size/2→(sin.length:Int)=size/2→K=some (dX (uK x cos sin size.toNat) x.length,0)):
  (av (decide (size<(2:Int)))
   (some ([],(100:Int)))
   (((rm size (2:Int))).bind fun v1=>
   av (v1 !=(0:Int))
    (some ([],(100:Int)))
    (((rm (((ae x):Nat):Int) size)).bind fun v2=>
    av (v2 !=(0:Int))
     (some ([],(100:Int)))
     (((qt bw size (2:Int))).bind fun v3=>
     av ((((ae cos):Nat):Int)!=v3)
      (some ([],(101:Int)))
      (((qt bw size (2:Int))).bind fun v4=>
      av ((((ae sin):Nat):Int)!=v4)
       (some ([],(101:Int))) K)))))=some (Gq x size cos sin):=by
 unfold Gq;simp only[af,bF,bne_iff_ne,ne_eq]
 by_cases h1:size<2
 ·rw[if_pos h1,if_pos (.inl h1)]
 ·rw[if_neg h1,DP];simp only[aa]
  by_cases h2:size % 2=0
  ·rw[if_neg (by simpa using h2),DP];simp only[aa]
   by_cases h3:(x.length:Int) % size=0
   ·rw[if_neg (by simpa using h3),n6 (by omega) (by omega) (by omega)];simp only[aa];have hA:¬ (size<2∨¬ size % 2=0∨¬ (x.length:Int) % size=0):=by
     rintro(h |h |h)
     ·exact h1 h
     ·exact h h2
     ·exact h h3
    rw[if_neg hA]
    by_cases h4:(cos.length:Int)=size/2
    ·rw[if_neg (by simpa using h4)]
     by_cases h5:(sin.length:Int)=size/2
     ·have hB:¬ (¬ (cos.length:Int)=size/2∨¬ (sin.length:Int)=size/2):=by
       rintro(h |h)
       ·exact h h4
       ·exact h h5
      rw[if_neg (by simpa using h5),if_neg hB];exact hK (by omega) h2 h3 h4 h5
     ·rw[if_pos h5,if_pos (.inr h5)]
    ·rw[if_pos h4,if_pos (.inl h4)]
   ·rw[if_pos h3,if_pos (.inr (.inr h3))]
  ·rw[if_pos h2,if_pos (.inr (.inl h2))]
theorem amF{l size:Nat}(h:l % size=0)(h2:size % 2=0):l % 2=0:=
 Nat.mod_eq_zero_of_dvd (Nat.dvd_trans (Nat.dvd_of_mod_eq_zero h2) (Nat.dvd_of_mod_eq_zero h))
theorem uL{l:List Int}{i:Int}{j:Nat}(hij:i=(j:Int):=by omega)(h:j<l.length:=by omega):idx l i=some (l.getD j 0):=by rw[hij];exact bm h 0
theorem aik{n:Nat}{x cos sin:List Int}{size:Int}(hx:bc x)(hc:bc cos)(hsn:bc sin)(hs:size≤9223372036854775807)(hl:x.length≤1000000000)(hn:2000000000≤n):xu n (x,size,cos,sin)=some (Gq x size cos sin):=by
 rw[adO,xH];rw[aij (x:=x) hs ?_]
 ·rfl
 ·intro h1 h2 h3 h4 h5;obtain⟨sz,rfl⟩:∃sz:Nat,size=(sz:Int):=⟨size.toNat,by omega⟩;rw[ax];have hev:=amF (l:=x.length) (size:=sz) (by omega) (by omega);have hm:Cl 1 (x.length:Int)=some x.length:=by
   unfold Cl room;rw[if_pos ⟨by omega,by omega,by omega⟩];simp
  rw[hm];simp only[aa];have hL:=aX (L:=fun k i o=>dH n k (x,(sz:Int),cos,sin,(),(),2*i,o,())) (len:=x.length/2) (r:=((),dX (uK x cos sin sz) x.length,())) (fun p=>fill (uK x cos sin sz) 0 x.length (2*p)) ?_ ?_ n (by omega)
  ·rw[show 2*0=0 from rfl,wa]at hL;rw[show(2:Int)*0=0 from rfl]at hL;rw[hL];rfl
  ·intro k p hp;show dH n (k+1) _=_;rw[ml];simp only[af,bF];have hk:=axg (sz:=sz) (p:=p) (by omega) (by omega);have b1:=hx.at (2*p);have b2:=hx.at (2*p+1);have b3:=hc.at (kk sz p);have b4:=hsn.at (kk sz p);have m1:=W8 b1 b3;have m2:=W8 b2 b4;have m3:=W8 b1 b4;have m4:=W8 b2 b3;rw[lK,DP];simp only[aa];have hmod:(2*(p:Int)) % (sz:Int)=((2*p % sz:Nat):Int):=by simp
   have aDO:=Nat.mod_lt (2*p) (show 0<sz by omega);rw[hmod,n6 (by omega) (by omega) (by omega),aN (x:=2*(p:Int)+1)];simp only[aa];rw[uL (j:=2*p) (by omega) (by omega),uL (j:=2*p+1) (by omega) (by omega)];simp only[aa];rw[uL (l:=cos) (j:=kk sz p) (by unfold kk;omega) (by omega),uL (l:=sin) (j:=kk sz p) (by unfold kk;omega) (by omega)];simp only[aa];rw[aN (x:=x.getD (2*p) 0),aN (x:=x.getD (2*p+1) 0),aN (x:=cos.getD (kk sz p) 0),aN (x:=sin.getD (kk sz p) 0),Wl];simp only[aa];rw[aN (x:=x.getD (2*p) 0*cos.getD (kk sz p) 0),aN (x:=x.getD (2*p+1) 0*sin.getD (kk sz p) 0),aN (x:=x.getD (2*p) 0*sin.getD (kk sz p) 0),aN (x:=x.getD (2*p+1) 0*cos.getD (kk sz p) 0)];rw[aN (x:=x.getD (2*p) 0*cos.getD (kk sz p) 0 -x.getD (2*p+1) 0*sin.getD (kk sz p) 0),aN (x:=x.getD (2*p) 0*sin.getD (kk sz p) 0+x.getD (2*p+1) 0*cos.getD (kk sz p) 0)];rw[F6,F6,nA (by omega) (by omega),nA (by omega) (by omega)];simp only[aa];rw[uH,uH];simp only[aa];rw[show fF (cq (x.getD (2*p) 0*cos.getD (kk sz p) 0 -x.getD (2*p+1) 0*sin.getD (kk sz p) 0) 6).1=uK x cos sin sz (2*p)from(aeQ _ _ _ _ _).symm,
    show fF (cq (x.getD (2*p) 0*sin.getD (kk sz p) 0+x.getD (2*p+1) 0*cos.getD (kk sz p) 0) 6).1=uK x cos sin sz (2*p+1)from(aii _ _ _ _ _).symm]
   rw[show(2*(p:Int))=((2*p:Nat):Int)by simp,show((2*p:Nat):Int)+1=((2*p+1:Nat):Int)by simp];rw[HX _ _ (show 2*p<x.length by omega)];simp only[aa];rw[B6 _ _ (show 2*p<x.length by omega),B5 _ _ (show 2*p<x.length by omega)];simp only[aa];rw[HX _ _ (show 2*p+1<x.length by omega)];simp only[aa];rw[B6 _ _ (show 2*p+1<x.length by omega),B5 _ _ (show 2*p+1<x.length by omega)];simp only[aa];rw[aN,show((2*p:Nat):Int)+2=2*((p:Int)+1)by omega];rfl
  ·intro k;show dH n (k+1) _=_;rw[ml,af,if_neg (by simp;omega),show 2*(x.length/2)=x.length by omega,Gm]
theorem aoP{n:Nat}{x cos sin:List Int}{size:Int}(hx:bc x)(hc:bc cos)(hsn:bc sin)(hs:size≤9223372036854775807)(hl:x.length≤1000000000)(hn:2000000000≤n):zD n (x,size,cos,sin)=some (Gq x size cos sin):=by
 rw[aaT,TE];rw[aij (x:=x) hs ?_]
 ·rfl
 ·intro h1 h2 h3 h4 h5;obtain⟨sz,rfl⟩:∃sz:Nat,size=(sz:Int):=⟨size.toNat,by omega⟩;rw[ax];have hev:=amF (l:=x.length) (size:=sz) (by omega) (by omega);have hL:=aX (L:=fun k i o=>kh n k (x,(sz:Int),cos,sin,-1,o,2*i,())) (len:=x.length/2) (r:=(dX (uK x cos sin sz) x.length,())) (fun p=>dX (uK x cos sin sz) (2*p)) ?_ ?_ n (by omega)
  ·rw[show 2*0=0 from rfl,eS]at hL;rw[show(2:Int)*0=0 from rfl]at hL;rw[hL];rfl
  ·intro k p hp;show kh n (k+1) _=_;rw[yU];simp only[af,bF];have hk:=axg (sz:=sz) (p:=p) (by omega) (by omega);have b1:=hx.at (2*p);have b2:=hx.at (2*p+1);have b3:=hc.at (kk sz p);have b4:=hsn.at (kk sz p);have m1:=W8 b1 b3;have m2:=W8 b2 b4;have m3:=W8 b1 b4;have m4:=W8 b2 b3;rw[lK,DP];simp only[aa];have hmod:(2*(p:Int)) % (sz:Int)=((2*p % sz:Nat):Int):=by simp
   have aDO:=Nat.mod_lt (2*p) (show 0<sz by omega);rw[hmod,n6 (by omega) (by omega) (by omega),aN (x:=2*(p:Int)+1)];simp only[aa];rw[uL (j:=2*p) (by omega) (by omega),uL (j:=2*p+1) (by omega) (by omega)];simp only[aa];rw[uL (l:=cos) (j:=kk sz p) (by unfold kk;omega) (by omega),uL (l:=sin) (j:=kk sz p) (by unfold kk;omega) (by omega)];simp only[aa];rw[aN (x:=x.getD (2*p) 0),aN (x:=x.getD (2*p+1) 0),aN (x:=cos.getD (kk sz p) 0),aN (x:=sin.getD (kk sz p) 0),aN (x:= -1*sin.getD (kk sz p) 0),aaS];rw[show(-1*sin.getD (kk sz p) 0)= -sin.getD (kk sz p) 0 by omega,Int.mul_neg,Int.mul_neg];rw[aN (x:=x.getD (2*p) 0*cos.getD (kk sz p) 0),aN (x:= -(x.getD (2*p+1) 0*sin.getD (kk sz p) 0)),aN (x:=x.getD (2*p+1) 0*cos.getD (kk sz p) 0),aN (x:= -(x.getD (2*p) 0*sin.getD (kk sz p) 0))];rw[show x.getD (2*p) 0*cos.getD (kk sz p) 0+ -(x.getD (2*p+1) 0*sin.getD (kk sz p) 0)=x.getD (2*p) 0*cos.getD (kk sz p) 0 -x.getD (2*p+1) 0*sin.getD (kk sz p) 0 by omega,
    show x.getD (2*p+1) 0*cos.getD (kk sz p) 0 - -(x.getD (2*p) 0*sin.getD (kk sz p) 0)=x.getD (2*p) 0*sin.getD (kk sz p) 0+x.getD (2*p+1) 0*cos.getD (kk sz p) 0 by omega]
   rw[aN (x:=x.getD (2*p) 0*cos.getD (kk sz p) 0 -x.getD (2*p+1) 0*sin.getD (kk sz p) 0),aN (x:=x.getD (2*p) 0*sin.getD (kk sz p) 0+x.getD (2*p+1) 0*cos.getD (kk sz p) 0)];rw[pU (by omega) (by omega) (by omega),pU (by omega) (by omega) (by omega)];simp only[aa];rw[uI,uI];simp only[aa];rw[show fF (cq (x.getD (2*p) 0*cos.getD (kk sz p) 0 -x.getD (2*p+1) 0*sin.getD (kk sz p) 0) 6).1=uK x cos sin sz (2*p)from(aeQ _ _ _ _ _).symm,
    show fF (cq (x.getD (2*p) 0*sin.getD (kk sz p) 0+x.getD (2*p+1) 0*cos.getD (kk sz p) 0) 6).1=uK x cos sin sz (2*p+1)from(aii _ _ _ _ _).symm]
   have asu:app 1 (dX (uK x cos sin sz) (2*p)) [uK x cos sin sz (2*p),uK x cos sin sz (2*p+1)]=some (dX (uK x cos sin sz) (2*(p+1))):=by
    unfold app room;rw[if_pos ⟨by simp;omega,by simp;omega⟩,show 2*(p+1)=2*p+1+1 by omega,oz,oz];simp
   rw[asu];simp only[aa];rw[aN,show 2*(p:Int)+2=2*((p:Int)+1)by omega]
  ·intro k;show kh n (k+1) _=_;rw[yU,af,if_neg (by simp;omega),show 2*(x.length/2)=x.length by omega]
theorem ayY(x:Int): -128≤ap .i8 x∧ap .i8 x≤127:=by
 simp only[ap,b9,fW,Bool.true_and,bF,ge_iff_le]
 split<;>omega
theorem atx(x:Int):ap .u64 x=x % 18446744073709551616:=by
 simp[ap,b9,fW]
def mx(l:List Int):Nat→Int
 |0=>l.getD 0 0
 |i+1=>imax (mx l i) (l.getD i 0)
theorem aty(l:List Int):mx l 1=l.getD 0 0:=by
 show imax (l.getD 0 0) (l.getD 0 0)=_;unfold imax;split<;>rfl
theorem aoQ{l:List Int}(h:iI l):∀i,-9223372036854775808≤mx l i∧mx l i≤9223372036854775807
 |0=>h.at 0
 |i+1=>by
  have h1:=aoQ h i;have h2:=h.at i;show -9223372036854775808≤imax _ _∧imax _ _≤9223372036854775807;unfold imax;split<;>omega
theorem atz{l:List Int}:∀i j,j<i→l.getD j 0≤mx l i
 |0,j,h=>by omega
 |i+1,j,h=>by
  show l.getD j 0≤imax (mx l i) (l.getD i 0)
  by_cases hj:j=i
  ·subst hj;unfold imax;split<;>omega
  ·have:=atz (l:=l) i j (by omega);unfold imax;split<;>omega
theorem axh{l:List Int}:∀i,1≤i→∃j,j<i∧mx l i=l.getD j 0
 |0,h=>by omega
 |1,_=>⟨0,by omega,aty l⟩
 |i+2,_=>by
  obtain⟨j,h1,h2⟩:=axh (l:=l) (i+1) (by omega);show ∃j,j<i+2∧imax (mx l (i+1)) (l.getD (i+1) 0)=l.getD j 0;unfold imax
  split
  ·exact⟨i+1,by omega,rfl⟩
  ·exact⟨j,by omega,h2⟩
theorem aoR{n:Nat}{l:List Int}(h1:1≤l.length)(h2:l.length≤1000000000)(hn:2000000000≤n):nG n l=some (mx l l.length):=by
 rw[JJ];simp only[af,bF];rw[gG];simp only[aa];rw[uL (j:=0) (by simp) (by omega)];simp only[aa];have hL:=aX (L:=fun k i m=>gA n k (l,m,i+1,())) (len:=l.length -1) (r:=(mx l l.length,())) (fun i=>mx l (i+1)) ?_ ?_ n (by omega)
 ·rw[show 0+1=1 from rfl,aty]at hL;rw[show(0:Int)+1=1 from rfl]at hL;rw[hL];rfl
 ·intro k i hi;show gA n (k+1) _=_;rw[sJ];simp only[af,bF];rw[lK,uL (j:=i+1) (by simp) (by omega)];simp only[aa];rw[aN];rfl
 ·intro k;show gA n (k+1) _=_;rw[sJ,af,if_neg (by simp;omega),show l.length -1+1=l.length by omega]
noncomputable def DQ(m s:Int):Int:=W7 (256*(if s -m< -1099511627776 then -1099511627776 else s -m))
noncomputable def fI(l:List Int):List Int:=dX (fun i=>DQ (mx l l.length) (l.getD i 0)) l.length
theorem aeR{m s:Int}:(-281474976710656≤256*(if s -m< -1099511627776 then -1099511627776 else s -m))∧(s≤m→256*(if s -m< -1099511627776 then -1099511627776 else s -m)≤0):=by
 split<;>omega
theorem akE{n:Nat}{l:List Int}(hl:iI l)(h1:1≤l.length)(h2:l.length≤512)(hn:2000000000≤n):tG n l=some (fI l,0):=by
 rw[Tm];simp only[af,bF,beq_iff_eq];rw[gG,gG,aoR h1 (by omega) hn];simp only[aa];have hL:=aX (L:=fun k i o=>ke n k (mx l l.length,o,l,(l.length:Int),i,())) (len:=l.length) (r:=(fI l,())) (fun i=>dX (fun i=>DQ (mx l l.length) (l.getD i 0)) i) ?_ ?_ n (by omega)
 ·rw[eS]at hL;rw[hL];rfl
 ·intro k i hi;show ke n (k+1) _=_;rw[yH];simp only[af,bF];have b1:=aoQ hl l.length;have b2:=hl.at i;have b3:=atz (l:=l) l.length i hi;have b4:=aeR (m:=mx l l.length) (s:=l.getD i 0);rw[lK,bm hi 0];simp only[aa];have e:ap .i64 (-256*ap .i64 (x5 1099511627776 (ap .u64 (ap .u64 (mx l l.length) -ap .u64 (l.getD i 0)))))=256*(if l.getD i 0 -mx l l.length< -1099511627776 then -1099511627776 else l.getD i 0 -mx l l.length):=by
   have e1:ap .u64 (ap .u64 (mx l l.length) -ap .u64 (l.getD i 0))=mx l l.length -l.getD i 0:=by
    rw[atx,atx,atx];omega
   rw[e1];unfold x5
   split
   ·rw[aN (x:=mx l l.length -l.getD i 0),aN,gG];omega
   ·rw[aN (x:=1099511627776),aN]
    split<;>omega
  rw[e,aeJ (by omega) (by omega) (by omega)];simp only[aa];rw[show W7 (256*(if l.getD i 0 -mx l l.length< -1099511627776 then -1099511627776 else l.getD i 0 -mx l l.length))=DQ (mx l l.length) (l.getD i 0)from rfl];rw[fL (fun i=>DQ (mx l l.length) (l.getD i 0)) (by unfold room;omega) (by unfold room;omega),aN];rfl
 ·intro k;show ke n (k+1) _=_;rw[yH,af,if_neg (by simp)];rfl
theorem aeS{n:Nat}{s m:Int}(hs1: -9223372036854775808≤s)(hm2:m≤9223372036854775807)(hle:s≤m):qj n (s,m)=some (if s -m< -1099511627776 then -1099511627776 else s -m):=by
 rw[Nq];simp only[af,bF]
 by_cases a1:s<0
 ·rw[if_pos a1]
  by_cases a2:m≥0
  ·rw[if_pos a2]
   by_cases a3:m>1099511627776
   ·rw[if_pos a3,lK]
   ·rw[if_neg a3]
    by_cases a4:s< -1099511627776
    ·rw[if_pos a4,lK]
    ·rw[if_neg a4,aN]
     split<;>rfl
  ·rw[if_neg a2,aN]
   split<;>rfl
 ·rw[if_neg a1,aN]
  split<;>rfl
theorem ahd{n:Nat}{l:List Int}(hl:iI l)(h1:1≤l.length)(h2:l.length≤512)(hn:2000000000≤n):rM n l=some (fI l,0):=by
 rw[Qr];simp only[af,bF];rw[gG,gG,uL (j:=0) (by simp) (by omega)];simp only[aa];have hM:=aX (L:=fun k i m=>jr n k (l,m,i,())) (len:=l.length) (r:=(l,mx l l.length,())) (fun i=>mx l i) ?_ ?_ n (by omega)
 ·rw[show mx l 0=l.getD 0 0 from rfl]at hM;rw[hM];simp only[aa];have hL:=aX (L:=fun k i o=>iV n k (l,mx l l.length,o,i,())) (len:=l.length) (r:=(fI l,())) (fun i=>dX (fun i=>DQ (mx l l.length) (l.getD i 0)) i) ?_ ?_ n (by omega)
  ·rw[eS]at hL;rw[hL];rfl
  ·intro k i hi;show iV n (k+1) _=_;rw[vf];simp only[af,bF];have b1:=aoQ hl l.length;have b2:=hl.at i;have b3:=atz (l:=l) l.length i hi;have b4:=aeR (m:=mx l l.length) (s:=l.getD i 0);rw[lK,bm hi 0];simp only[aa];rw[aeS b2.1 b1.2 b3];simp only[aa];rw[aN (x:=256*_),aeK (by omega) (by omega) (by omega)];simp only[aa];rw[show W7 (256*(if l.getD i 0 -mx l l.length< -1099511627776 then -1099511627776 else l.getD i 0 -mx l l.length))=DQ (mx l l.length) (l.getD i 0)from rfl];rw[fL (fun i=>DQ (mx l l.length) (l.getD i 0)) (by unfold room;omega) (by unfold room;omega),aN];rfl
  ·intro k;show iV n (k+1) _=_;rw[vf,af,if_neg (by simp)];rfl
 ·intro k i hi;show jr n (k+1) _=_;rw[xN];simp only[af,bF];rw[lK,bm hi 0];simp only[aa];have e:(if l.getD i 0>mx l i then some (l,l.getD i 0,(i:Int),())else some (l,mx l i,(i:Int),()))=some (l,mx l (i+1),(i:Int),()):=by
   show _=some (l,imax (mx l i) (l.getD i 0),(i:Int),());unfold imax
   split<;>rfl
  rw[e];simp only[aa];rw[aN]
 ·intro k;show jr n (k+1) _=_;rw[xN,af,if_neg (by simp)]
structure Good (w:List Int):Prop where
 len:1≤w.length∧w.length≤512
 rng:∀i,0≤w.getD i 0∧w.getD i 0≤1073741824
 pos:0<gH (fun i=>w.getD i 0) w.length
theorem aqo{g:Nat→Int}:∀(n j:Nat),(∀i,0≤g i)→j<n→g j≤gH g n
 |0,j,_,h=>by omega
 |n+1,j,h0,h=>by
  have hs:∀m:Nat,0≤gH g m:=by
   intro m
   induction m with
   |zero=>exact Int.le_refl _
   |succ m ih=>have:=h0 m;simp only[gH];omega
  simp only[gH]
  by_cases hj:j=n
  ·subst hj;have:=hs j;omega
  ·have:=aqo n j h0 (by omega);have:=h0 n;omega
theorem EU{l:List Int}(h1:1≤l.length)(h2:l.length≤512):Good (fI l):=by
 have hr:∀i,0≤(fI l).getD i 0∧(fI l).getD i 0≤1073741824:=by
  intro i
  by_cases hi:i<l.length
  ·unfold fI;rw[pW _ hi];exact amx _
  ·rw[aG,bx (by simp[fI];omega)];decide
 refine⟨by simp[fI];omega,hr,?_⟩;obtain⟨j,hj,hm⟩:=axh (l:=l) l.length h1;have h3:=aqo (g:=fun i=>(fI l).getD i 0) (fI l).length j (fun i=>(hr i).1) (by simp[fI];omega);have h4:(fI l).getD j 0=1073741824:=by
  unfold fI;rw[pW _ hj,hm];unfold DQ;rw[Int.sub_self,gG];exact aic
 have h3:(fI l).getD j 0≤gH (fun i=>(fI l).getD i 0) (fI l).length:=h3;omega
theorem Ud{w:List Int}(hw:Good w)(i:Nat):0≤gH (fun i=>w.getD i 0) i∧gH (fun i=>w.getD i 0) i≤i*1073741824:=
 Gp i fun j _=>hw.rng j
theorem aeT{n:Nat}{w:List Int}(hw:Good w)(hn:2000000000≤n):tH n w=some (gH (fun i=>w.getD i 0) w.length,0):=by
 rw[aaw];have hlen:=hw.len;have hL:=aX (L:=fun k i s=>mG n k (s,w,(w.length:Int),i,())) (len:=w.length) (r:=Sum.inr (gH (fun i=>w.getD i 0) w.length,())) (fun i=>gH (fun i=>w.getD i 0) i) ?_ ?_ n (by omega)
 ·rw[show gH (fun i=>w.getD i 0) 0=0 from rfl]at hL;rw[hL];have hp:=hw.pos;simp only[aa,cY,af,beq_iff_eq];rw[gG]
 ·intro k i hi;show mG n (k+1) _=_;rw[Dl];simp only[af,bF];have b1:=hw.rng i;have b2:=Ud hw i;rw[lK,bm hi 0];simp only[aa];rw[gG,gG,aN,aN];rfl
 ·intro k;show mG n (k+1) _=_;rw[Dl,af,if_neg (by simp)]
theorem aeU{n:Nat}{w:List Int}(hw:Good w)(hn:2000000000≤n):ub n w=some (gH (fun i=>w.getD i 0) w.length,true):=by
 rw[aaV];have hlen:=hw.len;have hL:=aX (L:=fun k i s=>mR n k (w,s,i,())) (len:=w.length) (r:=Sum.inr (gH (fun i=>w.getD i 0) w.length,())) (fun i=>gH (fun i=>w.getD i 0) i) ?_ ?_ n (by omega)
 ·rw[show gH (fun i=>w.getD i 0) 0=0 from rfl]at hL;rw[hL];have hp:=hw.pos;simp only[aa,cY];rw[show decide (gH (fun i=>w.getD i 0) w.length>0)=true by simpa using hp]
 ·intro k i hi;show mR n (k+1) _=_;rw[Dx];simp only[af,bF];have b1:=hw.rng i;have b2:=Ud hw i;rw[lK,bm hi 0];simp only[aa];rw[gG,gG,aN,aN];rfl
 ·intro k;show mR n (k+1) _=_;rw[Dx,af,if_neg (by simp)]
def y7(w v:List Int)(i:Nat):Int:=gH (fun i=>w.getD i 0*v.getD i 0) i
def DR(w v:List Int):Int:=ap .i8 ((2*y7 w v w.length+gH (fun i=>w.getD i 0) w.length)/(2*gH (fun i=>w.getD i 0) w.length))
theorem akF{w v:List Int}(hw:Good w)(hv:bc v)(i:Nat): -137438953472≤w.getD i 0*v.getD i 0∧w.getD i 0*v.getD i 0≤137438953472:=by
 have b1:=hw.rng i;have b2:=hv.at i;have:=akD (a:=w.getD i 0) (b:=v.getD i 0) (m:=1073741824) (k:=128) (by omega) (by omega);omega
theorem Ue{w v:List Int}(hw:Good w)(hv:bc v)(i:Nat): -(i*137438953472)≤y7 w v i∧y7 w v i≤i*137438953472:=
 aeL (by omega) (fun i=>akF hw hv i) i
theorem arr{n:Nat}{w v:List Int}(hw:Good w)(hv:bc v)(hl:w.length=v.length)(hn:2000000000≤n):CO n (w,v)=some (DR w v,0):=by
 rw[adP];have hlen:=hw.len;have hp:=hw.pos;have hs:=Ud hw w.length;simp only[af,bF,bne_iff_ne,ne_eq];rw[gG,gG,aeT hw hn];simp only[aa];rw[if_neg (by simp)];have hL:=aX (L:=fun k i s=>oK n k (v,gH (fun i=>w.getD i 0) w.length,s,w,(w.length:Int),i,())) (len:=w.length) (r:=(gH (fun i=>w.getD i 0) w.length,y7 w v w.length,())) (fun i=>y7 w v i) ?_ ?_ n (by omega)
 ·rw[show y7 w v 0=0 from rfl]at hL;rw[hL];have hq:=Ue hw hv w.length;simp only[aa];rw[aN (x:=2*y7 w v w.length),aN (x:=2*y7 w v w.length+_),aN (x:=2*gH (fun i=>w.getD i 0) w.length),DM (by omega) (by omega) (by omega) (by omega)];rfl
 ·intro k i hi;show oK n (k+1) _=_;rw[F7];simp only[af,bF];have b1:=akF hw hv i;have b2:=Ue hw hv i;have b3:=hv.at i;rw[lK,bm hi 0,bm (show i<v.length by omega) 0];simp only[aa];rw[aN (x:=v.getD i 0),aN (x:=w.getD i 0*v.getD i 0),aN,aN];rfl
 ·intro k;show oK n (k+1) _=_;rw[F7,af,if_neg (by simp)]
theorem aoS{n:Nat}{w v:List Int}(hw:Good w)(hv:bc v)(hl:w.length=v.length)(hn:2000000000≤n):zF n (w,v)=some (DR w v,0):=by
 rw[aaW];have hlen:=hw.len;have hp:=hw.pos;have hs:=Ud hw w.length;simp only[af,bF,bne_iff_ne,ne_eq];rw[gG,gG,aeU hw hn];simp only[aa];rw[if_neg (by simp)];have hL:=aX (L:=fun k i s=>mS n k (w,v,gH (fun i=>w.getD i 0) w.length,s,i,())) (len:=w.length) (r:=(gH (fun i=>w.getD i 0) w.length,y7 w v w.length,())) (fun i=>y7 w v i) ?_ ?_ n (by omega)
 ·rw[show y7 w v 0=0 from rfl]at hL;rw[hL];have hq:=Ue hw hv w.length;simp only[aa];rw[aN (x:=2*y7 w v w.length),aN (x:=2*y7 w v w.length+_),aN (x:=2*gH (fun i=>w.getD i 0) w.length),DN (by omega) (by omega) (by omega) (by omega)];rfl
 ·intro k i hi;show mS n (k+1) _=_;rw[Dy];simp only[af,bF];have b1:=akF hw hv i;have b2:=Ue hw hv i;have b3:=hv.at i;rw[lK,bm hi 0,bm (show i<v.length by omega) 0];simp only[aa];rw[aN (x:=v.getD i 0),aN (x:=w.getD i 0*v.getD i 0),aN,aN];rfl
 ·intro k;show mS n (k+1) _=_;rw[Dy,af,if_neg (by simp)]
structure Rows (rows:List (List Int)) (m:Nat):Prop where
 len:1≤rows.length∧rows.length≤512
 row:∀i,i<rows.length→(rows.getD i []).length=m
 all:∀i,bc (rows.getD i [])
def QC(rows:List (List Int))(c:Nat):List Int:=dX (fun i=>(rows.getD i []).getD c 0) rows.length
def QD(w:List Int)(rows:List (List Int))(m:Nat):List Int:=dX (fun c=>DR w (QC rows c)) m
theorem amG{rows:List (List Int)}{m c:Nat}(h:Rows rows m):bc (QC rows c):=by
 intro x hx;obtain⟨i,hi,rfl⟩:=i9 hx;exact(h.all i).at c
theorem aoT{n:Nat}{w:List Int}{rows:List (List Int)}{m:Nat}(hw:Good w)(hr:Rows rows m)(hl:w.length=rows.length)(hm:m≤1000000)(hn:2000000000≤n):zm n (w,rows)=some (QD w rows m,0):=by
 rw[aax];have hlen:=hw.len;simp only[af,bF,bne_iff_ne,ne_eq];rw[gG,gG];have h0:idx rows (0:Int)=some (rows.getD 0 []):=by rw[show(0:Int)=((0:Nat):Int)from rfl,bm (by omega) []]
 have hA:=aX (L:=fun k i (_:Unit)=>mH n k (w,rows,rows,(rows.length:Int),i,())) (len:=rows.length) (r:=Sum.inr (w,rows,())) (fun _=>()) ?_ ?_ n (by omega)
 ·rw[hA];simp only[aa,cY];rw[aeT hw hn];simp only[aa];rw[if_neg (by simp),h0];simp only[aa];rw[hr.row 0 (by omega)];have hB:=aX (L:=fun k i o=>k8 n k (w,rows,o,(m:Int),i,())) (len:=m) (r:=(QD w rows m,())) (fun i=>dX (fun c=>DR w (QC rows c)) i) ?_ ?_ n (by omega)
  ·rw[eS]at hB;rw[hB];rfl
  ·intro k c hc;show k8 n (k+1) _=_;rw[Bh];simp only[af,bF];rw[lK];have hC:=aX (L:=fun k i o=>k9 n k (w,rows,dX (fun c=>DR w (QC rows c)) c,(c:Int),o,(m:Int),(c:Int),rows,(rows.length:Int),i,())) (len:=rows.length) (r:=(w,rows,dX (fun c=>DR w (QC rows c)) c,QC rows c,(m:Int),(c:Int),())) (fun i=>dX (fun i=>(rows.getD i []).getD c 0) i) ?_ ?_ n (by omega)
   ·rw[eS]at hC;rw[hC];simp only[aa];rw[arr hw (amG hr) (by simp[QC];omega) hn];simp only[aa];rw[fL (fun c=>DR w (QC rows c)) (by unfold room;omega) (by unfold room;omega),aN];rfl
   ·intro k i hi;show k9 n (k+1) _=_;rw[Bj];simp only[af,bF];rw[lK,bm hi []];simp only[aa];rw[bm (show c<(rows.getD i []).length by rw[hr.row i hi];exact hc) 0];simp only[aa];rw[fL (fun i=>(rows.getD i []).getD c 0) (by unfold room;omega) (by unfold room;omega),aN];rfl
   ·intro k;show k9 n (k+1) _=_;rw[Bj,af,if_neg (by simp)];rfl
  ·intro k;show k8 n (k+1) _=_;rw[Bh,af,if_neg (by simp)];rfl
 ·intro k i hi;show mH n (k+1) _=_;rw[Dm];simp only[af,bF,bne_iff_ne,ne_eq];rw[lK,bm hi [],h0];simp only[aa];rw[hr.row i hi,hr.row 0 (by omega),if_neg (by simp),aN]
 ·intro k;show mH n (k+1) _=_;rw[Dm,af,if_neg (by simp)]
theorem amH{n:Nat}{w:List Int}{rows:List (List Int)}{m:Nat}(hw:Good w)(hr:Rows rows m)(hl:w.length=rows.length)(hm:m≤1000000)(hn:2000000000≤n):wX n (w,rows)=some (QD w rows m,0):=by
 rw[WP];have hlen:=hw.len;simp only[af,bF,bne_iff_ne,ne_eq];rw[gG,gG];have h0:idx rows (0:Int)=some (rows.getD 0 []):=by rw[show(0:Int)=((0:Nat):Int)from rfl,bm (by omega) []]
 have hA:=aX (L:=fun k i (_:Unit)=>lg n k (w,rows,i,())) (len:=rows.length) (r:=Sum.inr (w,rows,())) (fun _=>()) ?_ ?_ n (by omega)
 ·rw[hA];simp only[aa,cY];rw[aeU hw hn];simp only[aa];rw[if_neg (by simp)];have hB:=aX (L:=fun k i o=>kj n k (w,rows,o,i,())) (len:=m) (r:=(QD w rows m,())) (fun i=>dX (fun c=>DR w (QC rows c)) i) ?_ ?_ n (by omega)
  ·rw[eS]at hB;rw[hB];rfl
  ·intro k c hc;show kj n (k+1) _=_;rw[yW,h0];simp only[af,bF,aa];rw[hr.row 0 (by omega),lK];have hC:=aX (L:=fun k i o=>kn n k (w,rows,dX (fun c=>DR w (QC rows c)) c,(c:Int),o,i,())) (len:=rows.length) (r:=(w,rows,dX (fun c=>DR w (QC rows c)) c,(c:Int),QC rows c,())) (fun i=>dX (fun i=>(rows.getD i []).getD c 0) i) ?_ ?_ n (by omega)
   ·rw[eS]at hC;rw[hC];simp only[aa];rw[aoS hw (amG hr) (by simp[QC];omega) hn];simp only[aa];rw[fL (fun c=>DR w (QC rows c)) (by unfold room;omega) (by unfold room;omega),aN];rfl
   ·intro k i hi;show kn n (k+1) _=_;rw[yX];simp only[af,bF];rw[lK,bm hi []];simp only[aa];rw[bm (show c<(rows.getD i []).length by rw[hr.row i hi];exact hc) 0];simp only[aa];rw[fL (fun i=>(rows.getD i []).getD c 0) (by unfold room;omega) (by unfold room;omega),aN];rfl
   ·intro k;show kn n (k+1) _=_;rw[yX,af,if_neg (by simp)];rfl
  ·intro k;show kj n (k+1) _=_;rw[yW,h0];simp only[aa];rw[hr.row 0 (by omega),af,if_neg (by simp)];rfl
 ·intro k i hi;show lg n (k+1) _=_;rw[BL];simp only[af,bF,bne_iff_ne,ne_eq];rw[lK,bm hi [],h0];simp only[aa];rw[hr.row i hi,hr.row 0 (by omega),if_neg (by simp),aN]
 ·intro k;show lg n (k+1) _=_;rw[BL,af,if_neg (by simp)]
end Go.Am.Pu
