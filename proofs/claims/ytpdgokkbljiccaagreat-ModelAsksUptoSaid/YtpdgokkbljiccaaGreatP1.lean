import Derived.Test.YtpdgokkbljiccaaGreatA1
import Derived.Test.YtpdgokkbljiccaaGreatE1
import Derived.Test.YtpdgokkbljiccaaGreatD
import Derived.KernelRfl
import Derived.Test.YtpdgokkbljiccaaGreatE2
import Derived.Test.YtpdgokkbljiccaaGreatGT
set_option linter.unusedVariables false
set_option linter.unusedSimpArgs false
open Bool renaming not_eq_true'→cd
open Int renaming mul_le_mul_of_nonneg_right→dA,tdiv_eq_ediv_of_nonneg→aB,toNat_natCast→aH
open Go.IntKind renaming bits→cj,i64→bx,wrap→ae
open List renaming getD_eq_getElem?_getD→bd,getElem?_append_right→bc,getElem?_cons_zero→dl,getElem?_eq_none→bv,getElem_mem→ap,length_cons→ca,length_nil→cH,length→ac,range→abY,replicate→aY
open Nat renaming add_mul→bw,le_refl→av,mul_le_mul_right→aW,mul_le_mul→aT
open Option renaming bind_some→aa
namespace Go.Am.Pu
open Go Go.Am
abbrev ii(n:Nat):Prop:=2000000000≤n
theorem dU{p:Prop}[Decidable p]:(decide p=true)=p:=decide_eq_true_eq
theorem fu{c:Prop}{i:Decidable c}{R:Type}{x y:R}(h:¬ c:=by omega):ite c x y=y:=if_neg h
theorem jO{c:Prop}{i:Decidable c}{R:Type}{x y:R}(h:c:=by omega):ite c x y=x:=if_pos h
theorem YF(k:Nat)(h:0<k:=by omega):∃j,k=j+1:=⟨k -1,by omega⟩
theorem bu{x:Int}(a: -9223372036854775808≤x:=by omega)(b:x≤9223372036854775807:=by omega):ae .i64 x=x:=by
 simp only[ae,cj,IntKind.signed,Bool.true_and,decide_eq_true_eq,ge_iff_le]
 split<;>omega
theorem w8{x:Int}(a: -128≤x)(b:x≤127):ae .i8 x=x:=by
 simp only[ae,cj,IntKind.signed,Bool.true_and,dU,ge_iff_le]
 split<;>omega
theorem ag{R:Type}(b:Bool)(x y:Option R):aw b x y=if b=true then x else y:=by cases b<;>rfl
theorem Sx{p:Prop}[Decidable p]{R:Type}{x y:Option R}(h:¬ p:=by omega):aw (decide p) x y=y:=by rw[ag,if_neg (by simpa using h)]
theorem xY{p:Prop}[Decidable p]{R:Type}{x y:Option R}(h:p:=by omega):aw (decide p) x y=x:=by rw[ag,if_pos (by simpa using h)]
theorem gE{x d:Int}(a:1≤d):(0≤x→0≤x/d∧x/d≤x)∧(x<0→x≤x/d∧x/d<0):=by
 refine⟨fun h=>⟨Int.ediv_nonneg h (by omega),Int.ediv_le_self _ h⟩,fun h=>⟨?_,Int.ediv_neg_of_neg_of_pos h (by omega)⟩⟩;refine Int.le_ediv_of_mul_le (by omega) ?_;have:=Int.mul_le_mul_of_nonpos_left (show x≤0 by omega) a;omega
theorem Ye{x d:Int}(g:1≤d):(x.tmod d<0→x/d=x.tdiv d -1∧x % d=x.tmod d+d)∧(0≤x.tmod d→x/d=x.tdiv d∧x % d=x.tmod d):=by
 have b:=Int.mul_tdiv_add_tmod x d;have a:x.tmod d<d:=Int.tmod_lt_of_pos x (by omega);have c: -d<x.tmod d:=by
  have:=Int.tmod_lt_of_pos (-x) (show 0<d by omega);rw[Int.neg_tmod]at this;omega
 refine⟨fun h=> ?_,fun h=> ?_⟩
 ·refine(Int.ediv_emod_unique (by omega)).2 ⟨?_,by omega,by omega⟩;rw[Int.mul_sub];omega
 ·exact(Int.ediv_emod_unique (by omega)).2 ⟨by omega,h,a⟩
theorem LK{a b:Int}(g:b≠0)(c: -9223372036854775808≤a.tdiv b)(d:a.tdiv b≤9223372036854775807):qt .i64 a b=some (a.tdiv b):=by
 unfold qt;rw[if_neg g,bu c d]
theorem BF{a b:Int}(c:b≠0:=by omega):rm a b=some (a.tmod b):=by unfold rm;rw[if_neg c]
theorem N7{x d:Int}(a:1≤d):(0≤x→0≤x.tdiv d∧x.tdiv d≤x)∧(x≤0→x≤x.tdiv d∧x.tdiv d≤0):=by
 refine⟨fun h=> ?_,fun h=> ?_⟩
 ·rw[aB h];exact(gE a).1 h
 ·have:=(gE (x:= -x) a).1 (by omega);rw[←aB (show 0≤-x by omega),Int.neg_tdiv]at this;omega
theorem cO{α:Type}{l:List α}{i:Nat}(h:i<l.length):idx l (i:Int)=some l[i]:=by
 unfold idx;rw[jO];simp[h]
theorem wX{i n:Nat}(h:i<n:=by omega):ck (i:Int) n=some i:=by
 unfold ck;rw[if_pos ⟨by omega,by omega⟩];simp
theorem aiU(q:Int):EC .and .i64 q 1=q % 2:=by
 unfold EC;have h:(BitVec.ofInt (cj .i64) q &&& BitVec.ofInt (cj .i64) 1).toNat=(q % 2).toNat:=by
  show(BitVec.ofInt 64 q &&& BitVec.ofInt 64 1).toNat=_;rw[BitVec.toNat_and];show(BitVec.ofInt 64 q).toNat &&& 1=_;rw[Nat.and_one_is_mod,BitVec.toNat_ofInt];omega
 show ae .i64 (((BitVec.ofInt (cj .i64) q &&& BitVec.ofInt (cj .i64) 1).toNat:Nat):Int)=_;rw[h];rw[bu];omega
def nY(x d:Int):Int:=if x % d>d -x % d∨(x % d=d -x % d∧(x/d) % 2=1)then x/d+1 else x/d
theorem N8{x d:Int}(o: -9223372036854775808≤x)(p:x≤9223372036854775807)(g:1≤d)(n:d≤9223372036854775807):
  (((qt bx x d)).bind fun k=>
   ((rm x d)).bind fun i=>
   (aw (decide (i<(0:Int)))
    (some ((ae bx (k -(1:Int))),((ae bx (i+d)),())))
    (some (k,(i,())))).bind fun l=>
   some (l.1,(l.2.1,(0:Int))))=some (x/d,x % d,0):=by
 have u:=N7 (x:=x) g;have t:=gE (x:=x) g;have j:=Ye (x:=x) g;have q:=Int.emod_nonneg x (show d≠0 by omega);have r:=Int.emod_lt_of_pos x (show 0<d by omega);have a: -9223372036854775808≤x.tdiv d∧x.tdiv d≤9223372036854775807:=by omega
 rw[LK (by omega) a.1 a.2,BF];simp only[aa,ag,dU]
 split
 ·rename_i h;obtain⟨b,c⟩:=j.1 h;rw[←b,←c,bu,bu];rfl
 ·rename_i h;obtain⟨b,c⟩:=j.2 (by omega);rw[←b,←c];rfl
theorem Bn{n:Nat}{x d:Int}(b: -9223372036854775808≤x)(c:x≤9223372036854775807)(g:1≤d)(a:d≤9223372036854775807):jE n (x,d)=some (x/d,x % d,0):=by
 rw[Is,ag,if_neg (by simp;omega)];exact N8 b c g a
theorem Bo{n:Nat}{x d:Int}(b: -9223372036854775808≤x)(c:x≤9223372036854775807)(g:1≤d)(a:d≤9223372036854775807):jI n (x,d)=some (x/d,x % d,0):=by
 rw[IH,ag,if_neg (by simp;omega)];exact N8 b c g a
theorem Sy{x d:Int}(j: -9223372036854775808≤x)(k:x≤9223372036854775807)(b:1≤d)(h:x % d≥d -x % d): -9223372036854775808≤x/d+1∧x/d+1≤9223372036854775807:=by
 have i:=gE (x:=x) b;have l:=Int.emod_lt_of_pos x (show 0<d by omega)
 by_cases c:d=1
 ·subst c;omega
 ·have:=(gE (x:=x) b);have o:=Int.mul_ediv_add_emod x d
  by_cases a:0≤x
  ·have g:=(i.1 a).1;have n:2*(x/d)≤d*(x/d):=dA (by omega) g;omega
  ·omega
theorem Wc{n:Nat}{x d:Int}(a: -9223372036854775808≤x)(b:x≤9223372036854775807)(i:1≤d)(c:d≤9223372036854775807):qQ n (x,d)=some (nY x d,0):=by
 have j:=Int.emod_nonneg x (show d≠0 by omega);have k:=Int.emod_lt_of_pos x (show 0<d by omega);have l:=Sy a b i;rw[KW,Bn a b i c];simp only[aa,ag,aiU,dU,beq_iff_eq,bne_self_eq_false,Bool.false_eq_true,if_false];rw[bu (x:=d -x % d)];unfold nY
 split
 ·rename_i h;rw[bu,if_pos (.inl h)]
 ·split
  ·rename_i h
   split
   ·rename_i g;rw[bu,if_pos (.inr ⟨h,g⟩)];rfl
   ·rename_i g;rw[fu];rfl
  ·rw[fu]
theorem agt(q:Int):¬ q.tmod 2=0↔q % 2=1:=by
 by_cases h:0≤q
 ·rw[Int.tmod_eq_emod_of_nonneg h];omega
 ·have c:=Int.tmod_eq_emod_of_nonneg (a:= -q) (b:=2) (by omega);rw[Int.neg_tmod]at c;have d:q.tmod 2= -((-q) % 2):=by rw[←c];exact(Int.neg_neg _).symm
  rw[d];omega
theorem Wd{n:Nat}{x d:Int}(b: -9223372036854775808≤x)(c:x≤9223372036854775807)(j:1≤d)(i:d≤9223372036854775807):qZ n (x,d)=some (nY x d,0):=by
 have k:=Int.emod_nonneg x (show d≠0 by omega);have l:=Int.emod_lt_of_pos x (show 0<d by omega);have p:=Sy b c j;rw[Lh,Bo b c j i];simp only[aa,ag,dU,beq_iff_eq,bne_self_eq_false,Bool.false_eq_true,if_false];rw[bu (x:=d -x % d),BF];have a:=agt (x/d);simp only[aa,bne_iff_ne,ne_eq];unfold nY
 split
 ·rename_i h;rw[bu,if_pos (.inl h)]
 ·split
  ·rename_i h
   split
   ·rename_i g;rw[bu,if_pos (.inr ⟨h,a.1 g⟩)];rfl
   ·rename_i g;have o:¬ (x/d) % 2=1:=fun h=>g (a.2 h);rw[fu];rfl
  ·rw[fu]
def bJ(x s:Int):Int×Int:=if s<0∨s>62 then(0,20)else(nY x (2^s.toNat),0)
theorem nA{s:Nat}(h:s≤62):(1:Int)≤2^s∧(2:Int)^s≤4611686018427387904:=by
 have b:(0:Nat)<2^s:=Nat.two_pow_pos s;refine⟨?_,?_⟩
 ·have a:((1:Nat):Int)≤((2^s:Nat):Int):=by exact_mod_cast b
  simpa using a
 have:(2:Nat)^s≤2^62:=Nat.pow_le_pow_right (by omega) h;have a:((2^s:Nat):Int)≤((2^62:Nat):Int):=by exact_mod_cast this
 simpa using a
theorem i5{n:Nat}{x s:Int}(a: -9223372036854775808≤x)(b:x≤9223372036854775807):eo n (x,s)=some (bJ x s):=by
 rw[It];simp only[ag,dU];unfold bJ
 split
 ·rw[jO]
 ·split
  ·rw[jO]
  ·rw[fu];have c:=nA (s:=s.toNat) (by omega);have d:Dx .i64 1 s=some (2^s.toNat):=by
    unfold Dx;rw[fu];have:min s.toNat (cj .i64)=s.toNat:=by show min s.toNat 64=_;omega
    rw[this,Int.one_mul,bu]
   rw[d];simp only[aa];rw[Wc a b c.1 (by omega)];rfl
theorem wH{n:Nat}{x s:Int}(d:s≤62):∀(k i:Nat),(i:Int)≤s→s -i<k→lE n k (x,s,2^i,(i:Int),())=some (x,2^s.toNat,())
 |0,i,a,b=>by omega
 |k+1,i,a,b=>by
  rw[D8];simp only[ag,dU];have g:=nA (s:=i) (by omega)
  split
  ·have c:=nA (s:=i+1) (by omega);have e:(2:Int)^i*2=2^(i+1):=by rw[Int.pow_succ]
   rw[bu (x:=(i:Int)+1),e,bu];exact wH d k (i+1) (by omega) (by omega)
  ·have:i=s.toNat:=by omega
   rw[this]
theorem kj{n:Nat}(g:100≤n){x s:Int}(b: -9223372036854775808≤x)(c:x≤9223372036854775807):ep n (x,s)=some (bJ x s):=by
 rw[II];simp only[ag,dU];unfold bJ
 split
 ·rw[jO]
 ·split
  ·rw[jO]
  ·rw[fu];have d:=nA (s:=s.toNat) (by omega);have a:=wH (n:=n) (x:=x) (s:=s) (by omega) n 0 (by omega) (by omega);have e:(2:Int)^0=1:=rfl;rw[e]at a;rw[show((0:Nat):Int)=0 from rfl]at a;rw[a];simp only[aa];rw[Wd b c d.1 (by omega)];rfl
def dw(x:Int):Int:=if x< -127 then -127 else if x>127 then 127 else x
theorem kl(x:Int): -127≤dw x∧dw x≤127:=by
 unfold dw
 split
 ·omega
 ·split<;>omega
theorem nB{n:Nat}{x:Int}:gx n x=some (dw x):=by
 have h:=kl x;rw[Gj,Iv];simp only[ag,dU];unfold dw at h ⊢
 split
 ·rfl
 ·split
  ·rfl
  ·rename_i a b;show some (ae .i8 x)=_;rw[w8 (by omega) (by omega)]
theorem nC{n:Nat}{x:Int}:fo n x=some (dw x):=by
 have h:=kl x;rw[Gq,IP];simp only[ag,dU];unfold dw at h ⊢
 split
 ·rfl
 ·split
  ·rfl
  ·rename_i a b;show some (ae .i8 x)=_;rw[w8 (by omega) (by omega)]
def Sz(a b:Int):Int×Bool:=if -9223372036854775808≤a+b∧a+b≤9223372036854775807 then(a+b,true)else(0,false)
theorem aef{x:Int}(a:9223372036854775807<x)(b:x≤18446744073709551614):ae .i64 x=x -18446744073709551616:=by
 simp only[ae,cj,IntKind.signed,Bool.true_and,dU,ge_iff_le]
 split<;>omega
theorem aeg{x:Int}(a:x< -9223372036854775808)(b: -18446744073709551616≤x):ae .i64 x=x+18446744073709551616:=by
 simp only[ae,cj,IntKind.signed,Bool.true_and,dU,ge_iff_le]
 split<;>omega
theorem Yf{n:Nat}{a b:Int}(h: -9223372036854775808≤a)(i:a≤9223372036854775807)(j: -9223372036854775808≤b)(k:b≤9223372036854775807):tL n (a,b)=some (Sz a b):=by
 rw[NN];unfold Sz
 by_cases l:9223372036854775807<a+b
 ·rw[aef l (by omega),fu];have d:decide (a<0)=false:=by simp;omega
  have c:decide (b<0)=false:=by simp;omega
  have g:decide (a+b -18446744073709551616<0)=true:=by simp;omega
  rw[d,c,g];rfl
 ·by_cases o:a+b< -9223372036854775808
  ·rw[aeg o (by omega),fu];have d:decide (a<0)=true:=by simp;omega
   have c:decide (b<0)=true:=by simp;omega
   have g:decide (a+b+18446744073709551616<0)=false:=by simp;omega
   rw[d,c,g];rfl
  ·rw[bu,jO];simp only[ag,beq_iff_eq,decide_eq_decide,cd]
   split
   ·split
    ·rename_i d c;simp only[beq_eq_false_iff_ne,ne_eq,decide_eq_decide]at c;omega
    ·rfl
   ·rfl
theorem Yg{n:Nat}{a b:Int}(c: -9223372036854775808≤a)(d:a≤9223372036854775807)(g: -9223372036854775808≤b)(h:b≤9223372036854775807):tQ n (a,b)=some (Sz a b):=by
 rw[NU];unfold Sz;simp only[ag,dU]
 split
 ·rw[bu (x:=9223372036854775807 -b),if_neg (show ¬ b<0 by omega)]
  split
  ·rw[fu]
  ·rw[jO,bu]
 ·split
  ·rw[bu (x:= -9223372036854775808 -b)]
   split
   ·rw[fu]
   ·rw[jO,bu]
  ·rw[jO,bu]
def Cb(t:Int):Int:=241400000+84941200*t/65536
def Cc(t:Int):Int:=747400624+Cb t*t/65536
def N9(t:Int):Int:=1073741824+Cc t*t/65536
def aad(x:Int):Int:=if pT x 0/65536≤-31 then 0 else N9 (pT x 0 % 65536)/2^(-(pT x 0/65536)).toNat
theorem aae:∃f:Int→Int,∀x,f x=aad x:=⟨_,fun _=>rfl⟩
noncomputable def SA:Int→Int:=Classical.choose aae
theorem L9(x:Int):SA x=aad x:=Classical.choose_spec aae x
theorem aaf{a t m:Int}(d:0≤a)(b:a≤m)(c:0≤t)(g:t<65536):0≤a*t∧a*t≤m*65535:=by
 have h:=Int.mul_nonneg d c;have i:a*t≤m*t:=dA b c;have j:m*t≤m*65535:=Int.mul_le_mul_of_nonneg_left (by omega) (by omega);omega
theorem SB{t:Int}(g:0≤t)(b:t<65536):(0≤84941200*t∧84941200*t≤84941200*65535)∧(0≤Cb t∧Cb t≤326341200)∧(0≤Cb t*t∧Cb t*t≤326341200*65535)∧(0≤Cc t∧Cc t≤1073741824)∧(0≤Cc t*t∧Cc t*t≤1073741824*65535)∧(1073741824≤N9 t∧N9 t≤2147483648):=by
 have h:=aaf (a:=84941200) (m:=84941200) (by omega) (by omega) g b;have c:0≤Cb t∧Cb t≤326341200:=by unfold Cb;omega
 have i:=aaf c.1 c.2 g b;have d:0≤Cc t∧Cc t≤1073741824:=by unfold Cc;omega
 have j:=aaf d.1 d.2 g b;have k:1073741824≤N9 t∧N9 t≤2147483648:=by unfold N9;omega
 exact⟨h,c,i,d,j,k⟩
theorem QP{a:Int}(h:0≤a)(b:a≤9223372036854775807):qt .i64 a 65536=some (a/65536):=by
 rw[LK (by omega) (by rw[aB h];omega) (by rw[aB h];omega),aB h]
theorem aag(x:Int):pT x 0≤0∧(x≤0→pT x 0=x)∧(0<x→pT x 0=0):=by
 unfold pT
 split<;>omega
theorem We{n:Nat}(F:100≤n){x:Int}(w: -9223372036854775808≤x)(y:x≤9223372036854775807):qU n x=some (SA x):=by
 have E:=aag x;have a: -9223372036854775808≤pT x 0:=by by_cases h:x≤0<;>omega
 rw[K7,Bn a (by omega) (by omega) (by omega)];simp only[aa,ag,dU];rw[L9];unfold aad
 split
 ·rfl
 ·rename_i u;obtain⟨t,r⟩:∃t,t=pT x 0 % 65536:=⟨_,rfl⟩;obtain⟨q,b⟩:∃q,q=pT x 0/65536:=⟨_,rfl⟩;rw[←r,←b];rw[←b]at u;have p:q≤0:=by omega
  obtain⟨i,z,j,B,l,D⟩:=SB (t:=t) (by omega) (by omega);obtain⟨k,rfl⟩:∃k,n=k+4:=⟨n -4,by omega⟩;have c0:ck (0:Int) 4=some 0:=rfl;have d1:ae .i64 ((0:Int)+1)=1:=bu (by decide) (by decide);have c:ck (ae .i64 ((0:Int)+1)) 4=some 1:=by rw[d1];rfl
  have d2:ae .i64 ((1:Int)+1)=2:=bu (by decide) (by decide);have d:ck (ae .i64 ((1:Int)+1)) 4=some 2:=by rw[d2];rfl
  have d3:ae .i64 ((2:Int)+1)=3:=bu (by decide) (by decide);have g:ck (ae .i64 ((2:Int)+1)) 4=some 3:=by rw[d3];rfl
  have o:mD (k+4) (k+4) (q,t,(),84941200,0,(84941200,241400000,747400624,1073741824,()),())=some (q,N9 t,()):=by
   rw[jR,c,d1];simp only[ag,aa];rw[if_pos (by decide)];simp only[List.getElem?_cons_succ,dl,aa];rw[bu,QP i.1 (by omega)];simp only[aa];rw[bu (x:=241400000+84941200*t/65536),show(241400000:Int)+84941200*t/65536=Cb t from rfl];rw[jR,d,d2];simp only[ag,aa];rw[if_pos (by decide)];simp only[List.getElem?_cons_succ,dl,aa];rw[bu (x:=Cb t*t),QP j.1 (by omega)];simp only[aa];rw[bu (x:=747400624+Cb t*t/65536),show(747400624:Int)+Cb t*t/65536=Cc t from rfl];rw[jR,g,d3];simp only[ag,aa];rw[if_pos (by decide)];simp only[List.getElem?_cons_succ,dl,aa];rw[bu (x:=Cc t*t),QP l.1 (by omega)];simp only[aa];rw[bu (x:=1073741824+Cc t*t/65536),show(1073741824:Int)+Cc t*t/65536=N9 t from rfl];rw[jR];simp only[ag];rw[if_neg (by decide)]
  rw[c0];simp only[aa,dl];rw[o];simp only[aa];rw[bu];unfold Rb;rw[fu,show min (0 -q).toNat (cj .i64)=(-q).toNat by show min _ 64=_;omega];simp only[aa];have H:=nA (s:=(-q).toNat) (by omega);rw[Int.fdiv_eq_ediv_of_nonneg _ (by omega)]
theorem ze{n:Nat}{q:Int}:∀(k i:Nat) (c:Int),0≤c→c≤9223372036854775807→(i:Int)≤q→q≤100→q -i<k→lG n k (q,c,(i:Int),())=some (c/2^(q -i).toNat,())
 |0,i,c,_,_,b,_,d=>by omega
 |k+1,i,c,a,g,b,h,d=>by
  rw[Ec];simp only[ag,dU]
  split
  ·have e:qt .i64 c 2=some (c/2):=by
    rw[LK (by omega) (by rw[aB a];omega) (by rw[aB a];omega),aB a]
   rw[e];simp only[aa];rw[bu];have:=ze (n:=n) (q:=q) k (i+1) (c/2) (by omega) (by omega) (by omega) h (by omega);rw[show((i+1:Nat):Int)=(i:Int)+1 from rfl]at this;rw[this,Int.ediv_ediv_of_nonneg (by omega)];rw[show(q -(i:Int)).toNat=(q -((i:Int)+1)).toNat+1 by omega,Int.pow_succ,Int.mul_comm]
  ·rw[show(q -(i:Int)).toNat=0 by omega];simp
theorem Wf{n:Nat}(y:200≤n){x:Int}(o: -9223372036854775808≤x)(p:x≤9223372036854775807):rd n x=some (SA x):=by
 have b:=aag x;have a: -9223372036854775808≤pT x 0:=by by_cases h:x≤0<;>omega
 rw[Lo];have c:aw (decide (x>0)) (some ((0:Int),())) (some (x,()))=some (pT x 0,()):=by
  rw[ag];simp only[dU]
  split
  ·rw[b.2.2 (by omega)]
  ·rw[b.2.1 (by omega)]
 rw[c];simp only[aa];rw[Bo a (by omega) (by omega) (by omega)];simp only[aa];rw[L9];unfold aad;obtain⟨t,l⟩:∃t,t=pT x 0 % 65536:=⟨_,rfl⟩;obtain⟨q,j⟩:∃q,q=pT x 0/65536:=⟨_,rfl⟩;rw[←l,←j];have k:q≤0:=by omega
 obtain⟨d,r,g,u,i,w⟩:=SB (t:=t) (by omega) (by omega);rw[bu (x:=84941200*t),QP d.1 (by omega)];simp only[aa];rw[bu (x:=241400000+84941200*t/65536),show(241400000:Int)+84941200*t/65536=Cb t from rfl];rw[bu (x:=Cb t*t),QP g.1 (by omega)];simp only[aa];rw[bu (x:=747400624+Cb t*t/65536),show(747400624:Int)+Cb t*t/65536=Cc t from rfl];rw[bu (x:=Cc t*t),QP i.1 (by omega)];simp only[aa];rw[bu (x:=1073741824+Cc t*t/65536),show(1073741824:Int)+Cc t*t/65536=N9 t from rfl];rw[bu (x:=0 -q)];simp only[ag,dU]
 split
 ·rw[jO]
 ·rw[fu];have:=ze (n:=n) (q:=0 -q) n 0 (N9 t) (by omega) (by omega) (by omega) (by omega) (by omega);rw[show((0:Nat):Int)=0 from rfl]at this;rw[this];simp only[aa];rw[show(0 -q -0).toNat=(-q).toNat by omega]
theorem aah(x:Int):0≤SA x∧SA x≤1073741824:=by
 have l:=aag x;rw[L9];unfold aad
 split
 ·omega
 ·obtain⟨d,i,g,j,h,k⟩:=SB (t:=pT x 0 % 65536) (by omega) (by omega)
  by_cases c:pT x 0/65536=0
  ·have:pT x 0=0:=by omega
   rw[this];decide
  ·obtain⟨s,b⟩:∃s,(-(pT x 0/65536)).toNat=s+1:=⟨(-(pT x 0/65536)).toNat -1,by omega⟩;rw[b,Int.pow_succ,Int.mul_comm,←Int.ediv_ediv_of_nonneg (by omega)];have a:=nA (s:=s) (by omega);have:=(gE (x:=N9 (pT x 0 % 65536)/2) a.1).1 (by omega);omega
theorem Yh:SA 0=1073741824:=by rw[L9];decide
theorem aQ{β R:Type}{L:Nat→Int→β→Option R}{len:Nat}{r:R}(a:Nat→β)(j:∀k i:Nat,i<len→L (k+1) (i:Int) (a i)=L k ((i:Int)+1) (a (i+1)))(g:∀k,L (k+1) (len:Int) (a len)=some r):
  ∀k,len<k→L k 0 (a 0)=some r:=by
 have b:∀(m k i:Nat),i+m=len→m<k→L k (i:Int) (a i)=some r:=by
  intro m
  induction m with
  |zero=>
   intro k i c d;obtain⟨k,rfl⟩:=YF k;have:i=len:=by omega
   rw[this];exact g k
  |succ m l=>
   intro k i c d;obtain⟨k,rfl⟩:=YF k;rw[j k i (by omega)];exact l k (i+1) (by omega) (by omega)
 exact fun k h=>b len k 0 (by omega) h
def cM{α:Type}(g:Nat→α)(n:Nat):List α:=(abY n).map g
theorem dD{α:Type}(g:Nat→α):cM g 0=[]:=rfl
theorem sJ{α:Type}(g:Nat→α)(n:Nat):cM g (n+1)=cM g n++[g n]:=by simp[cM,List.range_succ]
@[simp] theorem xZ{α:Type}(g:Nat→α)(n:Nat):(cM g n).length=n:=by simp[cM]
theorem Xh{α:Type}(g:Nat→α){n i:Nat}(h:i<n):(cM g n)[i]? =some (g i):=by simp[cM,h]
theorem fR{α:Type}{g:Nat→α}{n:Nat}{x:α}(h:x∈cM g n):∃i,i<n∧x=g i:=by
 simp only[cM,List.mem_map,List.mem_range]at h;obtain⟨i,a,b⟩:=h;exact⟨i,a,b.symm⟩
theorem kn{α:Type}(g:Nat→α){n i:Nat}(h:i<n)(d:α):(cM g n).getD i d=g i:=by
 rw[bd,Xh g h];rfl
def fill{α:Type}(g:Nat→α)(z:α)(n i:Nat):List α:=cM g i++aY (n -i) z
theorem om{α:Type}(g:Nat→α)(z:α)(n:Nat):fill g z n 0=aY n z:=by simp[fill,cM]
theorem wI{α:Type}(g:Nat→α)(z:α)(n:Nat):fill g z n n=cM g n:=by simp[fill]
theorem Uy{α:Type}(g:Nat→α)(z:α){n i:Nat}(h:i≤n):(fill g z n i).length=n:=by simp[fill];omega
theorem sK{α:Type}(g:Nat→α)(z:α){n i:Nat}(h:i<n):(fill g z n i).set i (g i)=fill g z n (i+1):=by
 unfold fill;rw[List.set_append_right _ _ (by simp),xZ,Nat.sub_self,sJ];obtain⟨m,a⟩:∃m,n -i=m+1:=⟨n -i -1,by omega⟩;rw[a,show n -(i+1)=m by omega,List.replicate_succ];simp
theorem x2{α:Type}(g:Nat→α)(z:α){n i:Nat}(h:i<n):ck (i:Int) (fill g z n i).length=some i:=by
 rw[Uy g z (by omega)];exact wX h
theorem sL{α:Type}(g:Nat→α)(z:α){n i:Nat}(h:i<n):(fill g z n i)[i]? =some z:=by
 unfold fill;rw[bc (by simp),xZ,Nat.sub_self,List.getElem?_replicate,jO]
theorem dQ{α:Type}{b:Nat}(g:Nat→α){i:Nat}(h:(i+1)*b≤room)(a:i+1≤room):app b (cM g i) [g i]=some (cM g (i+1)):=by
 unfold app;rw[if_pos ⟨by simpa using h,by simpa using a⟩,sJ]
theorem dy{α:Type}{l:List α}{i:Nat}(h:i<l.length)(d:α):l.getD i d=l[i]:=by simp[h]
theorem aS{α:Type}{l:List α}{i:Nat}(h:i<l.length)(d:α):idx l (i:Int)=some (l.getD i d):=by rw[cO h,dy h]
theorem GM{α β:Type}(f:α→β)(l:List α)(d:α):cM (fun i=>f (l.getD i d)) l.length=l.map f:=by
 apply List.ext_getElem
 ·simp
 ·intro i c a;have b:i<l.length:=by simpa using a
  simp[cM,b]
def aO(l:List Int):Prop:=∀x∈l,-128≤x∧x≤127
def eJ(l:List Int):Prop:=∀x∈l,-9223372036854775808≤x∧x≤9223372036854775807
theorem aO.at{l:List Int}(h:aO l)(i:Nat): -128≤l.getD i 0∧l.getD i 0≤127:=by
 by_cases a:i<l.length
 ·rw[dy a];exact h _ (ap a)
 ·rw[bd,bv (by omega)];decide
theorem eJ.at{l:List Int}(h:eJ l)(i:Nat): -9223372036854775808≤l.getD i 0∧l.getD i 0≤9223372036854775807:=by
 by_cases a:i<l.length
 ·rw[dy a];exact h _ (ap a)
 ·rw[bd,bv (by omega)];decide
theorem aO.sub{l:List Int}(h:aO l)(a b:Nat):aO ((l.drop a).take b):=fun x i=>h x (List.mem_of_mem_drop (List.mem_of_mem_take i))
def eh(g:Nat→Int):Nat→Int
 |0=>0
 |i+1=>eh g i+g i
theorem Oa{g:Nat→Int}{m:Int}(hm:0≤m)(h:∀i,-m≤g i∧g i≤m):∀i:Nat,-(i*m)≤eh g i∧eh g i≤i*m
 |0=>by simp[eh]
 |i+1=>by
  have a:=Oa hm h i;have b:=h i;simp only[eh];rw[show((i+1:Nat):Int)*m=i*m+m by rw[Int.natCast_add,Int.add_mul];simp];omega
theorem I5{a b:Int}(j: -128≤a∧a≤127)(k: -128≤b∧b≤127): -16384≤a*b∧a*b≤16384:=by
 have h:∀a b:Int,0≤a→a≤128→0≤b→b≤128→0≤a*b∧a*b≤16384:=fun a b d c g i=>by
  have:=Int.mul_le_mul c i g (by omega);have:=Int.mul_nonneg d g;omega
 by_cases d:0≤a
 ·by_cases c:0≤b
  ·have:=h a b d (by omega) c (by omega);omega
  ·have:=h a (-b) d (by omega) (by omega) (by omega);rw[Int.mul_neg]at this;omega
 ·by_cases c:0≤b
  ·have:=h (-a) b (by omega) (by omega) c (by omega);rw[Int.neg_mul]at this;omega
  ·have:=h (-a) (-b) (by omega) (by omega) (by omega) (by omega);rw[Int.neg_mul_neg]at this;omega
def qc(a b:List Int):Int:=eh (fun i=>a.getD i 0*b.getD i 0) a.length
theorem SC{a b:List Int}(c:aO a)(d:aO b)(i:Nat): -(i*16384)≤eh (fun i=>a.getD i 0*b.getD i 0) i∧eh (fun i=>a.getD i 0*b.getD i 0) i≤i*16384:=
 Oa (by omega) (fun i=>I5 (c.at i) (d.at i)) i
theorem Uz{a b:List Int}(c:aO a)(d:aO b): -((a.length:Nat)*16384:Int)≤qc a b∧qc a b≤(a.length:Nat)*16384:=SC c d _
theorem Xi{n:Nat}{a b:List Int}(d:aO a)(g:aO b)(t:a.length≤b.length)(h:a.length≤1000000000)(u:ii n):rt n (a,b)=some (qc a b):=by
 rw[RX];have c:=aQ (L:=fun k i s=>lZ n k (b,s,a,(a.length:Int),i,())) (len:=a.length) (r:=(qc a b,())) (fun i=>eh (fun i=>a.getD i 0*b.getD i 0) i) ?_ ?_ n (by omega)
 ·rw[show(eh (fun i=>a.getD i 0*b.getD i 0) 0)=0 from rfl]at c;rw[c];rfl
 ·intro k i o;show lZ n (k+1) _=_;rw[A9];simp only[ag,dU];rw[jO,aS o 0,aS (show i<b.length by omega) 0];have j:=d.at i;have l:=g.at i;have p:=I5 j l;have q:=SC d g i;simp only[aa];rw[bu (x:=a.getD i 0),bu (x:=b.getD i 0),bu (x:=a.getD i 0*b.getD i 0),bu (x:=(i:Int)+1),bu];rfl
 ·intro k;show lZ n (k+1) _=_;rw[A9,ag,if_neg (by simp)];rfl
theorem QQ{n:Nat}{a b:List Int}(d:aO a)(g:aO b)(t:a.length=b.length)(h:a.length≤1048576)(u:ii n):pi n (a,b)=some (qc a b,0):=by
 rw[NT];simp only[ag,dU,bne_iff_ne,ne_eq];rw[fu,fu,fu];have c:=aQ (L:=fun k i s=>jK n k (a,b,s,(a.length:Int),i,())) (len:=a.length) (r:=(qc a b,())) (fun i=>eh (fun i=>a.getD i 0*b.getD i 0) i) ?_ ?_ n (by omega)
 ·rw[show(eh (fun i=>a.getD i 0*b.getD i 0) 0)=0 from rfl]at c;rw[c];rfl
 ·intro k i o;show jK n (k+1) _=_;rw[wC];simp only[ag,dU];rw[jO,aS o 0,aS (show i<b.length by omega) 0];have j:=d.at i;have l:=g.at i;have p:=I5 j l;have q:=SC d g i;simp only[aa];rw[bu (x:=a.getD i 0),bu (x:=b.getD i 0),bu (x:=a.getD i 0*b.getD i 0),bu (x:=(i:Int)+1),bu];rfl
 ·intro k;show jK n (k+1) _=_;rw[wC,ag,if_neg (by simp)];rfl
def zy(w:List Int)(dI:Int):Int:=if w.length>1048576 then 81 else if dI<1∨(w.length:Int) % dI≠0 then 80 else 0
theorem UA{w:List Int}{dI:Int}:(aw (decide ((((ac w):Nat):Int)>(1048576:Int)))
   (some (81:Int))
   (aw (decide (dI<(1:Int)))
    (some (80:Int))
    (((rm (((ac w):Nat):Int) dI)).bind fun h=>
    aw (h !=(0:Int))
     (some (80:Int))
     (some (0:Int)))))=some (zy w dI):=by
 simp only[ag,dU];unfold zy
 by_cases g:(w.length:Int)>1048576
 ·have a:w.length>1048576:=by omega
  rw[if_pos g,if_pos a]
 ·have a:¬ w.length>1048576:=by omega
  rw[if_neg g,if_neg a]
  by_cases b:dI<1
  ·rw[if_pos b,if_pos (.inl b)]
  ·rw[if_neg b,BF,Int.tmod_eq_emod_of_nonneg (by omega)];simp only[aa,bne_iff_ne,ne_eq]
   by_cases c:(w.length:Int) % dI=0
   ·rw[if_neg (by simpa using c),if_neg];rintro(d |d)
    ·exact b d
    ·exact d c
   ·rw[if_pos c,if_pos (.inr c)]
theorem Ei{n:Nat}{w:List Int}{dI:Int}:hU n (w,dI)=some (zy w dI):=by rw[KV];exact UA
theorem x4{n:Nat}{w:List Int}{dI:Int}:iL n (w,dI)=some (zy w dI):=by rw[Gn];exact UA
theorem I6{w:List Int}{dI:Int}(h:zy w dI=0):w.length≤1048576∧1≤dI∧(w.length:Int) % dI=0:=by
 unfold zy at h
 split at h
 ·cases h
 ·split at h
  ·cases h
  ·rename_i c b;refine⟨by omega,?_,?_⟩
   ·by_cases a:dI<1
    ·exact absurd (.inl a) b
    ·omega
   ·by_cases a:(w.length:Int) % dI=0
    ·exact a
    ·exact absurd (.inr a) b
def dh(w:List Int)(c j:Nat):List Int:=(w.drop (j*c)).take c
def I7(w:List Int)(c:Nat)(x:List Int):List Int:=cM (fun j=>qc (dh w c j) x) (w.length/c)
def gN(w:List Int)(dI:Int)(x:List Int):List Int×Int:=
 if zy w dI≠0 then([],zy w dI)else if(x.length:Int)≠dI then([],80)else(I7 w dI.toNat x,0)
theorem BQ{l c j:Nat}(h:l % c=0)(d:j<l/c):j*c+c≤l:=by
 have a:=Nat.div_add_mod l c;have b:(j+1)*c≤(l/c)*c:=aW c d;rw[Nat.succ_mul]at b;rw[Nat.mul_comm]at a;omega
theorem nD{w:List Int}{c j:Nat}(h:w.length % c=0)(a:j<w.length/c):(dh w c j).length=c:=by
 have:=BQ h a;simp[dh];omega
theorem UB{α β:Type}(f:α→Option β)(g:Nat→α)(r:Nat→β):∀n:Nat,(∀j,j<n→f (g j)=some (r j))→nZ f (cM g n)=some (cM r n)
 |0,_=>rfl
 |n+1,h=>by
  rw[sJ,sJ];exact HG f _ _ _ _ (UB f g r n fun j a=>h j (by omega)) (h n (by omega))
theorem Xj{l c:Nat}(a:1≤c)(h:l % c=0):O8 l c=l/c:=by
 unfold O8;obtain⟨m,rfl⟩:=Nat.dvd_of_mod_eq_zero h;rw[Nat.mul_div_cancel_left _ (by omega),Nat.add_sub_assoc a,Nat.mul_add_div (by omega),Nat.div_eq_of_lt (by omega)];omega
theorem wJ{n:Nat}{w x:List Int}{dI:Int}(i:aO w)(k:aO x)(l:x.length≤1000000000)(h:ii n):j3 n (w,dI,x)=some (gN w dI x):=by
 show DN (hU n) (rt n) (w,dI,x)=_;unfold DN gN;simp only;rw[Ei];simp only[aa,ag,cd,beq_eq_false_iff_ne,ne_eq]
 split
 ·rfl
 ·rename_i b;have b:zy w dI=0:=by omega
  obtain⟨o,p,q⟩:=I6 b
  split
  ·rfl
  ·rename_i c;have c:(x.length:Int)=dI:=by omega
   subst c;rw[if_pos (by simp;omega),aH];have a:w.length % x.length=0:=by omega
   have d:1≤x.length:=by omega
   have:chunks x.length w=cM (fun j=>dh w x.length j) (w.length/x.length):=by
    unfold chunks;rw[Xj d a];rfl
   rw[this,UB _ _ (fun j=>qc (dh w x.length j) x) _ (fun j g=>by
    have:=nD a g;exact Xi (i.sub _ _) k (by omega) (by omega) h)]
   rfl
theorem Ma{w:List Int}{c j:Nat}(h:w.length % c=0)(a:j<w.length/c):slc w ((j*c:Nat):Int) ((j*c:Nat)+(c:Nat):Int)=some (dh w c j):=by
 have:=BQ h a;unfold slc;rw[if_pos ⟨by omega,by omega,by omega⟩];congr 1;unfold dh;rw[show(((j*c:Nat):Int)+(c:Nat)).toNat=j*c+c by omega,aH,List.drop_take];congr 1;omega
theorem pI{n:Nat}{w x:List Int}{dI:Int}(t:aO w)(u:aO x)(r:ii n):fX n (w,dI,x)=some (gN w dI x):=by
 rw[IQ,x4];unfold gN;simp only[aa,ag,bne_iff_ne,ne_eq]
 split
 ·rfl
 ·rename_i g;have g:zy w dI=0:=by omega
  obtain⟨z,B,D⟩:=I6 g
  split
  ·rfl
  ·rename_i h;have h:(x.length:Int)=dI:=by omega
   subst h;have b:w.length % x.length=0:=by omega
   have E:1≤x.length:=by omega
   have F:(w.length/x.length)≤w.length:=Nat.div_le_self _ _;have d:∀(m k j:Nat),j+m=w.length/x.length→m<k→lF n k (w,(x.length:Int),x,cM (fun j=>qc (dh w x.length j) x) j,((j*x.length:Nat):Int),())=some (I7 w x.length x,()):=by
    intro m
    induction m with
    |zero=>
     intro k j o p;obtain⟨k,rfl⟩:∃i,k=i+1:=⟨k -1,by omega⟩;have c:j=w.length/x.length:=by omega
     rw[su,ag,if_neg]
     ·rw[c];rfl
     ·have q:=Nat.div_add_mod w.length x.length;have l:j*x.length=w.length:=by rw[c,Nat.mul_comm];omega
      rw[l];simp
    |succ m y=>
     intro k j o p;obtain⟨k,rfl⟩:∃i,k=i+1:=⟨k -1,by omega⟩;have c:j<w.length/x.length:=by omega
     have q:=BQ b c;rw[su];simp only[ag,dU];rw[jO,bu,Ma b c];simp only[aa];have l:=nD b c;rw[QQ (a:=dh w x.length j) (t.sub _ _) u (by omega) (by omega) r];simp only[aa];rw[dQ (fun j=>qc (dh w x.length j) x) (by unfold room;omega) (by unfold room;omega)];simp only[aa];have:=y k (j+1) (by omega) (by omega);rw[Nat.succ_mul]at this;exact this
   have:=d (w.length/x.length) n 0 (by omega) (by omega);rw[Nat.zero_mul]at this;rw[show(([]:List Int))=cM (fun j=>qc (dh w x.length j) x) 0 from rfl,show(0:Int)=((0:Nat):Int)from rfl,this];rfl
def UC(a:List Int):Int:=if a.length>1048576 then 81 else 0
def x5(a b:List Int):Int:=if a.length>1048576∨b.length>1048576 then 81 else if a.length≠b.length then 80 else 0
theorem UD{n:Nat}(b:10≤n){a:List Int}:gO n [a]=some (UC a):=by
 obtain⟨k,rfl⟩:∃k,n=k+4:=⟨n -4,by omega⟩;rw[sa,fp];simp only[ag,List.length_singleton];rw[if_pos (by simp),show idx [a] (0:Int)=some a from rfl];simp only[aa,dU];unfold UC
 by_cases h:(a.length:Int)>1048576
 ·rw[if_pos h,jO];rfl
 ·rw[if_neg h,fu,bu (by decide) (by decide),fp,ag,if_neg (by simp)];simp only[aa,ea];rw[fq];simp only[ag,List.length_singleton];rw[if_pos (by simp),show idx [a] (0:Int)=some a from rfl];simp only[aa];rw[if_neg (by simp),bu (by decide) (by decide),fq,ag,if_neg (by simp)];rfl
theorem UE{n:Nat}(j:10≤n){a b:List Int}:gO n [a,b]=some (x5 a b):=by
 obtain⟨k,rfl⟩:∃k,n=k+4:=⟨n -4,by omega⟩;have c:idx [a,b] (0:Int)=some a:=rfl;have d:idx [a,b] (1:Int)=some b:=rfl;have d1:ae .i64 ((0:Int)+1)=1:=bu (by decide) (by decide);have d2:ae .i64 ((1:Int)+1)=2:=bu (by decide) (by decide);rw[sa,fp];simp only[ag,ca,cH];rw[if_pos (by simp),c];simp only[aa,dU];unfold x5
 by_cases h:(a.length:Int)>1048576
 ·rw[if_pos h,jO];rfl
 ·rw[if_neg h,d1,fp];simp only[ag];rw[if_pos (by simp),d];simp only[aa,dU]
  by_cases g:(b.length:Int)>1048576
  ·rw[if_pos g,jO];rfl
  ·rw[if_neg g,fu,d2,fp,ag,if_neg (by simp)];simp only[aa,ea];rw[fq];simp only[ag,ca,cH];rw[if_pos (by simp),c];simp only[aa];rw[if_neg (by simp),d1,fq];simp only[ag];rw[if_pos (by simp),d,c];simp only[aa,bne_iff_ne,ne_eq]
   by_cases i:(b.length:Int)=(a.length:Int)
   ·rw[if_neg (by simpa using i),fu,d2,fq,ag,if_neg (by simp)];rfl
   ·rw[if_pos i,jO];rfl
def fG(l:List Int)(s:Int):List Int×Int:=if UC l≠0 then([],UC l)else if s<0∨s>62 then([],20)else(l.map (fun x=>(bJ x s).1),0)
theorem BR{n:Nat}{l:List Int}{s:Int}(p:eJ l)(u:ii n):j5 n (l,s)=some (fG l s):=by
 rw[NJ,UD (by omega)];unfold fG;simp only[aa,ag,bne_iff_ne,ne_eq]
 split
 ·rfl
 ·rename_i c;have t:l.length≤1048576:=by
   unfold UC at c
   split at c<;>omega
  rw[i5 (by omega) (by omega)];simp only[aa]
  by_cases b:s<0∨s>62
  ·rw[if_pos b];have:(bJ 0 s)=(0,20):=by unfold bJ;rw[if_pos b]
   rw[this];rfl
  ·rw[if_neg b];have h:∀x,(bJ x s).2=0:=fun x=>by unfold bJ;rw[if_neg b]
   rw[h 0,fu];have q:ED 8 (l.length:Int)=some l.length:=by
    unfold ED room;rw[if_pos ⟨by omega,by omega,by omega⟩];simp
   rw[q];simp only[aa];have g:=aQ (L:=fun k i o=>jF n k (s,(),l,(l.length:Int),i,o,())) (len:=l.length) (r:=((),l.map (fun x=>(bJ x s).1),())) (fun i=>fill (fun j=>(bJ (l.getD j 0) s).1) 0 l.length i) ?_ ?_ n (by omega)
   ·rw[om]at g;rw[g];rfl
   ·intro k i a;show jF n (k+1) _=_;rw[wx];simp only[ag,dU];have d:=p.at i;rw[jO,aS a 0];simp only[aa];rw[i5 d.1 d.2,x2 _ _ a];simp only[aa];rw[sL _ _ a,sK _ _ a,bu];rfl
   ·intro k;show jF n (k+1) _=_;rw[wx,ag,if_neg (by simp),wI,GM (fun x=>(bJ x s).1)]
theorem uA{n:Nat}{l:List Int}{s:Int}(p:eJ l)(q:ii n):io n (l,s)=some (fG l s):=by
 rw[IU];unfold fG UC;simp only[ag,dU]
 by_cases d:(l.length:Int)>1048576
 ·have a:l.length>1048576:=by omega
  rw[if_pos d,if_pos a,if_pos (show(81:Int)≠0 by decide)]
 ·have a:¬ l.length>1048576:=by omega
  rw[if_neg d,if_neg a,if_neg (show ¬ (0:Int)≠0 by decide)]
  by_cases c:s<0
  ·rw[if_pos c,if_pos (.inl c)]
  ·rw[if_neg c]
   by_cases b:s>62
   ·rw[if_pos b,if_pos (.inr b)]
   ·rw[if_neg b,fu];have g:=aQ (L:=fun k i o=>gV n k (s,o,l,(l.length:Int),i,())) (len:=l.length) (r:=(l.map (fun x=>(bJ x s).1),())) (fun i=>cM (fun j=>(bJ (l.getD j 0) s).1) i) ?_ ?_ n (by omega)
    ·rw[dD]at g;rw[g];rfl
    ·intro k i h;show gV n (k+1) _=_;rw[sv];simp only[ag,dU];have b:=p.at i;rw[jO,aS h 0];simp only[aa];rw[kj (by omega) b.1 b.2];simp only[aa];rw[dQ (fun j=>(bJ (l.getD j 0) s).1) (by unfold room;omega) (by unfold room;omega),bu];rfl
    ·intro k;show gV n (k+1) _=_;rw[sv,ag,if_neg (by simp),GM (fun x=>(bJ x s).1)]
def rk(l:List Int)(s:Int):List Int×Int:=((fG l s).1.map dw,(fG l s).2)
theorem Ej{l:List Int}{s:Int}:(fG l s).1.length≤1048576∧((fG l s).2≠0→(fG l s).1=[]):=by
 unfold fG UC
 by_cases a:l.length>1048576
 ·rw[if_pos a,if_pos (show(81:Int)≠0 by decide)];exact⟨by simp,fun _=>rfl⟩
 ·rw[if_neg a,if_neg (show ¬ (0:Int)≠0 by decide)]
  split
  ·exact⟨by simp,fun _=>rfl⟩
  ·exact⟨by simp;omega,fun h=>absurd rfl h⟩
theorem Oc{n:Nat}{l:List Int}{s:Int}(g:eJ l)(t:ii n):mC n (l,s)=some (rk l s):=by
 rw[K4,BR g t];unfold rk;obtain⟨c,b⟩:=Ej (l:=l) (s:=s);generalize fG l s=q at c b;obtain⟨l,e⟩:=q;simp only[aa,ag,bne_iff_ne,ne_eq]at c b ⊢
 split
 ·rename_i h;rw[b h];rfl
 ·rename_i h;have p:ED 1 (l.length:Int)=some l.length:=by
   unfold ED room;rw[if_pos ⟨by omega,by omega,by omega⟩];simp
  rw[p];simp only[aa];have d:=aQ (L:=fun k i o=>iI n k ((),l,(l.length:Int),i,o,())) (len:=l.length) (r:=((),l.map dw,())) (fun i=>fill (fun j=>dw (l.getD j 0)) 0 l.length i) ?_ ?_ n (by omega)
  ·rw[om]at d;rw[d];have:e=0:=by omega
   rw[this];rfl
  ·intro k i a;show iI n (k+1) _=_;rw[uf];simp only[ag,dU];rw[jO,aS a 0];simp only[aa];rw[nB,x2 _ _ a];simp only[aa];rw[sL _ _ a,sK _ _ a,bu];rfl
  ·intro k;show iI n (k+1) _=_;rw[uf,ag,if_neg (by simp),wI,GM dw]
theorem GN{n:Nat}{l:List Int}{s:Int}(g:eJ l)(h:ii n):kd n (l,s)=some (rk l s):=by
 rw[Gr,uA g h];unfold rk;obtain⟨a,b⟩:=Ej (l:=l) (s:=s);generalize fG l s=q at a b;obtain⟨l,e⟩:=q;simp only[aa]at a b ⊢;have c:=aQ (L:=fun k i o=>gj n k (e,o,l,(l.length:Int),i,())) (len:=l.length) (r:=(e,l.map dw,())) (fun i=>cM (fun j=>dw (l.getD j 0)) i) ?_ ?_ n (by omega)
 ·rw[dD]at c;rw[c];rfl
 ·intro k i d;show gj n (k+1) _=_;rw[qB];simp only[ag,dU];rw[jO,aS d 0];simp only[aa];rw[nC];simp only[aa];rw[dQ (fun j=>dw (l.getD j 0)) (by unfold room;omega) (by unfold room;omega),bu];rfl
 ·intro k;show gj n (k+1) _=_;rw[qB,ag,if_neg (by simp),GM dw]
theorem least{p:Nat→Prop}:∀n,p n→∃i,p i∧(∀j,j<i→¬ p j)∧i≤n:=by
 intro n
 induction n using Nat.strongRecOn with
 |_ n q=>
  intro h
  by_cases d:∃j,j<n∧p j
  ·obtain⟨j,g,k⟩:=d;obtain⟨i,a,b,c⟩:=q j g k;exact⟨i,a,b,by omega⟩
  ·exact⟨n,h,fun j l o=>d ⟨j,l,o⟩,av _⟩
def jz(a b:List Int)(i:Nat):Int×Bool:=Sz (a.getD i 0) (b.getD i 0)
open Classical in
noncomputable def GO(a b:List Int):List Int×Int:=
 if x5 a b≠0 then([],x5 a b)else if ∃i,i<a.length∧(jz a b i).2=false then([],82)else(cM (fun i=>(jz a b i).1) a.length,0)
theorem QR{a b:List Int}(h:x5 a b=0):a.length≤1048576∧b.length≤1048576∧a.length=b.length:=by
 unfold x5 at h
 split at h
 ·cases h
 ·split at h
  ·cases h
  ·omega
theorem Xk{n:Nat}{a b:List Int}(y:eJ a)(z:eJ b)(K:ii n):vY n (a,b)=some (GO a b):=by
 rw[RZ,UE (by omega)];unfold GO;simp only[aa,ag,bne_iff_ne,ne_eq]
 by_cases g:x5 a b=0
 ·obtain⟨H,I,J⟩:=QR g;rw[if_neg (by simpa using g),if_neg (by simpa using g)];have E:ED 8 (a.length:Int)=some a.length:=by
   unfold ED room;rw[if_pos ⟨by omega,by omega,by omega⟩];simp
  rw[E];simp only[aa];have step:∀k i:Nat,i<a.length→i4 n (k+1) (b,(),a,(a.length:Int),(i:Int),fill (fun j=>(jz a b j).1) 0 a.length i,())=
    if(jz a b i).2=false then some (Sum.inl ([],82,()))else i4 n k (b,(),a,(a.length:Int),(i:Int)+1,fill (fun j=>(jz a b j).1) 0 a.length (i+1),()):=by
   intro k i d;rw[Ba];simp only[ag,dU];have w:=y.at i;have x:=z.at i;rw[jO,aS d 0,aS (show i<b.length by omega) 0];simp only[aa];rw[Yf w.1 w.2 x.1 x.2,x2 _ _ d];simp only[aa];rw[sL _ _ d,bu];simp only[aa];rw[show Sz (a.getD i 0) (b.getD i 0)=jz a b i from rfl,sK (fun j=>(jz a b j).1) _ d];simp only[cd]
  by_cases c:∃i,i<a.length∧(jz a b i).2=false
  ·rw[if_pos c];obtain⟨F,B,t⟩:=c;obtain⟨i,d,u,D⟩:=least (p:=fun i=>(jz a b i).2=false) F t;have l:=aQ (L:=fun k i o=>i4 n k (b,(),a,(a.length:Int),i,o,())) (len:=i) (r:=Sum.inl ([],82,())) (fun i=>fill (fun j=>(jz a b j).1) 0 a.length i)
    (fun k j q=>by rw[step k j (by omega),if_neg (u j q)]) (fun k=>by rw[step k i (by omega),if_pos d]) n (by omega)
   rw[om]at l;rw[l];rfl
  ·rw[if_neg c];have l:=aQ (L:=fun k i o=>i4 n k (b,(),a,(a.length:Int),i,o,())) (len:=a.length) (r:=Sum.inr ((),cM (fun i=>(jz a b i).1) a.length,())) (fun i=>fill (fun j=>(jz a b j).1) 0 a.length i)
    (fun k j q=>by rw[step k j q,if_neg (fun h=>c ⟨j,q,h⟩)]) (fun k=>by
     show i4 n (k+1) _=_;rw[Ba,ag,if_neg (by simp),wI]) n (by omega)
   rw[om]at l;rw[l];rfl
 ·rw[if_pos (by simpa using g),if_pos (by simpa using g)]
theorem QS{n:Nat}{a b:List Int}(B:eJ a)(D:eJ b)(I:ii n):pj n (a,b)=some (GO a b):=by
 rw[NV];unfold GO;simp only[ag,dU,bne_iff_ne,ne_eq]
 by_cases g1:(a.length:Int)>1048576
 ·have e:x5 a b=81:=by unfold x5;rw[if_pos (.inl (by omega))]
  rw[if_pos g1,e];rfl
 ·rw[if_neg g1]
  by_cases u:(b.length:Int)>1048576
  ·have e:x5 a b=81:=by unfold x5;rw[if_pos (.inr (by omega))]
   rw[if_pos u,e];rfl
  ·rw[if_neg u]
   by_cases w:(a.length:Int)=(b.length:Int)
   ·have z:x5 a b=0:=by unfold x5;rw[fu,fu]
    rw[if_neg (by simpa using w),z,if_neg (show ¬ ¬ (0:Int)=0 by simp)];have step:∀k i:Nat,i<a.length→fY n (k+1) (a,b,cM (fun j=>(jz a b j).1) i,(a.length:Int),(i:Int),())=
      if(jz a b i).2=false then some (Sum.inl ([],82,()))else fY n k (a,b,cM (fun j=>(jz a b j).1) (i+1),(a.length:Int),(i:Int)+1,()):=by
     intro k i q;rw[wD];simp only[ag,dU];have x:=B.at i;have y:=D.at i;rw[jO,aS q 0,aS (show i<b.length by omega) 0];simp only[aa];rw[Yg x.1 x.2 y.1 y.2];simp only[aa];rw[show Sz (a.getD i 0) (b.getD i 0)=jz a b i from rfl,dQ (fun j=>(jz a b j).1) (by unfold room;omega) (by unfold room;omega),bu];simp only[aa,cd]
    by_cases c:∃i,i<a.length∧(jz a b i).2=false
    ·rw[if_pos c];obtain⟨H,E,l⟩:=c;obtain⟨i,q,t,F⟩:=least (p:=fun i=>(jz a b i).2=false) H l;have d:=aQ (L:=fun k i o=>fY n k (a,b,o,(a.length:Int),i,())) (len:=i) (r:=Sum.inl ([],82,())) (fun i=>cM (fun j=>(jz a b j).1) i)
      (fun k j g=>by rw[step k j (by omega),if_neg (t j g)]) (fun k=>by rw[step k i (by omega),if_pos q]) n (by omega)
     rw[dD]at d;rw[d];rfl
    ·rw[if_neg c];have d:=aQ (L:=fun k i o=>fY n k (a,b,o,(a.length:Int),i,())) (len:=a.length) (r:=Sum.inr (cM (fun i=>(jz a b i).1) a.length,())) (fun i=>cM (fun j=>(jz a b j).1) i)
      (fun k j g=>by rw[step k j g,if_neg (fun h=>c ⟨j,g,h⟩)]) (fun k=>by
       show fY n (k+1) _=_;rw[wD,ag,if_neg (by simp)]) n (by omega)
     rw[dD]at d;rw[d];rfl
   ·have e:x5 a b=80:=by unfold x5;rw[fu,jO]
    rw[if_pos w,e];rfl
theorem aeh{a:Nat}{j:Nat}(b:(a+1)*2^(j+1)≤9223372036854775808):EC .or .i64 ((a*2^(j+1):Nat):Int) ((2^j:Nat):Int)=((a*2^(j+1)+2^j:Nat):Int):=by
 have c:2^j<2^(j+1):=Nat.pow_lt_pow_right (by omega) (by omega);have d:a*2^(j+1)+2^j<9223372036854775808:=by
  rw[bw]at b;omega
 have h:(BitVec.ofInt (cj .i64) ((a*2^(j+1):Nat):Int) ||| BitVec.ofInt (cj .i64) ((2^j:Nat):Int)).toNat=a*2^(j+1)+2^j:=by
  show(BitVec.ofInt 64 ((a*2^(j+1):Nat):Int) ||| BitVec.ofInt 64 ((2^j:Nat):Int)).toNat=_;rw[BitVec.toNat_or,BitVec.ofInt_natCast,BitVec.ofInt_natCast,BitVec.toNat_ofNat,BitVec.toNat_ofNat,Nat.mod_eq_of_lt (by omega),Nat.mod_eq_of_lt (by omega)];rw[Nat.mul_comm,Nat.two_pow_add_eq_or_of_lt c]
 show ae .i64 (((BitVec.ofInt (cj .i64) ((a*2^(j+1):Nat):Int) ||| BitVec.ofInt (cj .i64) ((2^j:Nat):Int)).toNat:Nat):Int)=_;rw[h,bu]
def oo(x:Int)(r:Nat)(j:Nat):Nat:=if r+2^j≤3037000499∧((r+2^j:Nat):Int)*((r+2^j:Nat):Int)≤x then r+2^j else r
def sq(x:Int):Nat→Nat→Nat
 |0,r=>r
 |j+1,r=>sq x j (oo x r j)
def Bp:Nat→Nat
 |0=>0
 |j+1=>2^j
theorem Od(m:Nat):2^m/2=Bp m:=by
 cases m with
 |zero=>rfl
 |succ m=>show 2^(m+1)/2=2^m;rw[Nat.pow_succ];omega
theorem Wg{x:Int}{m r a:Nat}(b:r=a*2^(m+1))(d:(a+1)*2^(m+1)≤4294967296):∃c,oo x r m=c*2^m∧(c+1)*2^m≤4294967296:=by
 unfold oo;rw[Nat.pow_succ,←Nat.mul_assoc]at d b;rw[bw]at d
 split
 ·refine⟨2*a+1,?_,?_⟩
  ·rw[b,bw,Nat.mul_assoc 2 a];omega
  ·rw[bw,bw,Nat.mul_assoc 2 a];omega
 ·refine⟨2*a,?_,?_⟩
  ·rw[b,Nat.mul_assoc 2 a];omega
  ·rw[bw,Nat.mul_assoc 2 a];omega
theorem Wh{s:Nat}:s≤3037000499↔s*s≤9223372036854775807:=by
 constructor
 ·intro h;have:=aT h h;omega
 ·intro h
  by_cases a:s≤3037000499
  ·exact a
  ·have:=aT (show 3037000500≤s by omega) (show 3037000500≤s by omega);omega
theorem Xl{m:Nat}{a:Nat}(b:(a+1)*2^m≤4294967296):2^m≤4294967296∧0<2^m:=by
 refine⟨?_,Nat.two_pow_pos m⟩;have:=Nat.le_mul_of_pos_left (2^m) (show 0<a+1 by omega);omega
theorem lK{n:Nat}{x:Int}:∀(m k r a:Nat),r=a*2^m→(a+1)*2^m≤4294967296→m<k→j1 n k (x,(r:Int),(Bp m:Int),())=some (((sq x m r:Nat):Int),())
 |0,k,r,a,p,q,D=>by
  obtain⟨k,rfl⟩:∃i,k=i+1:=⟨k -1,by omega⟩;rw[ue,ag,if_neg (by simp[Bp])];rfl
 |m+1,k,r,a,p,q,D=>by
  obtain⟨k,rfl⟩:∃i,k=i+1:=⟨k -1,by omega⟩;have K:=Xl q;obtain⟨u,w,t⟩:=Wg (x:=x) p q;have I:=Xl t;rw[ue];simp only[ag,dU];rw[show Bp (m+1)=2^m from rfl,jO];have H:EC .or .i64 (r:Int) ((2^m:Nat):Int)=((r+2^m:Nat):Int):=by
   rw[p];exact aeh (by omega)
  rw[H];obtain⟨s,z⟩:∃s,s=r+2^m:=⟨_,rfl⟩;have B:s<4294967296:=by
   rw[z,p];rw[bw]at q;have:2^m<2^(m+1):=Nat.pow_lt_pow_right (by omega) (by omega);omega
  rw[←z];obtain⟨d,y⟩:∃d,d=9223372036854775807/s:=⟨_,rfl⟩;have E:d≤9223372036854775807:=by rw[y];exact Nat.div_le_self _ _
  have J:qt .i64 9223372036854775807 (s:Int)=some (d:Int):=by
   have e:(9223372036854775807:Int).tdiv (s:Int)=(d:Int):=by
    rw[aB (by omega),y];rfl
   rw[LK (by omega) (by rw[e];omega) (by rw[e];omega),e]
  rw[J];simp only[aa];have c:Rb .i64 ((2^m:Nat):Int) 1=some ((Bp m:Nat):Int):=by
   unfold Rb;rw[fu];show some (((2^m:Nat):Int).fdiv 2)=_;rw[Int.fdiv_eq_ediv_of_nonneg _ (by omega),←Od];rfl
  have l:((s:Int)≤(d:Int))↔s≤3037000499:=by
   rw[Wh,←Nat.le_div_iff_mul_le (by omega),←y];omega
  have b:oo x r m=if s≤3037000499∧(s:Int)*(s:Int)≤x then s else r:=by unfold oo;rw[←z]
  by_cases g:s≤3037000499
  ·rw[if_pos (l.2 g)];have F:=Wh.1 g;have j:(s:Int)*(s:Int)=((s*s:Nat):Int):=by simp
   rw[bu (by rw[j];omega) (by rw[j];omega)]
   by_cases o:(s:Int)*(s:Int)≤x
   ·rw[if_pos o];simp only[aa];rw[c];simp only[aa];rw[if_pos ⟨g,o⟩]at b;have:=lK (n:=n) (x:=x) m k s u (by rw[←w,b]) t (by omega);rw[this,show sq x (m+1) r=sq x m (oo x r m)from rfl,b]
   ·rw[if_neg o];simp only[aa];rw[c];simp only[aa];rw[if_neg (fun h=>o h.2)]at b;have:=lK (n:=n) (x:=x) m k r u (by rw[←w,b]) t (by omega);rw[this,show sq x (m+1) r=sq x m (oo x r m)from rfl,b]
  ·rw[if_neg (fun h=>g (l.1 h))];rw[c];simp only[aa];rw[if_neg (fun h=>g h.1)]at b;have:=lK (n:=n) (x:=x) m k r u (by rw[←w,b]) t (by omega);rw[this,show sq x (m+1) r=sq x m (oo x r m)from rfl,b]
theorem lL{n:Nat}{x:Int}:∀(m k r a:Nat),r=a*2^m→(a+1)*2^m≤4294967296→m<k→ka n k (x,(r:Int),(Bp m:Int),())=some (((sq x m r:Nat):Int),())
 |0,k,r,a,p,g,y=>by
  obtain⟨k,rfl⟩:∃i,k=i+1:=⟨k -1,by omega⟩;rw[un,ag,if_neg (by simp[Bp])];rfl
 |m+1,k,r,a,p,g,y=>by
  obtain⟨k,rfl⟩:∃i,k=i+1:=⟨k -1,by omega⟩;have E:=Xl g;obtain⟨l,q,j⟩:=Wg (x:=x) p g;have D:=Xl j;rw[un];simp only[ag,dU];rw[show Bp (m+1)=2^m from rfl,jO];obtain⟨s,u⟩:∃s,s=r+2^m:=⟨_,rfl⟩;have w:s<4294967296:=by
   rw[u,p];rw[bw]at g;have:2^m<2^(m+1):=Nat.pow_lt_pow_right (by omega) (by omega);omega
  have z:(r:Int)+((2^m:Nat):Int)=(s:Int):=by rw[u];simp
  rw[z,bu (x:=(s:Int))];have t:qt .i64 ((2^m:Nat):Int) 2=some ((Bp m:Nat):Int):=by
   have e:(((2^m:Nat):Int)).tdiv 2=((2^m/2:Nat):Int):=by
    rw[aB (by omega)];rfl
   rw[LK (by omega) (by rw[e];omega) (by rw[e];omega),e,Od]
  have b:oo x r m=if s≤3037000499∧(s:Int)*(s:Int)≤x then s else r:=by unfold oo;rw[←u]
  by_cases o:s≤3037000499
  ·rw[jO];have B:=Wh.1 o;have c:(s:Int)*(s:Int)=((s*s:Nat):Int):=by simp
   rw[bu (by rw[c];omega) (by rw[c];omega)]
   by_cases d:(s:Int)*(s:Int)≤x
   ·rw[if_pos d];simp only[aa];rw[t];simp only[aa];rw[if_pos ⟨o,d⟩]at b;have:=lL (n:=n) (x:=x) m k s l (by rw[←q,b]) j (by omega);rw[this,show sq x (m+1) r=sq x m (oo x r m)from rfl,b]
   ·rw[if_neg d];simp only[aa];rw[t];simp only[aa];rw[if_neg (fun h=>d h.2)]at b;have:=lL (n:=n) (x:=x) m k r l (by rw[←q,b]) j (by omega);rw[this,show sq x (m+1) r=sq x m (oo x r m)from rfl,b]
  ·rw[fu];simp only[aa];rw[t];simp only[aa];rw[if_neg (fun h=>o h.1)]at b;have:=lL (n:=n) (x:=x) m k r l (by rw[←q,b]) j (by omega);rw[this,show sq x (m+1) r=sq x m (oo x r m)from rfl,b]
theorem Xm:∃f:Int→Int,∀x,f x=((sq x 32 0:Nat):Int):=⟨_,fun _=>rfl⟩
noncomputable def QT:Int→Int:=Classical.choose Xm
theorem Oe(x:Int):QT x=((sq x 32 0:Nat):Int):=Classical.choose_spec Xm x
theorem aai{x:Int}:∀(m r a:Nat),r=a*2^m→(a+1)*2^m≤4294967296→sq x m r<4294967296
 |0,r,a,b,c=>by show r<_;omega
 |m+1,r,a,b,c=>by
  obtain⟨d,g,h⟩:=Wg (x:=x) b c;exact aai m _ d g h
theorem QU(x:Int):0≤QT x∧QT x<4294967296:=by
 have:=aai (x:=x) 32 0 0 (by simp) (by decide);rw[Oe];omega
theorem Wi{n:Nat}(a:100≤n){x:Int}(b:0≤x):qR n x=some (QT x,0):=by
 rw[K0,ag,if_neg (by simp;omega)];have:=lK (n:=n) (x:=x) 32 n 0 0 (by simp) (by decide) (by omega);rw[show((Bp 32:Nat):Int)=2147483648 from rfl]at this;rw[show((0:Nat):Int)=0 from rfl]at this;rw[this,Oe];rfl
theorem Wj{n:Nat}(a:100≤n){x:Int}(b:0≤x):q8 n x=some (QT x,0):=by
 rw[Lj,ag,if_neg (by simp;omega)];have:=lL (n:=n) (x:=x) 32 n 0 0 (by simp) (by decide) (by omega);rw[show((Bp 32:Nat):Int)=2147483648 from rfl]at this;rw[show((0:Nat):Int)=0 from rfl]at this;rw[this,Oe];rfl
theorem wK{g:Nat→Int}{m:Int}:∀i:Nat,(∀j,j<i→0≤g j∧g j≤m)→0≤eh g i∧eh g i≤i*m
 |0,_=>by simp[eh]
 |i+1,h=>by
  have a:=wK i (fun j c=>h j (by omega));have b:=h i (by omega);simp only[eh];rw[show((i+1:Nat):Int)*m=i*m+m by rw[Int.natCast_add,Int.add_mul];simp];omega
def kK(l:List Int)(i:Nat):Prop:=l.getD i 0< -268435456∨l.getD i 0>268435456
def OY(l:List Int)(i:Nat):Int:=eh (fun i=>l.getD i 0*l.getD i 0) i
open Classical in
noncomputable def dV(l:List Int):Int×Int:=
 if l.length=0∨l.length>64 then(0,1)else if ∃i,i<l.length∧kK l i then(0,90)else(imax 1 (QT (OY l l.length/(l.length:Int))),0)
theorem aaj{x m:Int}(g: -m≤x)(d:x≤m):0≤x*x∧x*x≤m*m:=by
 have h:∀y:Int,0≤y→y≤m→0≤y*y∧y*y≤m*m:=fun y a b=>⟨Int.mul_nonneg a a,Int.mul_le_mul b b a (by omega)⟩
 by_cases c:0≤x
 ·exact h x c d
 ·have:=h (-x) (by omega) (by omega);rwa[Int.neg_mul_neg]at this
theorem Mb{l:List Int}{i:Nat}(h:∀j,j<i→¬ kK l j):0≤OY l i∧OY l i≤i*72057594037927936:=
 wK i fun j b=>by
  have a: -268435456≤l.getD j 0∧l.getD j 0≤268435456:=by
   have:=h j b;unfold kK at this;omega
  exact aaj a.1 a.2
theorem aak{x:Int}(h:0≤x):imax 1 x=if x=0 then 1 else x:=by
 unfold imax
 split<;>split<;>omega
theorem Yi{n:Nat}{l:List Int}(M:ii n):tF n l=some (dV l):=by
 rw[NI];unfold dV;simp only[ag,dU,beq_iff_eq]
 by_cases B:(l.length:Int)=0
 ·rw[if_pos B,if_pos (.inl (by omega))]
 ·rw[if_neg B]
  by_cases D:(l.length:Int)>64
  ·rw[if_pos D,if_pos (.inr (by omega))]
  ·rw[if_neg D,if_neg (show ¬ (l.length=0∨l.length>64)by omega)];have step:∀k i:Nat,i<l.length→(∀j,j<i→¬ kK l j)→(kK l i→fc n (k+1) (l,OY l i,l,(l.length:Int),(i:Int),())=some (Sum.inl (0,90,())))∧
     (¬ kK l i→fc n (k+1) (l,OY l i,l,(l.length:Int),(i:Int),())=fc n k (l,OY l (i+1),l,(l.length:Int),(i:Int)+1,())):=by
    intro k i y b;rw[ww];simp only[ag,dU];rw[jO,aS y 0];simp only[aa];refine⟨fun c=> ?_,fun c=> ?_⟩
    ·rcases c with c |c
     ·rw[if_pos c]
     ·rw[fu,if_pos c]
    ·have E: -268435456≤l.getD i 0∧l.getD i 0≤268435456:=by
      unfold kK at c;omega
     have K:=aaj E.1 E.2;have t:=Mb b;rw[fu,fu,bu (x:=l.getD i 0*l.getD i 0),bu (x:=(i:Int)+1),bu];rfl
   by_cases a:∃i,i<l.length∧kK l i
   ·rw[if_pos a];obtain⟨J,H,w⟩:=a;obtain⟨i,y,g,I⟩:=least (p:=fun i=>kK l i) J w;have u:=aQ (L:=fun k i o=>fc n k (l,o,l,(l.length:Int),i,())) (len:=i) (r:=Sum.inl (0,90,())) (fun i=>OY l i)
     (fun k j b=>(step k j (by omega) (fun z h=>g z (by omega))).2 (g j b)) (fun k=>(step k i (by omega) g).1 y) n (by omega)
    rw[show OY l 0=0 from rfl]at u;rw[u];rfl
   ·rw[if_neg a];have q:∀j,j<l.length→¬ kK l j:=fun j b h=>a ⟨j,b,h⟩;have u:=aQ (L:=fun k i o=>fc n k (l,o,l,(l.length:Int),i,())) (len:=l.length) (r:=Sum.inr (l,OY l l.length,())) (fun i=>OY l i)
     (fun k j b=>(step k j b (fun z h=>q z (by omega))).2 (q j b)) (fun k=>by
      show fc n (k+1) _=_;rw[ww,ag,if_neg (by simp)]) n (by omega)
    rw[show OY l 0=0 from rfl]at u;rw[u];have t:=Mb q;simp only[aa,ea];have F:=(gE (x:=OY l l.length) (d:=(l.length:Int)) (by omega)).1 t.1;rw[LK (by omega) (by rw[aB t.1];omega) (by rw[aB t.1];omega),aB t.1];simp only[aa];rw[Wi (by omega) F.1];rfl
theorem Wk{n:Nat}{l:List Int}(M:ii n):q9 n l=some (dV l):=by
 rw[Lk];unfold dV;simp only[ag,dU,beq_iff_eq]
 by_cases B:(l.length:Int)<1
 ·rw[if_pos B,if_pos (.inl (by omega))]
 ·rw[if_neg B]
  by_cases D:(l.length:Int)>64
  ·rw[if_pos D,if_pos (.inr (by omega))]
  ·rw[if_neg D,if_neg (show ¬ (l.length=0∨l.length>64)by omega)];have step:∀k i:Nat,i<l.length→(∀j,j<i→¬ kK l j)→(kK l i→eA n (k+1) (l,OY l i,(i:Int),())=some (Sum.inl (0,90,())))∧
     (¬ kK l i→eA n (k+1) (l,OY l i,(i:Int),())=eA n k (l,OY l (i+1),(i:Int)+1,())):=by
    intro k i y b;rw[uo];simp only[ag,dU];rw[jO,aS y 0];simp only[aa];refine⟨fun c=> ?_,fun c=> ?_⟩
    ·rcases c with c |c
     ·rw[fu,if_pos c]
     ·rw[if_pos c]
    ·have E: -268435456≤l.getD i 0∧l.getD i 0≤268435456:=by
      unfold kK at c;omega
     have K:=aaj E.1 E.2;have t:=Mb b;rw[fu,fu,bu (x:=l.getD i 0*l.getD i 0),bu (x:=(i:Int)+1),bu];rfl
   by_cases a:∃i,i<l.length∧kK l i
   ·rw[if_pos a];obtain⟨J,H,w⟩:=a;obtain⟨i,y,g,I⟩:=least (p:=fun i=>kK l i) J w;have u:=aQ (L:=fun k i o=>eA n k (l,o,i,())) (len:=i) (r:=Sum.inl (0,90,())) (fun i=>OY l i)
     (fun k j b=>(step k j (by omega) (fun z h=>g z (by omega))).2 (g j b)) (fun k=>(step k i (by omega) g).1 y) n (by omega)
    rw[show OY l 0=0 from rfl]at u;rw[u];rfl
   ·rw[if_neg a];have q:∀j,j<l.length→¬ kK l j:=fun j b h=>a ⟨j,b,h⟩;have u:=aQ (L:=fun k i o=>eA n k (l,o,i,())) (len:=l.length) (r:=Sum.inr (l,OY l l.length,())) (fun i=>OY l i)
     (fun k j b=>(step k j b (fun z h=>q z (by omega))).2 (q j b)) (fun k=>by
      show eA n (k+1) _=_;rw[uo,ag,if_neg (by simp)]) n (by omega)
    rw[show OY l 0=0 from rfl]at u;rw[u];have t:=Mb q;simp only[aa,ea];have F:=(gE (x:=OY l l.length) (d:=(l.length:Int)) (by omega)).1 t.1;rw[LK (by omega) (by rw[aB t.1];omega) (by rw[aB t.1];omega),aB t.1];simp only[aa];rw[Wj (by omega) F.1,aak (QU _).1];simp only[aa]
    split<;>rfl
def oq(l dZ:List Int)(r:Int)(i:Nat):Int:=dw (bJ ((64*l.getD i 0).tdiv r*dZ.getD i 0) 6).1
noncomputable def i2(l dZ:List Int):List Int×Int:=
 if l.length≠dZ.length then([],1)else if(dV l).2≠0 then([],(dV l).2)else(cM (oq l dZ (dV l).1) l.length,0)
theorem Of{l:List Int}(h:(dV l).2=0):1≤l.length∧l.length≤64∧(∀j,j<l.length→¬ kK l j)∧1≤(dV l).1∧(dV l).1≤4294967296:=by
 unfold dV at h ⊢
 by_cases b:l.length=0∨l.length>64
 ·rw[if_pos b]at h;cases h
 ·rw[if_neg b]at h ⊢
  by_cases a:∃i,i<l.length∧kK l i
  ·rw[if_pos a]at h;cases h
  ·rw[if_neg a];have:=QU (OY l l.length/(l.length:Int));refine⟨by omega,by omega,fun j d c=>a ⟨j,d,c⟩,?_,?_⟩
   ·show 1≤imax 1 _;rw[aak this.1];split<;>omega
   ·show imax 1 _≤_;rw[aak this.1];split<;>omega
theorem SD{a b m k:Int}(j: -m≤a∧a≤m)(l: -k≤b∧b≤k): -(m*k)≤a*b∧a*b≤m*k:=by
 have h:∀a b:Int,0≤a→a≤m→0≤b→b≤k→0≤a*b∧a*b≤m*k:=fun a b d c g i=>
  ⟨Int.mul_nonneg d g,Int.mul_le_mul c i g (by omega)⟩
 by_cases d:0≤a
 ·by_cases c:0≤b
  ·have:=h a b d (by omega) c (by omega);omega
  ·have:=h a (-b) d (by omega) (by omega) (by omega);rw[Int.mul_neg]at this;omega
 ·by_cases c:0≤b
  ·have:=h (-a) b (by omega) (by omega) c (by omega);rw[Int.neg_mul]at this;omega
  ·have:=h (-a) (-b) (by omega) (by omega) (by omega) (by omega);rw[Int.neg_mul_neg]at this;omega
theorem JX{l dZ:List Int}{r:Int}{i:Nat}(d:aO dZ)(c:¬ kK l i)(g:1≤r):(-268435456≤l.getD i 0∧l.getD i 0≤268435456)∧(-17179869184≤(64*l.getD i 0).tdiv r∧(64*l.getD i 0).tdiv r≤17179869184)∧
  (-(17179869184*128)≤(64*l.getD i 0).tdiv r*dZ.getD i 0∧(64*l.getD i 0).tdiv r*dZ.getD i 0≤17179869184*128):=by
 have b: -268435456≤l.getD i 0∧l.getD i 0≤268435456:=by
  unfold kK at c;omega
 have h:=N7 (x:=64*l.getD i 0) g;have a: -17179869184≤(64*l.getD i 0).tdiv r∧(64*l.getD i 0).tdiv r≤17179869184:=by omega
 have j:=d.at i;exact⟨b,a,SD a (by omega)⟩
theorem GP{n:Nat}{l dZ:List Int}(g:aO dZ)(q:ii n):lP n (l,dZ)=some (i2 l dZ):=by
 rw[Pr];unfold i2;simp only[ag,dU,bne_iff_ne,ne_eq]
 by_cases c:(l.length:Int)=(dZ.length:Int)
 ·rw[if_neg (by simpa using c),if_neg (show ¬ ¬ l.length=dZ.length by omega),Yi q];simp only[aa]
  by_cases a:(dV l).2=0
  ·rw[if_neg (by simpa using a),if_neg (by simpa using a)];obtain⟨t,u,h,j,w⟩:=Of a;have p:ED 1 (l.length:Int)=some l.length:=by
    unfold ED room;rw[if_pos ⟨by omega,by omega,by omega⟩];simp
   rw[p];simp only[aa];have d:=aQ (L:=fun k i o=>kx n k (dZ,(dV l).1,(),l,(l.length:Int),i,o,())) (len:=l.length) (r:=((),cM (oq l dZ (dV l).1) l.length,())) (fun i=>fill (oq l dZ (dV l).1) 0 l.length i) ?_ ?_ n (by omega)
   ·rw[om]at d;rw[d];rfl
   ·intro k i b;show kx n (k+1) _=_;rw[yX];simp only[ag,dU];obtain⟨y,z,B⟩:=JX g (h i b) j;have D:=g.at i;rw[jO,aS b 0];simp only[aa];rw[bu (x:=64*l.getD i 0),LK (by omega) (by omega) (by omega),aS (show i<dZ.length by omega) 0];simp only[aa];rw[bu (x:=dZ.getD i 0),bu (x:=(64*l.getD i 0).tdiv (dV l).1*dZ.getD i 0),i5 (by omega) (by omega)];simp only[aa];rw[nB,x2 _ _ b];simp only[aa];rw[sL _ _ b,bu];simp only[aa];rw[show dw (bJ ((64*l.getD i 0).tdiv (dV l).1*dZ.getD i 0) 6).1=oq l dZ (dV l).1 i from rfl,sK _ _ b]
   ·intro k;show kx n (k+1) _=_;rw[yX,ag,if_neg (by simp),wI]
  ·rw[if_pos a,if_pos a]
 ·rw[if_pos c,jO]
theorem BS{n:Nat}{l dZ:List Int}(p:aO dZ)(w:ii n):kc n (l,dZ)=some (i2 l dZ):=by
 rw[NR];unfold i2;simp only[ag,dU,bne_iff_ne,ne_eq]
 by_cases h:(l.length:Int)=(dZ.length:Int)
 ·rw[if_neg (by simpa using h),if_neg (show ¬ ¬ l.length=dZ.length by omega),Wk w];simp only[aa]
  by_cases c:(dV l).2=0
  ·rw[if_neg (by simpa using c),if_neg (by simpa using c)];obtain⟨B,D,q,g,E⟩:=Of c;have j:=aQ (L:=fun k i o=>jJ n k (l,dZ,(dV l).1,o,i,())) (len:=l.length) (r:=(cM (oq l dZ (dV l).1) l.length,())) (fun i=>cM (oq l dZ (dV l).1) i) ?_ ?_ n (by omega)
   ·rw[dD]at j;rw[j];rfl
   ·intro k i d;show jJ n (k+1) _=_;rw[wB];simp only[ag,dU];obtain⟨F,H,I⟩:=JX p (q i d) g;have J:=p.at i;rw[jO,aS d 0];simp only[aa];have t:(if l.getD i 0<0 then some (l,dZ,(dV l).1,cM (oq l dZ (dV l).1) i,(i:Int),ae .i64 (0 -l.getD i 0),())else some (l,dZ,(dV l).1,cM (oq l dZ (dV l).1) i,(i:Int),l.getD i 0,()))=
      some (l,dZ,(dV l).1,cM (oq l dZ (dV l).1) i,(i:Int),(if l.getD i 0<0 then -l.getD i 0 else l.getD i 0),()):=by
     split
     ·rw[bu];simp
     ·rfl
    rw[t];simp only[aa];obtain⟨y,b⟩:∃y,y=(if l.getD i 0<0 then -l.getD i 0 else l.getD i 0):=⟨_,rfl⟩;have z:0≤y∧y≤268435456:=by rw[b];split<;>omega
    rw[←b];have K:=(N7 (x:=64*y) g).1 (by omega);rw[bu (x:=64*y),LK (by omega) (by omega) (by omega)];simp only[aa];rw[aS d 0];simp only[aa];have u:(if l.getD i 0<0 then some (l,dZ,(dV l).1,cM (oq l dZ (dV l).1) i,(i:Int),ae .i64 (0 -(64*y).tdiv (dV l).1),())else some (l,dZ,(dV l).1,cM (oq l dZ (dV l).1) i,(i:Int),(64*y).tdiv (dV l).1,()))=
      some (l,dZ,(dV l).1,cM (oq l dZ (dV l).1) i,(i:Int),(64*l.getD i 0).tdiv (dV l).1,()):=by
     split
     ·rename_i a;rw[if_pos a]at b;rw[bu,b,Int.mul_neg,Int.neg_tdiv];simp
     ·rename_i a;rw[if_neg a]at b;rw[b]
    rw[u];simp only[aa];rw[aS (show i<dZ.length by omega) 0];simp only[aa];rw[bu (x:=dZ.getD i 0),bu (x:=(64*l.getD i 0).tdiv (dV l).1*dZ.getD i 0),kj (by omega) (by omega) (by omega)];simp only[aa];rw[nC];simp only[aa];rw[show dw (bJ ((64*l.getD i 0).tdiv (dV l).1*dZ.getD i 0) 6).1=oq l dZ (dV l).1 i from rfl,dQ _ (by unfold room;omega) (by unfold room;omega),bu];rfl
   ·intro k;show jJ n (k+1) _=_;rw[wB,ag,if_neg (by simp)]
  ·rw[if_pos c,if_pos c]
 ·rw[if_pos h,jO]
def kk(sz p:Nat):Nat:=(2*p % sz)/2
def acD(x cos sin:List Int)(sz p:Nat):Int:=dw (bJ (x.getD (2*p) 0*cos.getD (kk sz p) 0 -x.getD (2*p+1) 0*sin.getD (kk sz p) 0) 6).1
def acE(x cos sin:List Int)(sz p:Nat):Int:=dw (bJ (x.getD (2*p) 0*sin.getD (kk sz p) 0+x.getD (2*p+1) 0*cos.getD (kk sz p) 0) 6).1
def nE(x cos sin:List Int)(sz i:Nat):Int:=if i % 2=0 then acD x cos sin sz (i/2)else acE x cos sin sz (i/2)
def wL(x:List Int)(size:Int)(cos sin:List Int):List Int×Int:=
 if size<2∨size % 2≠0∨(x.length:Int) % size≠0 then([],100)else if(cos.length:Int)≠size/2∨(sin.length:Int)≠size/2 then([],101)else(cM (nE x cos sin size.toNat) x.length,0)
theorem Og(x cos sin:List Int)(sz p:Nat):nE x cos sin sz (2*p)=acD x cos sin sz p:=by
 unfold nE;rw[jO,show 2*p/2=p by omega]
theorem QV(x cos sin:List Int)(sz p:Nat):nE x cos sin sz (2*p+1)=acE x cos sin sz p:=by
 unfold nE;rw[fu,show(2*p+1)/2=p by omega]
theorem acF{sz p:Nat}(h:2≤sz)(a:sz % 2=0):kk sz p<sz/2:=by
 unfold kk;have:=Nat.mod_lt (2*p) (show 0<sz by omega);omega
theorem uB{a b:Int}(c:0≤a:=by omega)(d:b≠0:=by omega):rm a b=some (a % b):=by rw[BF d,Int.tmod_eq_emod_of_nonneg c]
theorem jo{a b:Int}(c:0≤a)(d:a≤9223372036854775807)(g:1≤b):qt .i64 a b=some (a/b):=by
 have h:=(gE (x:=a) g).1 c;rw[LK (by omega) (by rw[aB c];omega) (by rw[aB c];omega),aB c]
theorem QW{x cos sin:List Int}{size:Int}(p:size≤9223372036854775807){K:Option (List Int×Int)}
  (k:2≤size→size % 2=0→(x.length:Int) % size=0→(cos.length:Int)=size/2→(sin.length:Int)=size/2→K=some (cM (nE x cos sin size.toNat) x.length,0)):
  (aw (decide (size<(2:Int)))
   (some ([],(100:Int)))
   (((rm size (2:Int))).bind fun l=>
   aw (l !=(0:Int))
    (some ([],(100:Int)))
    (((rm (((ac x):Nat):Int) size)).bind fun n=>
    aw (n !=(0:Int))
     (some ([],(100:Int)))
     (((qt bx size (2:Int))).bind fun o=>
     aw ((((ac cos):Nat):Int)!=o)
      (some ([],(101:Int)))
      (((qt bx size (2:Int))).bind fun v4=>
      aw ((((ac sin):Nat):Int)!=v4)
       (some ([],(101:Int))) K)))))=some (wL x size cos sin):=by
 unfold wL;simp only[ag,dU,bne_iff_ne,ne_eq]
 by_cases g:size<2
 ·rw[if_pos g,if_pos (.inl g)]
 ·rw[if_neg g,uB];simp only[aa]
  by_cases a:size % 2=0
  ·rw[if_neg (by simpa using a),uB];simp only[aa]
   by_cases b:(x.length:Int) % size=0
   ·rw[if_neg (by simpa using b),jo (by omega) (by omega) (by omega)];simp only[aa];have i:¬ (size<2∨¬ size % 2=0∨¬ (x.length:Int) % size=0):=by
     rintro(h |h |h)
     ·exact g h
     ·exact h a
     ·exact h b
    rw[if_neg i]
    by_cases c:(cos.length:Int)=size/2
    ·rw[if_neg (by simpa using c)]
     by_cases d:(sin.length:Int)=size/2
     ·have j:¬ (¬ (cos.length:Int)=size/2∨¬ (sin.length:Int)=size/2):=by
       rintro(h |h)
       ·exact h c
       ·exact h d
      rw[if_neg (by simpa using d),if_neg j];exact k (by omega) a b c d
     ·rw[if_pos d,if_pos (.inr d)]
    ·rw[if_pos c,if_pos (.inl c)]
   ·rw[if_pos b,if_pos (.inr (.inr b))]
  ·rw[if_pos a,if_pos (.inr (.inl a))]
theorem UF{l size:Nat}(h:l % size=0)(a:size % 2=0):l % 2=0:=
 Nat.mod_eq_zero_of_dvd (Nat.dvd_trans (Nat.dvd_of_mod_eq_zero a) (Nat.dvd_of_mod_eq_zero h))
theorem nF{l:List Int}{i:Int}{j:Nat}(a:i=(j:Int):=by omega)(h:j<l.length:=by omega):idx l i=some (l.getD j 0):=by rw[a];exact aS h 0
theorem QX{n:Nat}{x cos sin:List Int}{size:Int}(u:aO x)(w:aO cos)(c:aO sin)(B:size≤9223372036854775807)(K:x.length≤1000000000)(M:ii n):pf n (x,size,cos,sin)=some (wL x size cos sin):=by
 rw[NK,pA];rw[QW (x:=x) B ?_]
 ·rfl
 ·intro D E F H I;obtain⟨sz,rfl⟩:∃sz:Nat,size=(sz:Int):=⟨size.toNat,by omega⟩;rw[aH];have y:=UF (l:=x.length) (size:=sz) (by omega) (by omega);have z:ED 1 (x.length:Int)=some x.length:=by
   unfold ED room;rw[if_pos ⟨by omega,by omega,by omega⟩];simp
  rw[z];simp only[aa];have b:=aQ (L:=fun k i o=>cx n k (x,(sz:Int),cos,sin,(),(),2*i,o,())) (len:=x.length/2) (r:=((),cM (nE x cos sin sz) x.length,())) (fun p=>fill (nE x cos sin sz) 0 x.length (2*p)) ?_ ?_ n (by omega)
  ·rw[show 2*0=0 from rfl,om]at b;rw[show(2:Int)*0=0 from rfl]at b;rw[b];rfl
  ·intro k p N;show cx n (k+1) _=_;rw[iB];simp only[ag,dU];have J:=acF (sz:=sz) (p:=p) (by omega) (by omega);have d:=u.at (2*p);have g:=u.at (2*p+1);have h:=w.at (kk sz p);have q:=c.at (kk sz p);have O:=I5 d h;have P:=I5 g q;have Q:=I5 d q;have R:=I5 g h;rw[jO,uB];simp only[aa];have a:(2*(p:Int)) % (sz:Int)=((2*p % sz:Nat):Int):=by simp
   have t:=Nat.mod_lt (2*p) (show 0<sz by omega);rw[a,jo (by omega) (by omega) (by omega),bu (x:=2*(p:Int)+1)];simp only[aa];rw[nF (j:=2*p) (by omega) (by omega),nF (j:=2*p+1) (by omega) (by omega)];simp only[aa];rw[nF (l:=cos) (j:=kk sz p) (by unfold kk;omega) (by omega),nF (l:=sin) (j:=kk sz p) (by unfold kk;omega) (by omega)];simp only[aa];rw[bu (x:=x.getD (2*p) 0),bu (x:=x.getD (2*p+1) 0),bu (x:=cos.getD (kk sz p) 0),bu (x:=sin.getD (kk sz p) 0),Iw];simp only[aa];rw[bu (x:=x.getD (2*p) 0*cos.getD (kk sz p) 0),bu (x:=x.getD (2*p+1) 0*sin.getD (kk sz p) 0),bu (x:=x.getD (2*p) 0*sin.getD (kk sz p) 0),bu (x:=x.getD (2*p+1) 0*cos.getD (kk sz p) 0)];rw[bu (x:=x.getD (2*p) 0*cos.getD (kk sz p) 0 -x.getD (2*p+1) 0*sin.getD (kk sz p) 0),bu (x:=x.getD (2*p) 0*sin.getD (kk sz p) 0+x.getD (2*p+1) 0*cos.getD (kk sz p) 0)];rw[wy,wy,i5 (by omega) (by omega),i5 (by omega) (by omega)];simp only[aa];rw[nB,nB];simp only[aa];rw[show dw (bJ (x.getD (2*p) 0*cos.getD (kk sz p) 0 -x.getD (2*p+1) 0*sin.getD (kk sz p) 0) 6).1=nE x cos sin sz (2*p)from(Og _ _ _ _ _).symm,
    show dw (bJ (x.getD (2*p) 0*sin.getD (kk sz p) 0+x.getD (2*p+1) 0*cos.getD (kk sz p) 0) 6).1=nE x cos sin sz (2*p+1)from(QV _ _ _ _ _).symm]
   rw[show(2*(p:Int))=((2*p:Nat):Int)by simp,show((2*p:Nat):Int)+1=((2*p+1:Nat):Int)by simp];rw[x2 _ _ (show 2*p<x.length by omega)];simp only[aa];rw[sL _ _ (show 2*p<x.length by omega),sK _ _ (show 2*p<x.length by omega)];simp only[aa];rw[x2 _ _ (show 2*p+1<x.length by omega)];simp only[aa];rw[sL _ _ (show 2*p+1<x.length by omega),sK _ _ (show 2*p+1<x.length by omega)];simp only[aa];rw[bu,show((2*p:Nat):Int)+2=2*((p:Int)+1)by omega];rfl
  ·intro k;show cx n (k+1) _=_;rw[iB,ag,if_neg (by simp;omega),show 2*(x.length/2)=x.length by omega,wI]
theorem Wl{n:Nat}{x cos sin:List Int}{size:Int}(w:aO x)(y:aO cos)(d:aO sin)(B:size≤9223372036854775807)(K:x.length≤1000000000)(M:ii n):ra n (x,size,cos,sin)=some (wL x size cos sin):=by
 rw[Lm,Gs];rw[QW (x:=x) B ?_]
 ·rfl
 ·intro D E F H I;obtain⟨sz,rfl⟩:∃sz:Nat,size=(sz:Int):=⟨size.toNat,by omega⟩;rw[aH];have z:=UF (l:=x.length) (size:=sz) (by omega) (by omega);have c:=aQ (L:=fun k i o=>gn n k (x,(sz:Int),cos,sin,-1,o,2*i,())) (len:=x.length/2) (r:=(cM (nE x cos sin sz) x.length,())) (fun p=>cM (nE x cos sin sz) (2*p)) ?_ ?_ n (by omega)
  ·rw[show 2*0=0 from rfl,dD]at c;rw[show(2:Int)*0=0 from rfl]at c;rw[c];rfl
  ·intro k p N;show gn n (k+1) _=_;rw[qC];simp only[ag,dU];have J:=acF (sz:=sz) (p:=p) (by omega) (by omega);have g:=w.at (2*p);have h:=w.at (2*p+1);have q:=y.at (kk sz p);have t:=d.at (kk sz p);have O:=I5 g q;have P:=I5 h t;have Q:=I5 g t;have R:=I5 h q;rw[jO,uB];simp only[aa];have b:(2*(p:Int)) % (sz:Int)=((2*p % sz:Nat):Int):=by simp
   have u:=Nat.mod_lt (2*p) (show 0<sz by omega);rw[b,jo (by omega) (by omega) (by omega),bu (x:=2*(p:Int)+1)];simp only[aa];rw[nF (j:=2*p) (by omega) (by omega),nF (j:=2*p+1) (by omega) (by omega)];simp only[aa];rw[nF (l:=cos) (j:=kk sz p) (by unfold kk;omega) (by omega),nF (l:=sin) (j:=kk sz p) (by unfold kk;omega) (by omega)];simp only[aa];rw[bu (x:=x.getD (2*p) 0),bu (x:=x.getD (2*p+1) 0),bu (x:=cos.getD (kk sz p) 0),bu (x:=sin.getD (kk sz p) 0),bu (x:= -1*sin.getD (kk sz p) 0),Ll];rw[show(-1*sin.getD (kk sz p) 0)= -sin.getD (kk sz p) 0 by omega,Int.mul_neg,Int.mul_neg];rw[bu (x:=x.getD (2*p) 0*cos.getD (kk sz p) 0),bu (x:= -(x.getD (2*p+1) 0*sin.getD (kk sz p) 0)),bu (x:=x.getD (2*p+1) 0*cos.getD (kk sz p) 0),bu (x:= -(x.getD (2*p) 0*sin.getD (kk sz p) 0))];rw[show x.getD (2*p) 0*cos.getD (kk sz p) 0+ -(x.getD (2*p+1) 0*sin.getD (kk sz p) 0)=x.getD (2*p) 0*cos.getD (kk sz p) 0 -x.getD (2*p+1) 0*sin.getD (kk sz p) 0 by omega,
    show x.getD (2*p+1) 0*cos.getD (kk sz p) 0 - -(x.getD (2*p) 0*sin.getD (kk sz p) 0)=x.getD (2*p) 0*sin.getD (kk sz p) 0+x.getD (2*p+1) 0*cos.getD (kk sz p) 0 by omega]
   rw[bu (x:=x.getD (2*p) 0*cos.getD (kk sz p) 0 -x.getD (2*p+1) 0*sin.getD (kk sz p) 0),bu (x:=x.getD (2*p) 0*sin.getD (kk sz p) 0+x.getD (2*p+1) 0*cos.getD (kk sz p) 0)];rw[kj (by omega) (by omega) (by omega),kj (by omega) (by omega) (by omega)];simp only[aa];rw[nC,nC];simp only[aa];rw[show dw (bJ (x.getD (2*p) 0*cos.getD (kk sz p) 0 -x.getD (2*p+1) 0*sin.getD (kk sz p) 0) 6).1=nE x cos sin sz (2*p)from(Og _ _ _ _ _).symm,
    show dw (bJ (x.getD (2*p) 0*sin.getD (kk sz p) 0+x.getD (2*p+1) 0*cos.getD (kk sz p) 0) 6).1=nE x cos sin sz (2*p+1)from(QV _ _ _ _ _).symm]
   have a:app 1 (cM (nE x cos sin sz) (2*p)) [nE x cos sin sz (2*p),nE x cos sin sz (2*p+1)]=some (cM (nE x cos sin sz) (2*(p+1))):=by
    unfold app room;rw[if_pos ⟨by simp;omega,by simp;omega⟩,show 2*(p+1)=2*p+1+1 by omega,sJ,sJ];simp
   rw[a];simp only[aa];rw[bu,show 2*(p:Int)+2=2*((p:Int)+1)by omega]
  ·intro k;show gn n (k+1) _=_;rw[qC,ag,if_neg (by simp;omega),show 2*(x.length/2)=x.length by omega]
theorem aei(x:Int): -128≤ae .i8 x∧ae .i8 x≤127:=by
 simp only[ae,cj,IntKind.signed,Bool.true_and,dU,ge_iff_le]
 split<;>omega
theorem ab2(x:Int):ae .u64 x=x % 18446744073709551616:=by
 simp[ae,cj,IntKind.signed]
def mx(l:List Int):Nat→Int
 |0=>l.getD 0 0
 |i+1=>imax (mx l i) (l.getD i 0)
theorem aal(l:List Int):mx l 1=l.getD 0 0:=by
 show imax (l.getD 0 0) (l.getD 0 0)=_;unfold imax;split<;>rfl
theorem Wm{l:List Int}(h:eJ l):∀i,-9223372036854775808≤mx l i∧mx l i≤9223372036854775807
 |0=>h.at 0
 |i+1=>by
  have a:=Wm h i;have b:=h.at i;show -9223372036854775808≤imax _ _∧imax _ _≤9223372036854775807;unfold imax;split<;>omega
theorem aam{l:List Int}:∀i j,j<i→l.getD j 0≤mx l i
 |0,j,h=>by omega
 |i+1,j,h=>by
  show l.getD j 0≤imax (mx l i) (l.getD i 0)
  by_cases a:j=i
  ·subst a;unfold imax;split<;>omega
  ·have:=aam (l:=l) i j (by omega);unfold imax;split<;>omega
theorem acG{l:List Int}:∀i,1≤i→∃j,j<i∧mx l i=l.getD j 0
 |0,h=>by omega
 |1,_=>⟨0,by omega,aal l⟩
 |i+2,_=>by
  obtain⟨j,b,a⟩:=acG (l:=l) (i+1) (by omega);show ∃j,j<i+2∧imax (mx l (i+1)) (l.getD (i+1) 0)=l.getD j 0;unfold imax
  split
  ·exact⟨i+1,by omega,rfl⟩
  ·exact⟨j,by omega,a⟩
theorem Wn{n:Nat}{l:List Int}(b:1≤l.length)(c:l.length≤1000000000)(g:ii n):jc n l=some (mx l l.length):=by
 rw[zv];simp only[ag,dU];rw[fu];simp only[aa];rw[nF (j:=0) (by simp) (by omega)];simp only[aa];have a:=aQ (L:=fun k i m=>ed n k (l,m,i+1,())) (len:=l.length -1) (r:=(mx l l.length,())) (fun i=>mx l (i+1)) ?_ ?_ n (by omega)
 ·rw[show 0+1=1 from rfl,aal]at a;rw[show(0:Int)+1=1 from rfl]at a;rw[a];rfl
 ·intro k i d;show ed n (k+1) _=_;rw[l5];simp only[ag,dU];rw[jO,nF (j:=i+1) (by simp) (by omega)];simp only[aa];rw[bu];rfl
 ·intro k;show ed n (k+1) _=_;rw[l5,ag,if_neg (by simp;omega),show l.length -1+1=l.length by omega]
noncomputable def uC(m s:Int):Int:=SA (256*(if s -m< -1099511627776 then -1099511627776 else s -m))
noncomputable def dE(l:List Int):List Int:=cM (fun i=>uC (mx l l.length) (l.getD i 0)) l.length
theorem Oh{m s:Int}:(-281474976710656≤256*(if s -m< -1099511627776 then -1099511627776 else s -m))∧(s≤m→256*(if s -m< -1099511627776 then -1099511627776 else s -m)≤0):=by
 split<;>omega
theorem SE{n:Nat}{l:List Int}(c:eJ l)(g:1≤l.length)(u:l.length≤512)(h:ii n):mE n l=some (dE l,0):=by
 rw[Gk];simp only[ag,dU,beq_iff_eq];rw[fu,fu,Wn g (by omega) h];simp only[aa];have a:=aQ (L:=fun k i o=>gd n k (mx l l.length,o,l,(l.length:Int),i,())) (len:=l.length) (r:=(dE l,())) (fun i=>cM (fun i=>uC (mx l l.length) (l.getD i 0)) i) ?_ ?_ n (by omega)
 ·rw[dD]at a;rw[a];rfl
 ·intro k i b;show gd n (k+1) _=_;rw[qu];simp only[ag,dU];have j:=Wm c l.length;have p:=c.at i;have q:=aam (l:=l) l.length i b;have t:=Oh (m:=mx l l.length) (s:=l.getD i 0);rw[jO,aS b 0];simp only[aa];have e:ae .i64 (-256*ae .i64 (pT 1099511627776 (ae .u64 (ae .u64 (mx l l.length) -ae .u64 (l.getD i 0)))))=256*(if l.getD i 0 -mx l l.length< -1099511627776 then -1099511627776 else l.getD i 0 -mx l l.length):=by
   have d:ae .u64 (ae .u64 (mx l l.length) -ae .u64 (l.getD i 0))=mx l l.length -l.getD i 0:=by
    rw[ab2,ab2,ab2];omega
   rw[d];unfold pT
   split
   ·rw[bu (x:=mx l l.length -l.getD i 0),bu,fu];omega
   ·rw[bu (x:=1099511627776),bu]
    split<;>omega
  rw[e,We (by omega) (by omega) (by omega)];simp only[aa];rw[show SA (256*(if l.getD i 0 -mx l l.length< -1099511627776 then -1099511627776 else l.getD i 0 -mx l l.length))=uC (mx l l.length) (l.getD i 0)from rfl];rw[dQ (fun i=>uC (mx l l.length) (l.getD i 0)) (by unfold room;omega) (by unfold room;omega),bu];rfl
 ·intro k;show gd n (k+1) _=_;rw[qu,ag,if_neg (by simp)];rfl
theorem Oi{n:Nat}{s m:Int}(i: -9223372036854775808≤s)(h:m≤9223372036854775807)(g:s≤m):kB n (s,m)=some (if s -m< -1099511627776 then -1099511627776 else s -m):=by
 rw[B7];simp only[ag,dU]
 by_cases a:s<0
 ·rw[if_pos a]
  by_cases b:m≥0
  ·rw[if_pos b]
   by_cases c:m>1099511627776
   ·rw[if_pos c,jO]
   ·rw[if_neg c]
    by_cases d:s< -1099511627776
    ·rw[if_pos d,jO]
    ·rw[if_neg d,bu]
     split<;>rfl
  ·rw[if_neg b,bu]
   split<;>rfl
 ·rw[if_neg a,bu]
  split<;>rfl
theorem PY{n:Nat}{l:List Int}(d:eJ l)(t:1≤l.length)(u:l.length≤512)(w:ii n):lI n l=some (dE l,0):=by
 rw[Ed];simp only[ag,dU];rw[fu,fu,nF (j:=0) (by simp) (by omega)];simp only[aa];have c:=aQ (L:=fun k i m=>fB n k (l,m,i,())) (len:=l.length) (r:=(l,mx l l.length,())) (fun i=>mx l i) ?_ ?_ n (by omega)
 ·rw[show mx l 0=l.getD 0 0 from rfl]at c;rw[c];simp only[aa];have b:=aQ (L:=fun k i o=>eY n k (l,mx l l.length,o,i,())) (len:=l.length) (r:=(dE l,())) (fun i=>cM (fun i=>uC (mx l l.length) (l.getD i 0)) i) ?_ ?_ n (by omega)
  ·rw[dD]at b;rw[b];rfl
  ·intro k i a;show eY n (k+1) _=_;rw[nX];simp only[ag,dU];have g:=Wm d l.length;have h:=d.at i;have p:=aam (l:=l) l.length i a;have q:=Oh (m:=mx l l.length) (s:=l.getD i 0);rw[jO,aS a 0];simp only[aa];rw[Oi h.1 g.2 p];simp only[aa];rw[bu (x:=256*_),Wf (by omega) (by omega) (by omega)];simp only[aa];rw[show SA (256*(if l.getD i 0 -mx l l.length< -1099511627776 then -1099511627776 else l.getD i 0 -mx l l.length))=uC (mx l l.length) (l.getD i 0)from rfl];rw[dQ (fun i=>uC (mx l l.length) (l.getD i 0)) (by unfold room;omega) (by unfold room;omega),bu];rfl
  ·intro k;show eY n (k+1) _=_;rw[nX,ag,if_neg (by simp)];rfl
 ·intro k i a;show fB n (k+1) _=_;rw[pE];simp only[ag,dU];rw[jO,aS a 0];simp only[aa];have e:(if l.getD i 0>mx l i then some (l,l.getD i 0,(i:Int),())else some (l,mx l i,(i:Int),()))=some (l,mx l (i+1),(i:Int),()):=by
   show _=some (l,imax (mx l i) (l.getD i 0),(i:Int),());unfold imax
   split<;>rfl
  rw[e];simp only[aa];rw[bu]
 ·intro k;show fB n (k+1) _=_;rw[pE,ag,if_neg (by simp)]
structure Good (w:List Int):Prop where
 len:1≤w.length∧w.length≤512
 rng:∀i,0≤w.getD i 0∧w.getD i 0≤1073741824
 pos:0<eh (fun i=>w.getD i 0) w.length
theorem Xn{g:Nat→Int}:∀(n j:Nat),(∀i,0≤g i)→j<n→g j≤eh g n
 |0,j,_,h=>by omega
 |n+1,j,a,h=>by
  have c:∀m:Nat,0≤eh g m:=by
   intro m
   induction m with
   |zero=>exact Int.le_refl _
   |succ m d=>have:=a m;simp only[eh];omega
  simp only[eh]
  by_cases b:j=n
  ·subst b;have:=c j;omega
  ·have:=Xn n j a (by omega);have:=a n;omega
theorem vy{l:List Int}(c:1≤l.length)(n:l.length≤512):Good (dE l):=by
 have b:∀i,0≤(dE l).getD i 0∧(dE l).getD i 0≤1073741824:=by
  intro i
  by_cases d:i<l.length
  ·unfold dE;rw[kn _ d];exact aah _
  ·rw[bd,bv (by simp[dE];omega)];decide
 refine⟨by simp[dE];omega,b,?_⟩;obtain⟨j,h,k⟩:=acG (l:=l) l.length c;have a:=Xn (g:=fun i=>(dE l).getD i 0) (dE l).length j (fun i=>(b i).1) (by simp[dE];omega);have o:(dE l).getD j 0=1073741824:=by
  unfold dE;rw[kn _ h,k];unfold uC;rw[Int.sub_self,fu];exact Yh
 have a:(dE l).getD j 0≤eh (fun i=>(dE l).getD i 0) (dE l).length:=a;omega
theorem GQ{w:List Int}(a:Good w)(i:Nat):0≤eh (fun i=>w.getD i 0) i∧eh (fun i=>w.getD i 0) i≤i*1073741824:=
 wK i fun j _=>a.rng j
theorem Oj{n:Nat}{w:List Int}(a:Good w)(j:ii n):mF n w=some (eh (fun i=>w.getD i 0) w.length,0):=by
 rw[K8];have c:=a.len;have b:=aQ (L:=fun k i s=>iJ n k (s,w,(w.length:Int),i,())) (len:=w.length) (r:=Sum.inr (eh (fun i=>w.getD i 0) w.length,())) (fun i=>eh (fun i=>w.getD i 0) i) ?_ ?_ n (by omega)
 ·rw[show eh (fun i=>w.getD i 0) 0=0 from rfl]at b;rw[b];have l:=a.pos;simp only[aa,ea,ag,beq_iff_eq];rw[fu]
 ·intro k i d;show iJ n (k+1) _=_;rw[uh];simp only[ag,dU];have g:=a.rng i;have h:=GQ a i;rw[jO,aS d 0];simp only[aa];rw[fu,fu,bu,bu];rfl
 ·intro k;show iJ n (k+1) _=_;rw[uh,ag,if_neg (by simp)]
theorem Ok{n:Nat}{w:List Int}(a:Good w)(l:ii n):mM n w=some (eh (fun i=>w.getD i 0) w.length,true):=by
 rw[Lp];have c:=a.len;have b:=aQ (L:=fun k i s=>iN n k (w,s,i,())) (len:=w.length) (r:=Sum.inr (eh (fun i=>w.getD i 0) w.length,())) (fun i=>eh (fun i=>w.getD i 0) i) ?_ ?_ n (by omega)
 ·rw[show eh (fun i=>w.getD i 0) 0=0 from rfl]at b;rw[b];have g:=a.pos;simp only[aa,ea];rw[show decide (eh (fun i=>w.getD i 0) w.length>0)=true by simpa using g]
 ·intro k i d;show iN n (k+1) _=_;rw[uq];simp only[ag,dU];have h:=a.rng i;have j:=GQ a i;rw[jO,aS d 0];simp only[aa];rw[fu,fu,bu,bu];rfl
 ·intro k;show iN n (k+1) _=_;rw[uq,ag,if_neg (by simp)]
def qH(w v:List Int)(i:Nat):Int:=eh (fun i=>w.getD i 0*v.getD i 0) i
def uD(w v:List Int):Int:=ae .i8 ((2*qH w v w.length+eh (fun i=>w.getD i 0) w.length)/(2*eh (fun i=>w.getD i 0) w.length))
theorem SF{w v:List Int}(d:Good w)(c:aO v)(i:Nat): -137438953472≤w.getD i 0*v.getD i 0∧w.getD i 0*v.getD i 0≤137438953472:=by
 have g:=d.rng i;have h:=c.at i;have:=SD (a:=w.getD i 0) (b:=v.getD i 0) (m:=1073741824) (k:=128) (by omega) (by omega);omega
theorem GR{w v:List Int}(b:Good w)(a:aO v)(i:Nat): -(i*137438953472)≤qH w v i∧qH w v i≤i*137438953472:=
 Oa (by omega) (fun i=>SF b a i) i
theorem Yj{n:Nat}{w v:List Int}(a:Good w)(b:aO v)(p:w.length=v.length)(h:ii n):tK n (w,v)=some (uD w v,0):=by
 rw[NL];have d:=a.len;have q:=a.pos;have u:=GQ a w.length;simp only[ag,dU,bne_iff_ne,ne_eq];rw[fu,fu,Oj a h];simp only[aa];rw[if_neg (by simp)];have c:=aQ (L:=fun k i s=>jG n k (v,eh (fun i=>w.getD i 0) w.length,s,w,(w.length:Int),i,())) (len:=w.length) (r:=(eh (fun i=>w.getD i 0) w.length,qH w v w.length,())) (fun i=>qH w v i) ?_ ?_ n (by omega)
 ·rw[show qH w v 0=0 from rfl]at c;rw[c];have t:=GR a b w.length;simp only[aa];rw[bu (x:=2*qH w v w.length),bu (x:=2*qH w v w.length+_),bu (x:=2*eh (fun i=>w.getD i 0) w.length),Bn (by omega) (by omega) (by omega) (by omega)];rfl
 ·intro k i g;show jG n (k+1) _=_;rw[wz];simp only[ag,dU];have j:=SF a b i;have l:=GR a b i;have o:=b.at i;rw[jO,aS g 0,aS (show i<v.length by omega) 0];simp only[aa];rw[bu (x:=v.getD i 0),bu (x:=w.getD i 0*v.getD i 0),bu,bu];rfl
 ·intro k;show jG n (k+1) _=_;rw[wz,ag,if_neg (by simp)]
theorem Wo{n:Nat}{w v:List Int}(a:Good w)(b:aO v)(p:w.length=v.length)(h:ii n):re n (w,v)=some (uD w v,0):=by
 rw[Lq];have d:=a.len;have q:=a.pos;have u:=GQ a w.length;simp only[ag,dU,bne_iff_ne,ne_eq];rw[fu,fu,Ok a h];simp only[aa];rw[if_neg (by simp)];have c:=aQ (L:=fun k i s=>iO n k (w,v,eh (fun i=>w.getD i 0) w.length,s,i,())) (len:=w.length) (r:=(eh (fun i=>w.getD i 0) w.length,qH w v w.length,())) (fun i=>qH w v i) ?_ ?_ n (by omega)
 ·rw[show qH w v 0=0 from rfl]at c;rw[c];have t:=GR a b w.length;simp only[aa];rw[bu (x:=2*qH w v w.length),bu (x:=2*qH w v w.length+_),bu (x:=2*eh (fun i=>w.getD i 0) w.length),Bo (by omega) (by omega) (by omega) (by omega)];rfl
 ·intro k i g;show iO n (k+1) _=_;rw[ur];simp only[ag,dU];have j:=SF a b i;have l:=GR a b i;have o:=b.at i;rw[jO,aS g 0,aS (show i<v.length by omega) 0];simp only[aa];rw[bu (x:=v.getD i 0),bu (x:=w.getD i 0*v.getD i 0),bu,bu];rfl
 ·intro k;show iO n (k+1) _=_;rw[ur,ag,if_neg (by simp)]
structure Rows (rows:List (List Int)) (m:Nat):Prop where
 len:1≤rows.length∧rows.length≤512
 row:∀i,i<rows.length→(rows.getD i []).length=m
 all:∀i,aO (rows.getD i [])
def Ek(a:List (List Int))(c:Nat):List Int:=cM (fun i=>(a.getD i []).getD c 0) a.length
def El(w:List Int)(a:List (List Int))(m:Nat):List Int:=cM (fun c=>uD w (Ek a c)) m
theorem UG{a:List (List Int)}{m c:Nat}(h:Rows a m):aO (Ek a c):=by
 intro x b;obtain⟨i,d,rfl⟩:=fR b;exact(h.all i).at c
theorem Wp{n:Nat}{w:List Int}{a:List (List Int)}{m:Nat}(g:Good w)(d:Rows a m)(x:w.length=a.length)(hm:m≤1000000)(q:ii n):qV n (w,a)=some (El w a m,0):=by
 rw[K9];have p:=g.len;simp only[ag,dU,bne_iff_ne,ne_eq];rw[fu,fu];have h:idx a (0:Int)=some (a.getD 0 []):=by rw[show(0:Int)=((0:Nat):Int)from rfl,aS (by omega) []]
 have t:=aQ (L:=fun k i (_:Unit)=>iK n k (w,a,a,(a.length:Int),i,())) (len:=a.length) (r:=Sum.inr (w,a,())) (fun _=>()) ?_ ?_ n (by omega)
 ·rw[t];simp only[aa,ea];rw[Oj g q];simp only[aa];rw[if_neg (by simp),h];simp only[aa];rw[d.row 0 (by omega)];have j:=aQ (L:=fun k i o=>gQ n k (w,a,o,(m:Int),i,())) (len:=m) (r:=(El w a m,())) (fun i=>cM (fun c=>uD w (Ek a c)) i) ?_ ?_ n (by omega)
  ·rw[dD]at j;rw[j];rfl
  ·intro k c u;show gQ n (k+1) _=_;rw[sd];simp only[ag,dU];rw[jO];have l:=aQ (L:=fun k i o=>gR n k (w,a,cM (fun c=>uD w (Ek a c)) c,(c:Int),o,(m:Int),(c:Int),a,(a.length:Int),i,())) (len:=a.length) (r:=(w,a,cM (fun c=>uD w (Ek a c)) c,Ek a c,(m:Int),(c:Int),())) (fun i=>cM (fun i=>(a.getD i []).getD c 0) i) ?_ ?_ n (by omega)
   ·rw[dD]at l;rw[l];simp only[aa];rw[Yj g (UG d) (by simp[Ek];omega) q];simp only[aa];rw[dQ (fun c=>uD w (Ek a c)) (by unfold room;omega) (by unfold room;omega),bu];rfl
   ·intro k i b;show gR n (k+1) _=_;rw[se];simp only[ag,dU];rw[jO,aS b []];simp only[aa];rw[aS (show c<(a.getD i []).length by rw[d.row i b];exact u) 0];simp only[aa];rw[dQ (fun i=>(a.getD i []).getD c 0) (by unfold room;omega) (by unfold room;omega),bu];rfl
   ·intro k;show gR n (k+1) _=_;rw[se,ag,if_neg (by simp)];rfl
  ·intro k;show gQ n (k+1) _=_;rw[sd,ag,if_neg (by simp)];rfl
 ·intro k i b;show iK n (k+1) _=_;rw[ui];simp only[ag,dU,bne_iff_ne,ne_eq];rw[jO,aS b [],h];simp only[aa];rw[d.row i b,d.row 0 (by omega),if_neg (by simp),bu]
 ·intro k;show iK n (k+1) _=_;rw[ui,ag,if_neg (by simp)]
theorem UH{n:Nat}{w:List Int}{a:List (List Int)}{m:Nat}(h:Good w)(b:Rows a m)(x:w.length=a.length)(hm:m≤1000000)(q:ii n):oQ n (w,a)=some (El w a m,0):=by
 rw[IW];have p:=h.len;simp only[ag,dU,bne_iff_ne,ne_eq];rw[fu,fu];have g:idx a (0:Int)=some (a.getD 0 []):=by rw[show(0:Int)=((0:Nat):Int)from rfl,aS (by omega) []]
 have t:=aQ (L:=fun k i (_:Unit)=>gW n k (w,a,i,())) (len:=a.length) (r:=Sum.inr (w,a,())) (fun _=>()) ?_ ?_ n (by omega)
 ·rw[t];simp only[aa,ea];rw[Ok h q];simp only[aa];rw[if_neg (by simp)];have j:=aQ (L:=fun k i o=>gr n k (w,a,o,i,())) (len:=m) (r:=(El w a m,())) (fun i=>cM (fun c=>uD w (Ek a c)) i) ?_ ?_ n (by omega)
  ·rw[dD]at j;rw[j];rfl
  ·intro k c u;show gr n (k+1) _=_;rw[qE,g];simp only[ag,dU,aa];rw[b.row 0 (by omega),jO];have l:=aQ (L:=fun k i o=>gt n k (w,a,cM (fun c=>uD w (Ek a c)) c,(c:Int),o,i,())) (len:=a.length) (r:=(w,a,cM (fun c=>uD w (Ek a c)) c,(c:Int),Ek a c,())) (fun i=>cM (fun i=>(a.getD i []).getD c 0) i) ?_ ?_ n (by omega)
   ·rw[dD]at l;rw[l];simp only[aa];rw[Wo h (UG b) (by simp[Ek];omega) q];simp only[aa];rw[dQ (fun c=>uD w (Ek a c)) (by unfold room;omega) (by unfold room;omega),bu];rfl
   ·intro k i d;show gt n (k+1) _=_;rw[qF];simp only[ag,dU];rw[jO,aS d []];simp only[aa];rw[aS (show c<(a.getD i []).length by rw[b.row i d];exact u) 0];simp only[aa];rw[dQ (fun i=>(a.getD i []).getD c 0) (by unfold room;omega) (by unfold room;omega),bu];rfl
   ·intro k;show gt n (k+1) _=_;rw[qF,ag,if_neg (by simp)];rfl
  ·intro k;show gr n (k+1) _=_;rw[qE,g];simp only[aa];rw[b.row 0 (by omega),ag,if_neg (by simp)];rfl
 ·intro k i d;show gW n (k+1) _=_;rw[sx];simp only[ag,dU,bne_iff_ne,ne_eq];rw[jO,aS d [],g];simp only[aa];rw[b.row i d,b.row 0 (by omega),if_neg (by simp),bu]
 ·intro k;show gW n (k+1) _=_;rw[sx,ag,if_neg (by simp)]
end Go.Am.Pu
