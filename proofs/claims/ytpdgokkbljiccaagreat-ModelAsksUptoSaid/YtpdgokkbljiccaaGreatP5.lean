import Derived.Test.YtpdgokkbljiccaaGreatP4
import Derived.Test.YtpdgokkbljiccaaGreatA4
set_option linter.unusedVariables false
set_option linter.unusedSimpArgs false
open Bool renaming not_true→cD,or_eq_true→dr
open Int renaming mul_le_mul_of_nonneg_right→dA,toNat_natCast→aH
open Go.IntKind renaming bits→cj,wrap→ae
open List renaming getElem?_eq_getElem→ai,getElem_mem→ap,getElem_of_mem→cZ,length_append→aE,length_map→aci,length_nil→cH,length_take→aR,nil_append→ct,replicate→aY,take_of_length_le→bp,take_zero→abZ
open Nat renaming le_refl→av,mul_le_mul→aT,zero_add→b9
open Option renaming bind_some→aa
namespace Go.Am.Pu
open Go Go.Am
def Dv(e:List Int)(D p E:Nat):List Int:=cM (fun i=>(dh e D p).getD i 0*2^E) D
theorem Vc{x:Int}{E:Nat}(j:E≤24)(k: -128≤x)(d:x≤127): -2147483648≤x*2^E∧x*2^E≤2147483648:=by
 have a:(2:Int)^E≤16777216:=by
  have:(2:Nat)^E≤2^24:=Nat.pow_le_pow_right (by omega) j;have h:((2^E:Nat):Int)≤((2^24:Nat):Int):=by exact_mod_cast this
  simpa using h
 have b:(0:Int)≤2^E:=Int.le_of_lt (Int.pow_pos (by decide))
 by_cases c:0≤x
 ·have:=Int.mul_le_mul d a b (by omega);have:=Int.mul_nonneg c b;omega
 ·have g:=Int.mul_le_mul (show -x≤128 by omega) a b (by omega);have i:=Int.mul_nonneg (show 0≤-x by omega) b;rw[Int.neg_mul]at g i;omega
theorem aen{n:Nat}(d:10≤n){a:List Int}(h:a.length≤1048576):iH n [a]=some 0:=by
 obtain⟨k,rfl⟩:∃k,n=k+4:=⟨n -4,by omega⟩;have b:idx [a] (0:Int)=some a:=rfl;have d1:ae .i64 ((0:Int)+1)=1:=bu (by decide) (by decide);have c:((([a]:List (List Int)).length:Nat):Int)=1:=rfl;rw[ud,c];rw[fK,ag,if_pos (by decide),b];simp only[aa];rw[Sx,d1,fK,ag,if_neg (by decide)];simp only[aa,ea];rw[c,fL,ag,if_pos (by decide),b];simp only[aa,bne_self_eq_false,jT];rw[d1,fL,ag,if_neg (by decide)];rfl
theorem Yx{n:Nat}(u:ii n){l:List Int}{E:Nat}(p:E≤24)(r:l.length≤1048576)(o:aO l):tE n (l,(E:Int))=some (cM (fun i=>l.getD i 0*2^E) l.length,0):=by
 rw[NH,aen (by omega) r];simp only[aa];rw[show((0:Int)!=0)=false from rfl,jT,Es];simp only[aa];rw[ag,if_neg (by rw[dr,dU,dU];omega),zO (m:=l.length) rfl (by omega) (by omega)];simp only[aa];have c:∀(m k i:Nat),i+m=l.length→m<k→oB n k ((E:Int),(),l,(l.length:Int),(i:Int),cM (fun i=>l.getD i 0*2^E) i++aY m 0,())=some ((),cM (fun i=>l.getD i 0*2^E) l.length,()):=by
  intro m
  induction m with
  |zero=>
   intro k i g j;obtain⟨k,rfl⟩:=YF k;have:i=l.length:=by omega
   subst this;rw[wv,ag,if_neg (by simp)];simp
  |succ m t=>
   intro k i g j;obtain⟨k,rfl⟩:=YF k;have q:i<l.length:=by omega
   have d: -128≤l.getD i 0∧l.getD i 0≤127:=o.at i;have w:=Vc p d.1 d.2;have a:(cM (fun i=>l.getD i 0*2^E) i).length=i:=by simp
   rw[wv,xY,kq q];simp only[aa];rw[bu (x:=l.getD i 0)];have e:Dx .i64 (l.getD i 0) (E:Int)=some (l.getD i 0*2^E):=by
    unfold Dx;rw[fu,aH,show min E (cj .i64)=E by show min E 64=E;omega,bu]
   rw[e];simp only[aa];rw[wX (by rw[aE,a,List.length_replicate];omega)];simp only[aa];rw[ai (by rw[aE,a,List.length_replicate];omega)];simp only[aa];have b:(cM (fun i=>l.getD i 0*2^E) i++aY (m+1) (0:Int)).set i (l.getD i 0*2^E)=cM (fun i=>l.getD i 0*2^E) (i+1)++aY m 0:=by
    rw[List.replicate_succ,aem a.symm,sJ];simp
   rw[b,bu,show(i:Int)+1=((i+1:Nat):Int)by omega];exact t k (i+1) (by omega) (by omega)
 have h:=c l.length n 0 (by omega) (by omega);rw[show((0:Nat):Int)=0 from rfl,dD,ct]at h;rw[h];rfl
theorem Vd{n:Nat}(o:ii n){l:List Int}{E:Nat}(c:E≤24)(g:l.length≤1048576)(b:aO l):k0 n (l,(E:Int))=some (cM (fun i=>l.getD i 0*2^E) l.length,0):=by
 rw[IL,Sx,Es];simp only[aa];rw[ag,if_neg (by rw[dr,dU,dU];omega)];have h:=aQ (L:=fun k j s=>gU n k ((E:Int),s,l,(l.length:Int),j,())) (len:=l.length) (r:=(cM (fun i=>l.getD i 0*2^E) l.length,())) (fun i=>cM (fun i=>l.getD i 0*2^E) i) (by
  intro k i d;have a: -128≤l.getD i 0∧l.getD i 0≤127:=b.at i;have q:=Vc c a.1 a.2;have p:=nA (s:=E) (by omega);show gU n (k+1) _=_;rw[sr,xY,kq d];simp only[aa];have e:Dx .i64 1 (ae .u64 (E:Int))=some (2^E):=by
   rw[ab2,Int.emod_eq_of_lt (by omega) (by omega)];unfold Dx;rw[fu,aH,show min E (cj .i64)=E by show min E 64=E;omega,Int.one_mul,bu]
  rw[e];simp only[aa];rw[bu (x:=l.getD i 0),bu (x:=l.getD i 0*2^E)];rw[dQ (fun i=>l.getD i 0*2^E) (by unfold room;omega) (by unfold room;omega)];simp only[aa];rw[bu]) (by
  intro k;show gU n (k+1) _=_;rw[sr,ag,if_neg (by simp)]) n (by omega)
 rw[dD]at h;rw[h];rfl
theorem He{e:List Int}{V D:Nat}(a:e.length=V*D)(g:V*D≤1048576)(d:1≤D):zy e (D:Int)=0∧e.length/D=V∧e.length % D=0:=by
 have c:e.length % D=0:=by rw[a];exact Nat.mul_mod_left _ _
 have b:e.length/D=V:=by rw[a];exact Nat.mul_div_cancel _ (by omega)
 refine⟨?_,b,c⟩;unfold zy;rw[fu,fu]
theorem acd{n:Nat}{e:List Int}{V D t:Nat}(o:e.length=V*D)(l:V*D≤1048576)(k:1≤D)(d:D≤64)(q:t<V)(p:V≤512):BO n (e,(D:Int),(t:Int))=some (dh e D t,0):=by
 obtain⟨i,j,c⟩:=He o l k;have h:=BQ c (show t<e.length/D by omega);have g:=nD c (show t<e.length/D by omega);have r:t*D≤512*64:=aT (by omega) d;rw[RV,Ei,i];simp only[aa];rw[show((0:Int)!=0)=false from rfl,jT,LK (by omega) (by rw[wQ];have:=Int.ediv_le_self (a:=(e.length:Int)) (D:Int) (by omega);have:=Int.ediv_nonneg (a:=(e.length:Int)) (b:=(D:Int)) (by omega) (by omega);omega) (by rw[wQ];have:=Int.ediv_le_self (a:=(e.length:Int)) (D:Int) (by omega);omega),wQ];simp only[aa];rw[show(e.length:Int)/(D:Int)=(V:Int)by rw[←j];simp,Es];simp only[aa];rw[ag,if_neg (by rw[dr,dU,dU];omega)];rw[bu (x:=(t:Int)+1),show(t:Int)*(D:Int)=((t*D:Nat):Int)by simp,show((t:Int)+1)*(D:Int)=((t*D:Nat):Int)+(D:Int)by rw[Int.add_mul];simp,bu,bu,Ma c (by omega)];simp only[aa];rw[hA (by rw[g];simp;omega) (by omega)];rfl
theorem Yy{n:Nat}{e:List Int}{V D t:Nat}(l:e.length=V*D)(k:V*D≤1048576)(j:1≤D)(c:D≤64)(p:t<V)(o:V≤512):ph n (e,(D:Int),(t:Int))=some (dh e D t,0):=by
 obtain⟨h,i,d⟩:=He l k j;have g:=BQ d (show t<e.length/D by omega);have q:t*D≤512*64:=aT (by omega) c;rw[NQ,x4,h];simp only[aa];rw[show((0:Int)!=0)=false from rfl,jT,LK (by omega) (by rw[wQ];have:=Int.ediv_le_self (a:=(e.length:Int)) (D:Int) (by omega);have:=Int.ediv_nonneg (a:=(e.length:Int)) (b:=(D:Int)) (by omega) (by omega);omega) (by rw[wQ];have:=Int.ediv_le_self (a:=(e.length:Int)) (D:Int) (by omega);omega),wQ];simp only[aa];rw[show(e.length:Int)/(D:Int)=(V:Int)by rw[←i];simp,Es];simp only[aa];rw[ag,if_neg (by rw[dr,dU,dU];omega)];rw[show(t:Int)*(D:Int)=((t*D:Nat):Int)by simp,bu,bu,Ma d (by omega)];rfl
structure WN (m:Mod):Prop where
 o:acc m
 cos:aO m.2.2.2.2.1
 sin:aO m.2.2.2.2.2.1
 be:aO m.2.2.2.2.2.2.2.1
 g:aO m.2.2.2.2.2.2.2.2.1
 u:aO m.2.2.2.2.2.2.2.2.2.1
def pK(m:Mod):En:=(m.1.2.2.2.1,m.2.2.2.2.1,m.2.2.2.2.2.1,m.2.2.2.2.2.2.2.1)
def P1(m:Mod)(l:List Int):Prop:=∀t∈l,0≤t∧t<m.1.1
def Vs(m:Mod)(l:List Int):List (List Int):=l.map fun t=>Dv m.2.2.1 m.1.2.2.1.toNat t.toNat m.2.2.2.1.toNat
noncomputable def lw(m:Mod)(l:List Int):Nat→List (List Int)
 |0=>Vs m l
 |i+1=>match m.2.2.2.2.2.2.1[i]? with
  |some b=>(sO b (pK m) (lw m l i) []).1
  |none=>lw m l i
def InR(D:Nat)(R:Int)(a:List (List Int)):Prop:=∀x∈a,x.length=D∧∀y∈x,-R≤y∧y≤R
noncomputable def OH(m:Mod)(x:List Int):List Int:=(fG (gN m.2.2.2.2.2.2.2.2.2.1 m.1.2.2.1 (i2 x m.2.2.2.2.2.2.2.2.1).1).1 m.2.2.2.2.2.2.2.2.2.2).1
structure zB (m:Mod) (D H half C Hd V L E:Nat):Prop where
 r:qd m D H half C Hd V L E
 ok:WN m
 mx:∀x∈ig m,x≤268435456
theorem ace{m:Mod}(h:WN m)(a:Eu m):∃D H half C Hd V L E,zB m D H half C Hd V L E:=by
 obtain⟨D,H,half,C,Hd,V,L,E,b⟩:=WM h.o a.1;exact⟨D,H,half,C,Hd,V,L,E,b,h,a.2⟩
theorem zB.frm{m:Mod}{D H half C Hd V L E:Nat}(h:zB m D H half C Hd V L E):Q6 H half C (pK m)∧Yp (pK m):=by
 have a:=h.r.ok;have i:=h.r.lm;exact⟨⟨a.h,a.cos,a.sin,a.be⟩,⟨h.ok.cos,h.ok.sin,h.ok.be,by show m.2.2.2.2.1.length≤_;have:=i.c;omega,by show m.2.2.2.2.2.1.length≤_;have:=i.si;omega⟩⟩
theorem zB.row{m:Mod}{D H half C Hd V L E:Nat}(h:zB m D H half C Hd V L E){t:Int}(T:0≤t∧t<m.1.1):∃p:Nat,t=(p:Int)∧p<V∧(dh m.2.2.1 D p).length=D∧aO (dh m.2.2.1 D p)∧Dv m.2.2.1 m.1.2.2.1.toNat t.toNat m.2.2.2.1.toNat=cM (fun i=>(dh m.2.2.1 D p).getD i 0*2^E) D∧
  (∀y∈cM (fun i=>(dh m.2.2.1 D p).getD i 0*2^E) D,-(eK m.2.2.1*2^E)≤y∧y≤eK m.2.2.1*2^E):=by
 have U:=h.r.ok.v;have N:=h.r.ok.e;have hd:=h.r.ok.d;have Q:=h.r.ok.kp.pos;have g1:=h.r.ok.kp.dm;have w:=h.r.ok.v2;have m1:V*D≤512*64:=aT w.2 g1;obtain⟨R,S,x⟩:=He N (by omega) (by omega);refine⟨t.toNat,by omega,by omega,nD x (by omega),h.r.e8.sub _ _,?_,?_⟩
 ·unfold Dv;rw[hd,h.r.es,aH,aH]
 ·intro y P;obtain⟨i,K,rfl⟩:=cZ P;have j:i<D:=by simpa using K
  have J:=kn (fun i=>(dh m.2.2.1 D t.toNat).getD i 0*2^E) j 0;rw[dy K]at J;rw[J];have O:=nD x (show t.toNat<m.2.2.1.length/D by omega);have hm:(dh m.2.2.1 D t.toNat).getD i 0∈m.2.2.1:=by
   rw[dy (by omega)];have:=ap (show i<(dh m.2.2.1 D t.toNat).length by omega);unfold dh at this;exact List.mem_of_mem_drop (List.mem_of_mem_take this)
  have I:=(wP h.r.e8).2.2 _ hm;have M:(0:Int)≤2^E:=Int.le_of_lt (Int.pow_pos (by decide));have a:=dA I.1 M;have b:=dA I.2 M;rw[Int.neg_mul]at a;exact⟨a,b⟩
theorem zB.rows{m:Mod}{D H half C Hd V L E:Nat}(h:zB m D H half C Hd V L E){l:List Int}(hl:P1 m l)(hlc:l.length≤C):∀i,i≤L→(lw m l i).length=l.length∧InR D ((ig m).getD (2*i) 0) (lw m l i)∧0≤(ig m).getD (2*i) 0∧(ig m).getD (2*i) 0≤268435456∧
  (∀(j:i<m.2.2.2.2.2.2.1.length),(sO m.2.2.2.2.2.2.1[i] (pK m) (lw m l i) []).2.2=0∧lw m l (i+1)=(sO m.2.2.2.2.2.2.1[i] (pK m) (lw m l i) []).1):=by
 have Q:=h.r.ok.bs;have hr:=h.r.rch (i:=m.2.2.2.2.2.2.1.length) (av _);rw[←h.r.eq,Q]at hr;have X:=hr.len;have hd:=h.r.ok.kp;have S:=h.frm;have M:=wP h.r.e8;have K:(ig m).getD 0 0=eK m.2.2.1*2^E:=hr.f0;have R:=BW M.1 M.2.1 h.r.el;have I:∀i,i<(ig m).length→(ig m).getD i 0≤268435456:=fun i j=>by rw[dy j];exact h.mx _ (ap j)
 have y:∀i,i<L→(lw m l i).length=l.length→InR D ((ig m).getD (2*i) 0) (lw m l i)→0≤(ig m).getD (2*i) 0→∀(j:i<m.2.2.2.2.2.2.1.length),(sO m.2.2.2.2.2.2.1[i] (pK m) (lw m l i) []).2.2=0∧(sO m.2.2.2.2.2.2.1[i] (pK m) (lw m l i) []).1.length=l.length∧InR D ((ig m).getD (2*(i+1)) 0) (sO m.2.2.2.2.2.2.1[i] (pK m) (lw m l i) []).1∧0≤(ig m).getD (2*(i+1)) 0:=by
  intro i T h1 h2 h3 j;obtain⟨a,d,g1,g2,g3⟩:=hr.st i j T;have a0:=g1.a0;have d0:=g1.c0;have hm2:=I (2*i+2) (by omega);have J:(ig m).getD (2*i) 0+a+d=(ig m).getD (2*i+2) 0:=by omega
  have P:=ap j;obtain⟨r,p1,p2,p3⟩:=ab7 hd (h.r.ok.b _ P) S.1 h3 a0 d0 (by omega) g1.o g1.d (lw m l i) [] [] h2 (by simp;omega) (fun p w=>by cases w) (fun p w=>by cases w);rw[J]at p3;obtain⟨l1,l2,-⟩:=Eo p1;simp only[cH,b9]at l1 l2;have hI:sO m.2.2.2.2.2.2.1[i] (pK m) (lw m l i) []=(r.2,r.1,0):=by unfold sO;rw[p1];rfl
  rw[hI];rw[show 2*(i+1)=2*i+2 by omega];exact⟨rfl,by show r.2.length=_;omega,p3,by omega⟩
 have succ:∀i (j:i<m.2.2.2.2.2.2.1.length),lw m l (i+1)=(sO m.2.2.2.2.2.2.1[i] (pK m) (lw m l i) []).1:=by
  intro i j;show(match m.2.2.2.2.2.2.1[i]? with |some b=>_ |none=>_)=_;rw[ai j]
 intro i
 induction i with
 |zero=>
  intro _;have Y:(lw m l 0).length=l.length:=by show(Vs m l).length=_;unfold Vs;simp
  have O:InR D ((ig m).getD (2*0) 0) (lw m l 0):=by
   intro x hx;obtain⟨t,ht,rfl⟩:=List.mem_map.1 hx;obtain⟨p,q1,q2,q3,q4,q5,q6⟩:=h.row (hl t ht);rw[q5,Nat.mul_zero,K];exact⟨by simp,q6⟩
  have W:0≤(ig m).getD (2*0) 0:=by rw[Nat.mul_zero,K];exact R.1
  refine⟨Y,O,W,I _ (by omega),fun j=> ?_⟩;have w:=y 0 (by omega) Y O W j;exact⟨w.1,succ 0 j⟩
 |succ i ih=>
  intro j;obtain⟨b1,b2,b3,b4,b5⟩:=ih (by omega);have w:=y i (by omega) b1 b2 b3 (by omega);have hs:=succ i (by omega);rw[←hs]at w;refine⟨w.2.1,w.2.2.1,w.2.2.2,I _ (by omega),fun N=> ?_⟩;have U:=y (i+1) (by omega) w.2.1 w.2.2.1 w.2.2.2 N;exact⟨U.1,succ (i+1) N⟩
theorem zB.sc{m:Mod}{D H half C Hd V L E:Nat}(h:zB m D H half C Hd V L E){x:List Int}(W:x.length=D)(hr:∀y∈x,-268435456≤y∧y≤268435456){n:Nat}(I:ii n):(OH m x).length=V∧(∀y∈OH m x,-1040384≤y∧y≤1040384)∧
  eQ n ((m,pK m),x)=some (OH m x)∧iS n (m,x)=some (OH m x):=by
 have hd:=h.r.ok.kp;have g1:=hd.dm;have S:=hd.pos;have O:=h.r.ok.v2;have m1:V*D≤512*64:=aT O.2 g1;have T:=h.r.ok.g;have P:=h.r.ok.u;have p:=h.r.ok.ls;have K:=h.r.ok.d;obtain⟨r1,r2⟩:=Md (x:=x) (dZ:=m.2.2.2.2.2.2.2.2.1) (by omega) (by omega) (by omega) hr;obtain⟨t1,t2,t3,t4⟩:=Er (w:=m.2.2.2.2.2.2.2.2.2.1) (o:=(i2 x m.2.2.2.2.2.2.2.2.1).1) (s:=m.2.2.2.2.2.2.2.2.2.2) (a:=1040384) (r:=V) (c:=D) P (by omega) (by omega) (by omega) jA p.1 p.2 (by
  intro j U;obtain⟨X,Y,R⟩:=He P (by omega) (show 1≤D by omega);have M:=nD R (show j<m.2.2.2.2.2.2.2.2.2.1.length/D by omega);have N:=Q3 (l:=dh m.2.2.2.2.2.2.2.2.2.1 D j) (h.ok.u.sub _ _);rw[M]at N;have Q:=UQ (x:=127*ei (dh m.2.2.2.2.2.2.2.2.2.1 D j)) (s:=m.2.2.2.2.2.2.2.2.2.2) (by omega) p.1 (by omega);omega)
 have i:OH m x=(fG (gN m.2.2.2.2.2.2.2.2.2.1 (D:Int) (i2 x m.2.2.2.2.2.2.2.2.1).1).1 m.2.2.2.2.2.2.2.2.2.2).1:=by unfold OH;rw[K]
 have J:eJ (gN m.2.2.2.2.2.2.2.2.2.1 (D:Int) (i2 x m.2.2.2.2.2.2.2.2.1).1).1:=gF h.ok.u jA.aO;refine⟨by rw[i];exact t3,by rw[i];exact t4,?_,?_⟩
 ·rw[zw,GP h.ok.g I];simp only[aa];rw[K,wJ h.ok.u jA.aO (by omega) I];simp only[aa];rw[BR J I];simp only[aa];rw[i]
 ·rw[Gw,BS h.ok.g I];simp only[aa];rw[K,pI h.ok.u jA.aO I];simp only[aa];rw[uA J I];simp only[aa];rw[i]
noncomputable def Bx(m:Mod)(l:List Int):List Int:=OH m ((lw m l m.2.2.2.2.2.2.1.length).getD (l.length -1) [])
theorem Mg{α β:Type}{l:List α}{f:α→β}{i:Nat}(a:i<l.length):(l.map f).take (i+1)=(l.map f).take i++[f l[i]]:=by
 rw[List.take_add_one,ai (by rw[aci];exact a)];simp
theorem acf{m:Mod}{D H half C Hd V L E:Nat}(h:zB m D H half C Hd V L E){n:Nat}{l:List Int}(k:P1 m l)(o:ii n):∀t∈l,lA n ((m,pK m),t)=some (Dv m.2.2.1 m.1.2.2.1.toNat t.toNat m.2.2.2.1.toNat):=by
 have b:=h.r.ok;have g1:=b.kp.dm;have y:=b.kp.pos;have c:=b.v2;have g:=b.d;have a:=h.r.es;have z:V*D≤512*64:=aT c.2 g1;intro t q;obtain⟨p,i,u,w,x,j,B⟩:=h.row (k t q);rw[D0];simp only;rw[g,i,acd b.e (by omega) (by omega) g1 u c.2];simp only[aa];rw[a,Yx o h.r.el (by omega) x,w];rw[g,i,a]at j;rw[j];rfl
theorem Ja{n:Nat}{m:Mod}{D H half C Hd V L E:Nat}(h:zB m D H half C Hd V L E){l:List Int}(N:P1 m l)(J:l.length≤C)(O:ii n):∃pr,cG n ((m,pK m),l,())=some (lw m l L,pr):=by
 have o:=h.r.ok;have F:=o.kp;have W:=F.cm;have g1:=F.dm;have g3:=F.pos;have K:=o.v2;have B:=o.bs;have Y:=o.l8;have hC:=o.c;have hV:=o.v;have hD:=o.d;have X:=h.r.es;have m1:V*D≤512*64:=aT K.2 g1;have a:=h.rows N J;have I:=h.frm;have w:=acf h (n:=n) N O;have g:∀i,i≤L→∀x∈lw m l i,eJ x∧x.length≤1000000000:=by
  intro i b x hx;obtain⟨P,M,Q,R,-⟩:=a i b;obtain⟨u1,u2⟩:=M x hx;exact⟨fun y hy=>by have:=u2 y hy;omega,by omega⟩
 rw[jV];have u:=aQ (L:=fun k j s=>bD n k ((m,pK m),(),s,l,(l.length:Int),j,())) (len:=l.length) (r:=((m,pK m),(),Vs m l,())) (fun i=>(Vs m l).take i) (by
  intro k i b;show bD n (k+1) _=_;rw[eH,xY,cO b];simp only[aa];rw[w _ (ap b)];simp only[aa];rw[hA (by rw[aR];simp;omega) (by omega)];simp only[aa];rw[bu];have e:(Vs m l).take i++[Dv m.2.2.1 m.1.2.2.1.toNat l[i].toNat m.2.2.2.1.toNat]=(Vs m l).take (i+1):=(Mg (f:=fun t:Int=>Dv m.2.2.1 m.1.2.2.1.toNat t.toNat m.2.2.2.1.toNat) b).symm;rw[e]) (by
  intro k;show bD n (k+1) _=_;rw[eH,ag,if_neg (by simp),bp (by unfold Vs;simp)]) n (by omega)
 rw[abZ]at u;rw[u];simp only[aa];obtain⟨q,z,U⟩:=aau (L:=fun k j s=>bE n k ((m,pK m),(),s.1,s.2,m.2.2.2.2.2.2.1,(m.2.2.2.2.2.2.1.length:Int),j,())) (len:=m.2.2.2.2.2.2.1.length) (fun i s=>s.1=lw m l i∧s.2.length=i) (fun q=>q.1=lw m l L) (by
  intro k i s b ⟨u,z⟩;right;obtain⟨P,M,Q,R,S⟩:=a i (by omega);obtain⟨c1,T⟩:=S b;show ∃s',bE n (k+1) _=_∧_;rw[eI,xY,cO b];simp only[aa];rw[B6];simp only[aa];rw[u,WA (h.r.b8 _ (ap b)) I.2 (g i (by omega)) (fun p Z=>by cases Z) (by simp;omega) O];simp only[aa];rw[hA (by simp;omega) (by omega)];simp only[aa];rw[bu];exact⟨((sO m.2.2.2.2.2.2.1[i] (pK m) (lw m l i) []).1,s.2++[(sO m.2.2.2.2.2.2.1[i] (pK m) (lw m l i) []).2.1]),rfl,T.symm,by simp;omega⟩) (by
  intro k s ⟨u,z⟩;show ∃r,bE n (k+1) _=some r∧_;rw[eI,ag,if_neg (by simp)];exact⟨_,rfl,by rw[←B];exact u⟩) n (Vs m l,[]) (by omega) ⟨rfl,rfl⟩
 rw[z];simp only[aa];exact⟨q.2.1,by rw[U]⟩
theorem P2{n:Nat}{m:Mod}{D H half C Hd V L E:Nat}(h:zB m D H half C Hd V L E){l:List Int}(z:P1 m l)(g:l.length≤C)(B:ii n):∃o,cV n ((m,pK m),l,())=some ((lw m l L).map (OH m),o):=by
 have a:=h.r.ok;have p:=a.kp;have J:=p.cm;have g1:=p.dm;have W:=p.pos;have u:=a.v2;have I:=a.bs;have N:=a.l8;have X:=a.c;have Z:=a.v;have Y:=a.d;have K:=h.r.es;have m1:V*D≤512*64:=aT u.2 g1;have b:=h.rows z g;have M:=h.frm;obtain⟨S,F,T,U,-⟩:=b L (av _);have t:∀x∈lw m l L,(OH m x).length=V∧(∀y∈OH m x,-1040384≤y∧y≤1040384)∧eQ n ((m,pK m),x)=some (OH m x)∧iS n (m,x)=some (OH m x):=by
  intro x O;obtain⟨Q,R⟩:=F x O;exact h.sc Q (fun y P=>by have:=R y P;omega) B
 obtain⟨o,t1⟩:=Ja h z g B;rw[kL,t1];simp only[aa];have w:=aQ (L:=fun k j s=>bL n k ((m,pK m),o,s,lw m l L,(((lw m l L).length:Nat):Int),j,())) (len:=(lw m l L).length) (r:=(o,(lw m l L).map (OH m),())) (fun i=>((lw m l L).map (OH m)).take i) (by
  intro k i q;show bL n (k+1) _=_;rw[fr,xY,cO q];simp only[aa];rw[(t _ (ap q)).2.2.1];simp only[aa];rw[hA (by rw[aR];simp;omega) (by omega)];simp only[aa];rw[bu,←Mg q]) (by
  intro k;show bL n (k+1) _=_;rw[fr,ag,if_neg (by simp),bp (by simp)]) n (by omega)
 rw[abZ]at w;rw[w];exact⟨_,rfl⟩
theorem OJ{n:Nat}{m:Mod}{D H half C Hd V L E:Nat}(h:zB m D H half C Hd V L E){l:List Int}(Q:P1 m l)(J:l.length≤C)(R:ii n):mP n (m,l)=some (cM (lw m l) (L+1)):=by
 have o:=h.r.ok;have F:=o.kp;have hcm:=F.cm;have g1:=F.dm;have g3:=F.pos;have u:=o.v2;have B:=o.bs;have hl8:=o.l8;have hC:=o.c;have hV:=o.v;have P:=o.d;have q:=h.r.es;have m1:V*D≤512*64:=aT u.2 g1;have a:=h.rows Q J;have I:=h.frm;have w:∀t∈l,((ph n (m.2.2.1,(m.1.2.2.1,t)))).bind (fun U=>((k0 n (U.1,m.2.2.2.1))).bind fun K=>some K.1)=some (Dv m.2.2.1 m.1.2.2.1.toNat t.toNat m.2.2.2.1.toNat):=by
  intro t ht;obtain⟨p,S,q2,q3,q4,T,q6⟩:=h.row (Q t ht);rw[P,S,Yy o.e (by omega) (by omega) g1 q2 u.2];simp only[aa];rw[q,Vd R h.r.el (by omega) q4,q3];rw[P,S,q]at T;rw[T];rfl
 have g:∀i,i≤L→∀x∈lw m l i,eJ x∧x.length≤1000000000:=by
  intro i b x hx;obtain⟨W,N,X,Y,-⟩:=a i b;obtain⟨u1,u2⟩:=N x hx;exact⟨fun y hy=>by have:=u2 y hy;omega,by omega⟩
 rw[Lv];have O:=aQ (L:=fun k j s=>iR n k (l,(),s,j,m,())) (len:=l.length) (r:=((),Vs m l,m,())) (fun i=>(Vs m l).take i) (by
  intro k i b;show iR n (k+1) _=_;rw[uw,xY,cO b];simp only[aa];obtain⟨U,w1,w2⟩:=Option.bind_eq_some_iff.1 (w _ (ap b));obtain⟨K,w3,M⟩:=Option.bind_eq_some_iff.1 w2;have M:K.1=Dv m.2.2.1 m.1.2.2.1.toNat l[i].toNat m.2.2.2.1.toNat:=Option.some.inj M;rw[w1];simp only[aa];rw[w3];simp only[aa];rw[M,hA (by rw[aR];simp;omega) (by omega)];simp only[aa];rw[bu];have e:(Vs m l).take i++[Dv m.2.2.1 m.1.2.2.1.toNat l[i].toNat m.2.2.2.1.toNat]=(Vs m l).take (i+1):=(Mg (f:=fun t:Int=>Dv m.2.2.1 m.1.2.2.1.toNat t.toNat m.2.2.2.1.toNat) b).symm;rw[e]) (by
  intro k;show iR n (k+1) _=_;rw[uw,ag,if_neg (by simp),bp (by unfold Vs;simp)]) n (by omega)
 rw[abZ]at O;rw[O];simp only[aa];have z:=aQ (L:=fun k j s=>gY n k ((),s.1,s.2,j,m,())) (len:=m.2.2.2.2.2.2.1.length) (r:=(cM (lw m l) (L+1),())) (fun i=>(lw m l i,cM (lw m l) (i+1))) (by
  intro k i b;obtain⟨W,N,X,Y,Z⟩:=a i (by omega);obtain⟨c1,c2⟩:=Z b;show gY n (k+1) _=_;rw[sB,xY,cO b];simp only[aa];rw[IM];simp only[aa];rw[show((m.1.2.2.2.1,m.2.2.2.2.1,m.2.2.2.2.2.1,m.2.2.2.2.2.2.2.1):En)=pK m from rfl,WB (h.r.b8 _ (ap b)) I.2 (g i (by omega)) (fun p hp=>by cases hp) (by simp;omega) R];simp only[aa];rw[←c2,dQ (lw m l) (by unfold room;omega) (by unfold room;omega)];simp only[aa];rw[bu]) (by
  intro k;show gY n (k+1) _=_;rw[sB,ag,if_neg (by simp),B]) n (by omega)
 have e0:cM (lw m l) (0+1)=[Vs m l]:=rfl;rw[e0]at z;have e1:lw m l 0=Vs m l:=rfl;rw[e1]at z;rw[z];rfl
theorem Yz{n:Nat}{m:Mod}{D H half C Hd V L E:Nat}(h:zB m D H half C Hd V L E){l:List Int}(w:P1 m l)(g:l.length≤C)(z:ii n):tT n (m,l)=some ((lw m l L).map (OH m)):=by
 have a:=h.r.ok;have o:=a.kp;have I:=o.cm;have g1:=o.dm;have U:=o.pos;have t:=a.v2;have F:=a.bs;have M:=a.l8;have W:=a.c;have Y:=a.v;have X:=a.d;have J:=h.r.es;have Z:V*D≤512*64:=aT t.2 g1;have b:=h.rows w g;have K:=h.frm;obtain⟨R,B,S,T,-⟩:=b L (av _);have q:∀x∈lw m l L,(OH m x).length=V∧(∀y∈OH m x,-1040384≤y∧y≤1040384)∧eQ n ((m,pK m),x)=some (OH m x)∧iS n (m,x)=some (OH m x):=by
  intro x N;obtain⟨P,Q⟩:=B x N;exact h.sc P (fun y O=>by have:=Q y O;omega) z
 rw[NY,OJ h w g z];simp only[aa,xZ];rw[bu,show((L+1:Nat):Int) -1=(L:Int)by omega,Bu (show L<(cM (lw m l) (L+1)).length by simp) [],kn _ (by omega)];simp only[aa];have u:=aQ (L:=fun k j s=>jM n k ((),lw m l L,s,j,m,())) (len:=(lw m l L).length) (r:=((lw m l L).map (OH m),())) (fun i=>((lw m l L).map (OH m)).take i) (by
  intro k i p;show jM n (k+1) _=_;rw[wE,xY,cO p];simp only[aa];rw[(q _ (ap p)).2.2.2];simp only[aa];rw[hA (by rw[aR];simp;omega) (by omega)];simp only[aa];rw[bu,←Mg p]) (by
  intro k;show jM n (k+1) _=_;rw[wE,ag,if_neg (by simp),bp (by simp)]) n (by omega)
 rw[abZ]at u;rw[u];rfl
def Hf(C V:Nat)(l:List Int):Int:=if l.length=0∨C<l.length then 212 else if ∀t∈l,0≤t∧t<(V:Int)then 0 else 133
theorem SN{n:Nat}{m:Mod}{D H half C Hd V L E:Nat}(h:zB m D H half C Hd V L E)(N:Eu m){l:List Int}(hb:l.length≤1048576)(B:ii n):
  gA n (m,l)=some (if Hf C V l=0 then Bx m l else[],Hf C V l)∧gD n (m,l)=some (if Hf C V l=0 then Bx m l else[],Hf C V l):=by
 have M:=h.r.ok;have R:=M.bs;have Q:=M.c;have X:=M.v;have Y:=M.kp.cm;have z:m.1.1=(V:Int):=X
 by_cases d:l.length=0∨C<l.length
 ·have e:Hf C V l=212:=by unfold Hf;rw[if_pos d]
  rw[e,if_neg (by decide)];constructor
  ·obtain⟨r,J,K⟩:=Bw h.ok.o B;rw[m6,J];simp only[aa];rw[show(r.2 !=0)=false by simp[K.2 N],jT,Q];rcases d with d |d
   ·rw[d];rfl
   ·rw[show((l.length:Int)==0)=false by rw[beq_eq_false_iff_ne];omega,jT];simp only[aa];rw[xY]
  ·obtain⟨r,J,K⟩:=Bv h.ok.o B;rw[ny,J];simp only[aa];rw[show(r.2.2 !=0)=false by simp[K.2 N],jT,Q];rcases d with d |d
   ·rw[d];rfl
   ·rw[show((l.length:Int)==0)=false by rw[beq_eq_false_iff_ne];omega,jT];simp only[aa];rw[xY]
 have Z:l.length≠0:=fun u=>d (.inl u);have x:l.length≤C:=by omega
 have lm:=fM (L:=fun k j (_:Unit)=>eR n k (l,(),l,(l.length:Int),j,(m,pK m),())) (len:=l.length) (fun _=>()) (fun i=>0≤l.getD i 0∧l.getD i 0<m.1.1) (fun i=> .inl ([],133,())) (.inr (l,(),(m,pK m),())) (by
  intro k j S _;show(_∧eR n (k+1) _=_)∨(_∧eR n (k+1) _=_);rw[qw,xY,kq S];simp only[aa];rw[A8,oU];simp only[aa]
  by_cases a:0≤l.getD j 0∧l.getD j 0<m.1.1
  ·rw[decide_eq_true (show l.getD j 0≥0 from a.1),decide_eq_true (show l.getD j 0<m.1.1 from a.2)];simp only[Bool.and_self,cD,jT];rw[bu];exact .inl ⟨a,rfl⟩
  ·refine .inr ⟨a,?_⟩;have:(decide (l.getD j 0≥0)&&decide (l.getD j 0<m.1.1))=false:=by
    rw[Bool.and_eq_false_iff,decide_eq_false_iff_not,decide_eq_false_iff_not]
    by_cases q:l.getD j 0≥0
    ·exact .inr fun u=>a ⟨q,u⟩
    ·exact .inl q
   rw[this];rfl) (by
  intro k;show eR n (k+1) _=_;rw[qw,ag,if_neg (by simp)]) n (by omega)
 have W:=fM (L:=fun k j (_:Unit)=>eZ n k (l,(),j,m,())) (len:=l.length) (fun _=>()) (fun i=>0≤l.getD i 0∧l.getD i 0<m.1.1) (fun i=> .inl ([],133,())) (.inr (l,(),m,())) (by
  intro k j S _;show(_∧eZ n (k+1) _=_)∨(_∧eZ n (k+1) _=_);rw[qG,xY,kq S];simp only[aa];rw[IK,oU];simp only[aa]
  by_cases a:0≤l.getD j 0∧l.getD j 0<m.1.1
  ·rw[decide_eq_true (show l.getD j 0≥0 from a.1),decide_eq_true (show l.getD j 0<m.1.1 from a.2)];simp only[Bool.and_self,cD,jT];rw[bu];exact .inl ⟨a,rfl⟩
  ·refine .inr ⟨a,?_⟩;have:(decide (l.getD j 0≥0)&&decide (l.getD j 0<m.1.1))=false:=by
    rw[Bool.and_eq_false_iff,decide_eq_false_iff_not,decide_eq_false_iff_not]
    by_cases q:l.getD j 0≥0
    ·exact .inr fun u=>a ⟨q,u⟩
    ·exact .inl q
   rw[this];rfl) (by
  intro k;show eZ n (k+1) _=_;rw[qG,ag,if_neg (by simp)]) n (by omega)
 have b:(∀t∈l,0≤t∧t<(V:Int))↔∀i,i<l.length→0≤l.getD i 0∧l.getD i 0<m.1.1:=by
  constructor
  ·intro u i I;rw[dy I,z];exact u _ (ap I)
  ·intro u t a;obtain⟨i,I,rfl⟩:=cZ a;have:=u i I;rw[dy I,z]at this;exact this
 obtain⟨r,J,K⟩:=Bw h.ok.o B;obtain⟨q,q1,q2⟩:=Bv h.ok.o B;rw[m6,J,ny,q1];simp only[aa];rw[show(r.2 !=0)=false by simp[K.2 N],jT,show(q.2.2 !=0)=false by simp[q2.2 N],jT,show((l.length:Int)==0)=false by rw[beq_eq_false_iff_ne];omega,jT,Q];simp only[aa];rw[show decide ((l.length:Int)>(C:Int))=false by rw[decide_eq_false_iff_not];omega];simp only[jT];rw[Gh];simp only[aa];rw[show((m,m.1.2.2.2.1,m.2.2.2.2.1,m.2.2.2.2.2.1,m.2.2.2.2.2.2.2.1):Mod×En)=(m,pK m)from rfl]
 by_cases w:∀t∈l,0≤t∧t<(V:Int)
 ·have e:Hf C V l=0:=by unfold Hf;rw[if_neg d,if_pos w]
  rw[e,if_pos rfl];have T:P1 m l:=fun t a=>by rw[z];exact w t a
  obtain⟨U,b2,b3,b4,-⟩:=h.rows T x L (av _);have y:l.length -1<(lw m l L).length:=by omega
  have g:Bx m l=OH m (lw m l L)[l.length -1]:=by unfold Bx;rw[R,dy y]
  constructor
  ·rcases lm with⟨-,O⟩|⟨j,p,-,F,-⟩
   case inr=>exact absurd (b.1 w j p) F
   rw[O];simp only[aa,ea];obtain⟨pr,t1⟩:=P2 h T x B;rw[t1];simp only[aa,aci];rw[U,bu,show(l.length:Int) -1=((l.length -1:Nat):Int)by omega,cO (by rw[aci];exact y)];simp only[aa,List.getElem_map];rw[g]
  ·rcases W with⟨-,O⟩|⟨j,p,-,F,-⟩
   case inr=>exact absurd (b.1 w j p) F
   rw[O];simp only[aa,ea];rw[Yz h T x B];simp only[aa,aci];rw[U,bu,show(l.length:Int) -1=((l.length -1:Nat):Int)by omega,cO (by rw[aci];exact y)];simp only[aa,List.getElem_map];rw[g]
 ·have e:Hf C V l=133:=by unfold Hf;rw[if_neg d,if_neg w]
  rw[e,if_neg (by decide)];constructor
  ·rcases lm with⟨p,-⟩|⟨j,p,-,F,P⟩
   ·exact absurd (b.2 p) w
   ·rw[P];rfl
  ·rcases W with⟨p,-⟩|⟨j,p,-,F,P⟩
   ·exact absurd (b.2 p) w
   ·rw[P];rfl
theorem Q9{m:Mod}{D H half C Hd V L E:Nat}(h:zB m D H half C Hd V L E){l:List Int}(i:P1 m l)(j:l.length≠0)(d:l.length≤C):(Bx m l).length=V∧∀y∈Bx m l,-1040384≤y∧y≤1040384:=by
 have c:=h.r.ok.bs;obtain⟨q,g,t,u,-⟩:=h.rows i d L (av _);have b:l.length -1<(lw m l L).length:=by omega
 have a:Bx m l=OH m (lw m l L)[l.length -1]:=by unfold Bx;rw[c,dy b]
 rw[a];obtain⟨o,p⟩:=g _ (ap b);have:=h.sc o (fun y k=>by have:=p y k;omega) (n:=2000000000) (av _);exact⟨this.1,this.2.1⟩
theorem Jb{n:Nat}{m:Mod}(h:WN m)(c:¬ Eu m){l:List Int}(b:ii n):gA n (m,l)=some ([],210)∧gD n (m,l)=some ([],210):=by
 obtain⟨r,i,j⟩:=Bw h.o b;obtain⟨q,d,g⟩:=Bv h.o b;rw[m6,i,ny,d];simp only[aa];rw[show(r.2 !=0)=true by rw[bne_iff_ne];exact fun a=>c (j.1 a),Q7,show(q.2.2 !=0)=true by rw[bne_iff_ne];exact fun a=>c (g.1 a),Q7];exact⟨rfl,rfl⟩
abbrev BX:Ty:=.sl (.int .i8)
abbrev acg:Ty:=.sl (.int .i64)
abbrev TN:Ty:=.int .i64
abbrev SO:Ty:=.pair BX (.pair BX (.pair BX (.pair BX (.pair BX (.pair BX (.pair TN (.pair TN (.pair TN (.pair TN (.pair TN (.pair BX (.pair BX (.pair BX (.pair TN (.pair TN TN)))))))))))))))
theorem aaB{α:Type}{f:α→Nat}(h:∀x,1≤f x):∀l:List α,l.length≤(l.map f).sum
 |[]=>by simp
 |x::l=>by
  have:=aaB h l;have:=h x;simp;omega
theorem Xu{α:Type}{f:α→Nat}:∀{l:List α} {x:α},x∈l→f x≤(l.map f).sum
 |y::l,x,h=>by
  rcases List.mem_cons.1 h with rfl |h
  ·simp
  ·have:=Xu (f:=f) h;simp;omega
theorem wR{e:Ty}(a:∀x:e.den,1≤bB e x)(l:List e.den):l.length+1≤bB (.sl e) l:=by
 have:=aaB (f:=bB e) a l;show _≤1+(l.map (bB e)).sum;omega
theorem Ve{e:Ty}{l:List e.den}{x:e.den}(h:x∈l):bB e x≤bB (.sl e) l:=by
 have:=Xu (f:=bB e) h;show _≤1+(l.map (bB e)).sum;omega
theorem aaC(l:List Int):l.length+1≤bB BX l:=wR (e:=.int .i8) (fun _=>av 1) l
theorem aeo(l:List Int):l.length+1≤bB acg l:=wR (e:=.int .i64) (fun _=>av 1) l
theorem Ev{l:List Int}(h:OW BX l):aO l:=fun x a=>h x a
theorem aiV{b:vz}(h:OW SO b):Wx b:=⟨Ev h.1,Ev h.2.1,Ev h.2.2.1,Ev h.2.2.2.1,Ev h.2.2.2.2.1,Ev h.2.2.2.2.2.1,Ev h.2.2.2.2.2.2.2.2.2.2.2.1,Ev h.2.2.2.2.2.2.2.2.2.2.2.2.1,Ev h.2.2.2.2.2.2.2.2.2.2.2.2.2.1⟩
theorem aep{a0 a1 a2 a3 a4 a5 a6 a7 a8 a9 a10 a11 a12 a13 a14 a15 a16:Nat}(h:a0+(a1+(a2+(a3+(a4+(a5+(a6+(a7+(a8+(a9+(a10+(a11+(a12+(a13+(a14+(a15+(a16))))))))))))))))≤1048576):a0≤1048576∧a1≤1048576∧a2≤1048576∧a3≤1048576∧a4≤1048576∧a5≤1048576∧a11≤1048576∧a12≤1048576∧a13≤1048576:=by omega
theorem SP{l:List Int}(h:bB BX l≤1048576):l.length≤1000000000:=by
 have:=aaC l;omega
theorem agB{b:vz}(h:bB SO b≤1048576):aap b:=by
 obtain⟨a,c,d,g,i,j,k,l,n⟩:=aep (a0:=bB BX b.1) (a1:=bB BX b.2.1) (a2:=bB BX b.2.2.1) (a3:=bB BX b.2.2.2.1) (a4:=bB BX b.2.2.2.2.1) (a5:=bB BX b.2.2.2.2.2.1) (a6:=bB TN b.2.2.2.2.2.2.1) (a7:=bB TN b.2.2.2.2.2.2.2.1) (a8:=bB TN b.2.2.2.2.2.2.2.2.1) (a9:=bB TN b.2.2.2.2.2.2.2.2.2.1) (a10:=bB TN b.2.2.2.2.2.2.2.2.2.2.1) (a11:=bB BX b.2.2.2.2.2.2.2.2.2.2.2.1) (a12:=bB BX b.2.2.2.2.2.2.2.2.2.2.2.2.1) (a13:=bB BX b.2.2.2.2.2.2.2.2.2.2.2.2.2.1) (a14:=bB TN b.2.2.2.2.2.2.2.2.2.2.2.2.2.2.1) (a15:=bB TN b.2.2.2.2.2.2.2.2.2.2.2.2.2.2.2.1) (a16:=bB TN b.2.2.2.2.2.2.2.2.2.2.2.2.2.2.2.2) h;exact⟨SP a,SP c,SP d,SP g,SP i,SP j,SP k,SP l,SP n⟩
abbrev agC:Ty:=.pair TN (.pair TN (.pair TN (.pair TN (.pair TN TN))))
abbrev aiZ:Ty:=.pair (.sl .str) (.sl (.pair TN (.pair TN TN)))
abbrev WO:Ty:=.pair agC (.pair aiZ (.pair BX (.pair TN (.pair BX (.pair BX (.pair (.sl SO) (.pair BX (.pair BX (.pair BX TN)))))))))
theorem aaD{a b c d e f g h i j k l:Nat}(hh:a+((b+c)+(d+(e+(f+(g+(h+(i+(j+(k+l)))))))))≤1048576):b≤1048576∧c≤1048576∧d≤1048576∧f≤1048576∧g≤1048576∧h≤1048576∧i≤1048576∧j≤1048576∧k≤1048576:=by omega
theorem Ra{l:List Int}(h:bB BX l≤1048576):l.length≤1048576:=by
 have:=aaC l;omega
theorem agD{m:Mod}(h:bB WO m≤1048576):WD m:=by
 obtain⟨z,B,n,o,p,q,r,t,u⟩:=aaD (a:=bB agC m.1) (b:=bB (.sl .str) m.2.1.1) (c:=bB (.sl (.pair TN (.pair TN TN))) m.2.1.2) (d:=bB BX m.2.2.1) (e:=bB TN m.2.2.2.1) (f:=bB BX m.2.2.2.2.1) (g:=bB BX m.2.2.2.2.2.1) (h:=bB (.sl SO) m.2.2.2.2.2.2.1) (i:=bB BX m.2.2.2.2.2.2.2.1) (j:=bB BX m.2.2.2.2.2.2.2.2.1) (k:=bB BX m.2.2.2.2.2.2.2.2.2.1) (l:=bB TN m.2.2.2.2.2.2.2.2.2.2) h;have D:m.2.1.1.length+1≤bB (.sl .str) m.2.1.1:=wR (e:=.str) (fun x=>Nat.le_add_left 1 _) m.2.1.1;have E:m.2.1.2.length+1≤bB (.sl (.pair TN (.pair TN TN))) m.2.1.2:=wR (e:=.pair TN (.pair TN TN)) (fun x=>Nat.le_add_right 1 _) m.2.1.2;have F:m.2.2.2.2.2.2.1.length+1≤bB (.sl SO) m.2.2.2.2.2.2.1:=wR (e:=SO) (fun x=>Nat.le_trans (Nat.le_trans (Nat.le_add_left 1 _) (aaC x.1)) (Nat.le_add_right _ _)) m.2.2.2.2.2.2.1;refine⟨by omega,fun x y=> ?_,by omega,Ra n,Ra o,Ra p,by omega,fun b w=> ?_,Ra r,Ra t,Ra u⟩
 ·have:x.length+1≤bB (.sl .str) m.2.1.1:=Ve (e:=.str) (l:=m.2.1.1) (x:=x) y;omega
 ·have:bB SO b≤bB (.sl SO) m.2.2.2.2.2.2.1:=Ve (e:=SO) (l:=m.2.2.2.2.2.2.1) (x:=b) w;exact agB (Nat.le_trans this q)
structure OkM (m:Mod):Prop where
 len:WD m
 e:aO m.2.2.1
 cos:aO m.2.2.2.2.1
 sin:aO m.2.2.2.2.2.1
 b:∀b∈m.2.2.2.2.2.2.1,Wx b
 be:aO m.2.2.2.2.2.2.2.1
 g:aO m.2.2.2.2.2.2.2.2.1
 u:aO m.2.2.2.2.2.2.2.2.2.1
theorem ai0{m:Mod}(h:OW WO m)(c:bB WO m≤1048576):OkM m:=
 ⟨agD c,Ev h.2.2.1,Ev h.2.2.2.2.1,Ev h.2.2.2.2.2.1,fun b a=>aiV (h.2.2.2.2.2.2.1 b a),Ev h.2.2.2.2.2.2.2.1,Ev h.2.2.2.2.2.2.2.2.1,Ev h.2.2.2.2.2.2.2.2.2.1⟩
end Go.Am.Pu
